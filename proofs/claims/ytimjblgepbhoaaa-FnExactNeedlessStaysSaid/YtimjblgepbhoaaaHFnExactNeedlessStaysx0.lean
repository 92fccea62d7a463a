import Derived.Test.YtimjblgepbhoaaaHStays0
import Derived.Test.YtimjblgepbhoaaaHStaysa
import Derived.Test.YtimjblgepbhoaaaHStaysb
import Derived.Test.YtimjblgepbhoaaaHStaysbt
import Derived.Test.YtimjblgepbhoaaaHStayse
import Derived.Test.YtimjblgepbhoaaaHStaysj
import Derived.Test.YtimjblgepbhoaaaHStayss
import Derived.Test.YtimjblgepbhoaaaHStaysu
import Derived.Test.YtimjblgepbhoaaaHStaysus
import Derived.Test.YtimjblgepbhoaaaHStaysz
namespace Go.Proofs.Ytimjblgepbhoaaa.PStays
noncomputable section
open Go.RowKit Go.Proofs.YtimjblgepbhoaaaW.PrintWords Go.Proofs.YtimjblgepbhoaaaW.PrintLast Go.Proofs.YtimjblgepbhoaaaW.PrintMore
attribute [local go_sem] max2_int min2_int max_two min_two max_three min_three max_four min_four   -- for this text's walks alone
set_option linter.unusedVariables false
set_option linter.unusedSimpArgs false
set_option maxHeartbeats 8000000
set_option maxRecDepth 100000
theorem zRk {α : Type} {d : Kd α} {t base : Nat} {w w' : World} {ok : Nat → Prop} {v : Value} {l : List α} (h : Kd.R d t w base ok v l) (hp : Kd.R d t w base ok v l → Kd.R d t w' base ok v l := by (intro h_; (with_reducible repeat (first | apply Kd.R_alloc | apply Kd.R_drewN | apply Kd.R_drew)); exact h_)) : Kd.R d t w' base ok v l := hp h
theorem zKi {k : IntKind} {h0 : _} {w : World} {A : Option Addr} {n : Nat} {l : List Int} (h : Kd.C (Kd.scalar (Value.int k) h0) w A n l) : Aside0 (Kd.C (Kd.int k) w A n l) := ⟨h⟩

def spec_NeedlessStays.l0 : Nat → List (List (S113)) → List Int → List Int → Int → List (S164) → List (S115) → Option (List Int × Int)
 | 0, _, _, _, _, _, _ => none
 | k + 1, x1, x2, x9, x10, xC, wC => if x10 < (x2.length : Int) then (if 0 ≤ x10 then (if x10 ≤ (x2.length : Int) then ((spec_l00Own.f (x2.take (x10 : Int).toNat)).bind fun SB => (if 0 ≤ (wrap64 (x10 + 1)) then (if (wrap64 (x10 + 1)) ≤ (x2.length : Int) then (if SB.length + (x2.drop ((wrap64 (x10 + 1)) : Int).toNat).length < 17592186044416 then ((spec_l11Loose.f k xC wC x1 (SB ++ (x2.drop ((wrap64 (x10 + 1)) : Int).toNat))).bind fun BC => (if BC < 0 then (if x9.length < 17592186044416 then (spec_NeedlessStays.l0 k x1 x2 (x9 ++ [rd x2 x10]) (wrap64 (x10 + 1)) xC wC) else (none)) else (spec_NeedlessStays.l0 k x1 x2 x9 (wrap64 (x10 + 1)) xC wC))) else (none)) else (none)) else (none))) else (none)) else (none)) else (some (x9, 0))
def spec_NeedlessStays.f (k : Nat) (l0_0 : List (S164)) (l0_1 : List (S115)) (l1 : List (List (S113))) (l2 : List Int) : Option (List Int × Int) := (spec_l11Winds.f k l0_0 l0_1 l1 l2).bind fun TB => (if TB = 0 then ((spec_l11Loose.f k l0_0 l0_1 l1 l2).bind fun yD => (if yD ≥ 0 then (some (([] : List Int), 10)) else (spec_NeedlessStays.l0 k l1 l2 (([] : List Int)) 0 l0_0 l0_1))) else (some (([] : List Int), TB)))
theorem spec_NeedlessStays.calls (k : Nat) (A0_0 : Option Addr) (c0_0 : Nat) (l0_0 : List (S164)) (A0_1 : Option Addr) (c0_1 : Nat) (l0_1 : List (S115)) (A1 : Option Addr) (c1 : Nat) (l1 : List (List (S113))) (A2 : Option Addr) (c2 : Nat) (l2 : List Int) (r1 : List Int) (r2 : Int) (w : World) (hr0_0 : Kd.C k164 w A0_0 l0_0.length l0_0) (hc0_0 : l0_0.length ≤ c0_0) (hr0_1 : Kd.C k115 w A0_1 l0_1.length l0_1) (hc0_1 : l0_1.length ≤ c0_1) (hr1 : Kd.C (Kd.slice 113 k113) w A1 l1.length l1) (hc1 : l1.length ≤ c1) (hr2 : Kd.C (Kd.int .i64) w A2 l2.length l2) (hc2 : l2.length ≤ c2) (h : spec_NeedlessStays.f k l0_0 l0_1 l1 l2 = some (r1, r2)) :
  Calls Try.prog 56 #[.agg #[.slice A0_0 l0_0.length c0_0, .slice A0_1 l0_1.length c0_1], .slice A1 l1.length c1, .slice A2 l2.length c2] w fun e w' => ∃ v0_ : Value, e = .returned (.tuple #[v0_, .int .i64 r2]) ∧ Kd.R (Kd.int .i64) 2 w' w.heap.size (fun _ => True) v0_ r1 ∧ Below w.heap.size w w' := by
 have DF := Try.underlying27
 have CA := zQ hr0_0
 have EA := zQ hc0_0
 clear hr0_0 hc0_0
 have BA := zQ hr0_1
 have DA := zQ hc0_1
 clear hr0_1 hc0_1
 have gC := zQ hr1
 have iC := zQ hc1
 clear hr1 hc1
 have KB := zQ hr2
 have hC := zQ hc2
 clear hr2 hc2
 have HB := zQ (Below.refl w.heap.size w)
 have H := h; unfold spec_NeedlessStays.f at H
 clear h
 replace H := zob H; obtain ⟨TB, A4, H⟩ := H
 by_cases c5 : TB = 0
 ·rw [if_pos c5] at H
  have ID : (TB == 0) = true := beq_iff_eq.mpr c5; have HD : (TB != 0) = false := bne_eq_false_iff_eq.mpr c5; clear c5; replace H := zob H; obtain ⟨yD, A6, H⟩ := H
  by_cases c7 : yD ≥ 0
  ·rw [if_pos c7] at H
   have mC := decide_eq_true c7; clear c7
   simp only [Option.some.injEq, Prod.mk.injEq] at H
   obtain ⟨rfl, rfl⟩ := H
   go_enter Try.func56, Try.ntmps56
   go_wp2_with (first | ((with_reducible refine zd 3 ?_); refine zbx (N := 3) (cs := #[.slice A0_0 l0_0.length c0_0, .slice A0_1 l0_1.length c0_1]) (t := 27) ?_; intro JA hg w8 IA hb; have hA := zQ (IA); have VC := zgz hg HB.out; have rA := VC; replace HB := zbs HB.out hb; clear hb IA hg) | ((with_reducible refine zgc 105 ?_); refine zgo (some 14) Try.func105 #[.pointer (some ⟨JA, 0, none⟩), .slice A1 l1.length c1, .slice A2 l2.length c2] ?_; (with_reducible refine (spec_l11Winds.calls k JA A0_0 c0_0 l0_0 A0_1 c0_1 l0_1 _ _ l1 _ _ l2 TB _ (zb hA.out) (zC CA.out HB.out) EA.out (zC BA.out HB.out) DA.out (zC gC.out HB.out) iC.out (zC KB.out HB.out) hC.out A4.out).mono ?_); rintro e w9 ⟨rfl, hb⟩; refine ⟨_, rfl, ?_⟩; replace hA := zbl hA.out hb; replace HB := zbs2 HB.out rA.out hb; (try clear hb)) | ((with_reducible refine zgc 106 ?_); refine zgo (some 20) Try.func106 #[.pointer (some ⟨JA, 0, none⟩), .slice A1 l1.length c1, .slice A2 l2.length c2] ?_; (with_reducible refine (spec_l11Loose.calls k JA A0_0 c0_0 l0_0 A0_1 c0_1 l0_1 _ _ l1 _ _ l2 yD _ (zb hA.out) (zC CA.out HB.out) EA.out (zC BA.out HB.out) DA.out (zC gC.out HB.out) iC.out (zC KB.out HB.out) hC.out A6.out).mono ?_); rintro e yH ⟨rfl, hb⟩; refine ⟨_, rfl, ?_⟩; replace hA := zbl hA.out hb; replace HB := zbs2 HB.out rA.out hb; (try clear hb)))
   go_ret2
   exact ⟨_, zE, by first | exact Kd.R_nil _ _ _ _ _ | exact Kd.N_nil _ _ _ _ _ | exact Kd.V_nil _ _ _ _ _ | exact Kd.Q_nil _ _ _ _ _ | exact Kd.S_nil _ _ _ _ _, zB2 HB.out rA.out⟩
  ·rw [if_neg c7] at H
   have mC := decide_eq_false c7; clear c7; obtain ⟨yF, nE⟩ : ∃ y_ : List Int, y_ = (([] : List Int)) := ⟨_, rfl⟩; replace H : (spec_NeedlessStays.l0 k l1 l2 yF 0 l0_0 l0_1) = some (r1, r2) := zh H; have IE := zQ nE; clear nE; have H' := zQ H; clear H
   go_enter Try.func56, Try.ntmps56
   go_wp2_with (first | ((with_reducible refine zd 3 ?_); refine zbx (N := 3) (cs := #[.slice A0_0 l0_0.length c0_0, .slice A0_1 l0_1.length c0_1]) (t := 27) ?_; intro JA hg JJ IA hb; have hA := zQ (IA); have VC := zgz hg HB.out; have rA := VC; replace HB := zbs HB.out hb; clear hb IA hg) | ((with_reducible refine zgc 105 ?_); refine zgo (some 14) Try.func105 #[.pointer (some ⟨JA, 0, none⟩), .slice A1 l1.length c1, .slice A2 l2.length c2] ?_; (with_reducible refine (spec_l11Winds.calls k JA A0_0 c0_0 l0_0 A0_1 c0_1 l0_1 _ _ l1 _ _ l2 TB _ (zb hA.out) (zC CA.out HB.out) EA.out (zC BA.out HB.out) DA.out (zC gC.out HB.out) iC.out (zC KB.out HB.out) hC.out A4.out).mono ?_); rintro e eI ⟨rfl, hb⟩; refine ⟨_, rfl, ?_⟩; replace hA := zbl hA.out hb; replace HB := zbs2 HB.out rA.out hb; (try clear hb)) | ((with_reducible refine zgc 106 ?_); refine zgo (some 20) Try.func106 #[.pointer (some ⟨JA, 0, none⟩), .slice A1 l1.length c1, .slice A2 l2.length c2] ?_; (with_reducible refine (spec_l11Loose.calls k JA A0_0 c0_0 l0_0 A0_1 c0_1 l0_1 _ _ l1 _ _ l2 yD _ (zb hA.out) (zC CA.out HB.out) EA.out (zC BA.out HB.out) DA.out (zC gC.out HB.out) iC.out (zC KB.out HB.out) hC.out A6.out).mono ?_); rintro e xH ⟨rfl, hb⟩; refine ⟨_, rfl, ?_⟩; replace hA := zbl hA.out hb; replace HB := zbs2 HB.out rA.out hb; (try clear hb)) | ((with_reducible refine zd 22 ?_); refine Kd.R_lit (Kd.int .i64) _ 2 ?hg (N := 22) ?hd (xs := ([] : List Int)) (inner := []) (ok := fun _ => True) (okp := fun _ => True) ?hr ?hp (fun _ hk => hk) trivial (Below.refl _ _) (Nat.le_refl _) (by simp) ?_; (case hd => rfl); (case hg => rfl); (case hr => first | (go_simp; done) | (go_simp; rfl)); (case hp => exact (Reps.none _ _)); intro GI IJ CD hb hg_ hnew_; clear hg_ hnew_; (first | rw [← IE.out] at CD | (simp only [Int.reduceToNat] at CD; rw [← IE.out] at CD)); have oG := zQ (Kd.R_lower CD (below_size (zB2 HB.out rA.out))); replace hA := zbl hA.out hb; replace HB := zbs2 HB.out rA.out hb; clear hb CD))
   go_loopg [9, 10] k (fun kq v9 HI w' => ∃ (bB : List Int) (pA : Int), HI = .int .i64 pA ∧ Aside0 (spec_NeedlessStays.l0 kq l1 l2 bB pA l0_0 l0_1 = some (r1, r2)) ∧ Aside0 (kq ≤ k) ∧ Aside0 (Kd.R (Kd.int .i64) 2 w' w.heap.size (fun _ => True) v9 bB) ∧ Aside0 (w'.heap[JA]? = some (.cells #[(.slice A0_0 l0_0.length c0_0), (.slice A0_1 l0_1.length c0_1)] 27 (0, 0))) ∧ Aside0 (Below w.heap.size w w'))
   case atStart => exact ⟨(yF), (0), (zF), H', ⟨Nat.le_refl _⟩, ⟨zR oG.out⟩, ⟨zb hA.out⟩, ⟨zB2 HB.out rA.out⟩⟩
   case round =>
    clear H'; (try clear c1); (try clear c2); (try clear p2); (try clear c5); (try clear ID); (try clear HD); (try clear c7); (try clear mC); (try clear RH); obtain ⟨bB, pA, rfl, HA, iE, nA, hA, HB⟩ := hrel
    cases gk with
    | zero => exact absurd HA.out (by simp [spec_NeedlessStays.l0])
    | succ k1 =>
     have H := HA.out; clear HA
     simp only [spec_NeedlessStays.l0] at H
     by_cases uF : pA < (l2.length : Int)
     ·rw [if_pos uF] at H
      have fG := decide_eq_true uF; clear uF
      by_cases eG : 0 ≤ pA
      ·rw [if_pos eG] at H
       have PH := eq_true eG; have OH := decide_eq_true eG; clear eG
       by_cases dG : pA ≤ (l2.length : Int)
       ·rw [if_pos dG] at H
        have NH := eq_true dG; have MH := decide_eq_true dG; clear dG; replace H := zob H; obtain ⟨SB, BG, H⟩ := H; obtain ⟨OA, nC⟩ : ∃ j_ : Int, (wrap64 (pA + 1)) = j_ := ⟨_, rfl⟩
        replace H : (if 0 ≤ (OA) then (if (OA) ≤ (l2.length : Int) then (if SB.length + (l2.drop ((OA) : Int).toNat).length < 17592186044416 then ((spec_l11Loose.f k1 l0_0 l0_1 l1 (SB ++ (l2.drop ((OA) : Int).toNat))).bind fun BC => (if BC < 0 then (if bB.length < 17592186044416 then (spec_NeedlessStays.l0 k1 l1 l2 (bB ++ [rd l2 pA]) OA l0_0 l0_1) else (none)) else (spec_NeedlessStays.l0 k1 l1 l2 bB OA l0_0 l0_1))) else (none)) else (none)) else (none)) = some (r1, r2) := by first | (rw [nC] at H; exact H) | (simp only [nC] at H ⊢; exact H)
        (try rw [nC] at BG)
        have hji20w : (IntKind.i64.wrap (pA + 1)) = OA := (i64_w _).trans nC
        by_cases SD : 0 ≤ (OA)
        ·rw [if_pos SD] at H
         have bG := eq_true SD; have LH := decide_eq_true SD; clear SD
         by_cases RD : (OA) ≤ (l2.length : Int)
         ·rw [if_pos RD] at H
          have aG := eq_true RD; have KH := decide_eq_true RD; clear RD
          by_cases CG : SB.length + (l2.drop ((OA) : Int).toNat).length < 17592186044416
          ·rw [if_pos CG] at H
           have JE := zQ CG; clear CG; obtain ⟨jD, mE⟩ : ∃ y_ : List Int, y_ = (SB ++ (l2.drop ((OA) : Int).toNat)) := ⟨_, rfl⟩; replace H : ((spec_l11Loose.f k1 l0_0 l0_1 l1 jD).bind fun BC => (if BC < 0 then (if bB.length < 17592186044416 then (spec_NeedlessStays.l0 k1 l1 l2 (bB ++ [rd l2 pA]) OA l0_0 l0_1) else (none)) else (spec_NeedlessStays.l0 k1 l1 l2 bB OA l0_0 l0_1))) = some (r1, r2) := zh H; have HE := zQ mE; clear mE; replace H := zob H; obtain ⟨BC, AG, H⟩ := H
           by_cases mD : BC < 0
           ·rw [if_pos mD] at H
            have JD := decide_eq_true mD; clear mD
            by_cases fE : bB.length < 17592186044416
            ·rw [if_pos fE] at H
             have MD := zQ fE; clear fE; obtain ⟨xF, lE⟩ : ∃ y_ : List Int, y_ = (bB ++ [rd l2 pA]) := ⟨_, rfl⟩; replace H : (spec_NeedlessStays.l0 k1 l1 l2 xF OA l0_0 l0_1) = some (r1, r2) := zh H; have kG := zQ lE; clear lE; have H' := zQ H; clear H; obtain ⟨i027, vE, _, rE, _⟩ := info_parts info2; obtain ⟨hcut27, hA27, hC27⟩ := print_take_of (P := Try.prog) (Value.int .i64) 0 31 2 .i64 Try.underlying31 vE rE A2 c2 l2 pA (zD) (zD) hC.out; have ND := zKi (Kd.C_of_reads (h1 := fun _ => rfl) (hA27 _ (Kd.reads_of_C KB.out))); have PD := zQ hC27; clear hA27 hC27 vE rE
             go_wp2_with (first | ((with_reducible refine zgc 79 ?_); refine goesL_ (some 32) rfl rfl Try.func79 (by kernel_rfl) rfl #[.slice A2 (l2.take (pA : Int).toNat).length c2] rfl (by (try simp only [List.map_toArray, List.map_cons, List.map_nil]); first | done | (rw [show (l2.take (pA : Int).toNat).length = pA.toNat from (by rw [List.length_take]; have h_ : (pA : Int) ≤ (l2.length : Int) := zD; omega)] <;> rfl) | rfl | (simp only [List.length_drop, List.length_take]; rfl)) ?_; (with_reducible refine (spec_l00Own.calls _ _ (l2.take (pA : Int).toNat) SB _ (zC ND.out HB.out) PD.out BG.out).mono ?_); rintro e cI ⟨KE, rfl, tA, hb⟩; refine ⟨_, rfl, ?_⟩; have dC := zQ (Kd.R_lower (Kd.R_new' tA (Kd.R_lt (zR nA.out))) (below_size (zB2 HB.out rA.out))); replace nA := zQ (Kd.R_elder' (zR nA.out) (Kd.R_base tA) hb); replace hA := zbl hA.out hb; replace HB := zbs2 HB.out rA.out hb; (try clear hb); (try clear tA); obtain ⟨i029, uE, _, qE, _⟩ := info_parts info2; obtain ⟨MJ, hcut29, hA29, hC29⟩ := print_drop_of (P := Try.prog) (Value.int .i64) 0 31 2 .i64 Try.underlying31 uE qE A2 c2 l2 (OA) (zD) (zD) hC.out; have TC := zKi (Kd.C_of_reads (h1 := fun _ => rfl) (hA29 _ (Kd.reads_of_C KB.out))); have qG := zQ hC29; clear hA29 hC29 uE qE) | ((with_reducible refine gate_builtin (b := .append) (xs := #[.tmp 33, .tmp 37]) rfl ?_); at_builtin; refine Kd.R_append_rows (Kd.int .i64) (w0 := w) w.heap.size rfl (.tmp 33) (.tmp 37) 31 2 (.int .i64 0) 8 rfl Try.underlying31 info2 rfl (by decide) (by omega) KE SB (l2.drop ((OA) : Int).toNat) _ _ _ (fun k_ => some k_ ≠ (u9 : Value).ownBlock) (fun _ => False) rfl rfl ?aO ?aR (fun _ _ h => h) (fun _ h => h.elim) ?aF ?aB ?aS ?aL ?_; (case aR => first | (rw [← show (l2.drop ((OA) : Int).toNat).length = (l2.length - (OA).toNat) from List.length_drop]; exact zC TC.out HB.out) | (exact zC TC.out HB.out)); (case aB => exact (zB2 HB.out rA.out)); (case aF => exact (fun k_ hk => Kd.fresh' (Kd.R_lt (zR nA.out)) k_ hk)); (case aO => exact (by (with_reducible repeat (first | apply Kd.R_alloc | apply Kd.R_drewN | apply Kd.R_drew)); exact Kd.R_mono dC.out (fun _ hk => hk.2))); (case aS => exact (below_size (zB2 HB.out rA.out))); (case aL => have := JE.out; have hlx_ := (show (l2.drop ((OA) : Int).toNat).length = (l2.length - (OA).toNat) from List.length_drop); omega); intro HG wH ho hb hg hat; rw [← HE.out] at ho; have ZA := zQ (ho); replace nA := zQ (Kd.R_after (ok := (fun _ => True)) (zR nA.out) hg hat); replace hA := zQ (blk_grown (g := JA) (o := .cells #[.slice A0_0 l0_0.length c0_0, .slice A0_1 l0_1.length c0_1] 27 (0, 0)) (zb hA.out) hg (Kd.R_ne dC.out hA.out (by decide))); replace HB := zQ (hb); clear dC ho hb hg hat; obtain ⟨sG, RF, cH⟩ := Kd.R_slice ZA.out; subst cH) | ((with_reducible refine zgc 106 ?_); refine zgo (some 41) Try.func106 #[.pointer (some ⟨JA, 0, none⟩), .slice A1 l1.length c1, .slice sG jD.length RF] ?_; (with_reducible refine (spec_l11Loose.calls k1 JA A0_0 c0_0 l0_0 A0_1 c0_1 l0_1 _ _ l1 _ _ jD BC _ (zb hA.out) (zC CA.out HB.out) EA.out (zC BA.out HB.out) DA.out (zC gC.out HB.out) iC.out ?side8 ((Kd.R_reads' ZA.out).2.1) AG.out).mono ?_); (case side8 => exact zk (Kd.R_reads' ZA.out).2.2); rintro e aI ⟨rfl, hb⟩; refine ⟨_, rfl, ?_⟩; replace nA := zRb nA.out hb; replace ZA := zRb ZA.out hb; replace hA := zbl hA.out hb; replace HB := zbs2 HB.out rA.out hb; (try clear hb); have ZE : 0 ≤ (pA : Int) := zD; have YE : pA < (l2.length : Int) := zD; obtain ⟨SH, dH, bD⟩ := Kd.at_int KB.out pA ZE YE; cases dH; replace bD := zw HB.out bD; replace ZE := eq_true ZE; replace YE := eq_true YE) | ((with_reducible refine gate_builtin (b := .append) (xs := #[.tmp 43, .tmp 48]) rfl ?_); at_builtin; refine Kd.R_append (Kd.int .i64) (w0 := w) w.heap.size rfl (.tmp 43) (.tmp 48) 31 2 (.int .i64 0) 8 rfl Try.underlying31 info2 rfl (by decide) (by omega) u9 bB (rd l2 pA) [.int .i64 (rd l2 pA)] (fun k_ => some k_ ≠ (.slice sG jD.length RF : Value).ownBlock) (fun _ => False) rfl rfl ?aP (fun _ hk => hk.elim) ?aF ?aO ?aB ?aS ?aL ?_; (case aP => exact rfl); (case aB => exact (zB2 HB.out rA.out)); (case aF => exact (fun k_ hk => Kd.fresh' (Kd.R_lt (zR ZA.out)) k_ hk)); (case aO => exact (by (with_reducible repeat (first | apply Kd.R_alloc | apply Kd.R_drewN | apply Kd.R_drew)); exact Kd.R_mono nA.out (fun _ hk => hk.2))); (case aS => exact (below_size (zB2 HB.out rA.out))); (case aL => have := MD.out; omega); intro EI ZH ho hb hg hat; rw [← kG.out] at ho; have nG := zQ (ho); replace hA := zQ (blk_grown (g := JA) (o := .cells #[.slice A0_0 l0_0.length c0_0, .slice A0_1 l0_1.length c0_1] 27 (0, 0)) (zb hA.out) hg (Kd.R_ne nA.out hA.out (by decide))); replace ZA := zQ (Kd.R_after (ok := (fun _ => True)) (by (with_reducible repeat (first | apply Kd.R_alloc | apply Kd.R_drewN | apply Kd.R_drew)); exact Kd.R_mono ZA.out (fun _ hk => ⟨trivial, hk⟩)) hg hat); replace HB := zQ (hb); clear nA ho hb hg hat))
             go_roundg k1
             case measure => have := iE.out; omega
             case rel => exact ⟨(xF), (OA), (by first | rfl | (simp; done) | (simp only [← nC] <;> (first | rfl | simp)) | (simp [*]; done)), H', ⟨by have := iE.out; omega⟩, ⟨by (with_reducible repeat (first | apply Kd.R_alloc | apply Kd.R_drewN | apply Kd.R_drew)); exact Kd.R_mono nG.out (fun _ hk => trivial)⟩, ⟨zb hA.out⟩, ⟨zB2 HB.out rA.out⟩⟩
            ·rw [if_neg fE] at H
             exact absurd H (by simp)
           ·rw [if_neg mD] at H
            have JD := decide_eq_false mD; clear mD; have H' := zQ H; clear H; obtain ⟨i034, tE, _, pE, _⟩ := info_parts info2; obtain ⟨hcut34, hA34, hC34⟩ := print_take_of (P := Try.prog) (Value.int .i64) 0 31 2 .i64 Try.underlying31 tE pE A2 c2 l2 pA (zD) (zD) hC.out; have ND := zKi (Kd.C_of_reads (h1 := fun _ => rfl) (hA34 _ (Kd.reads_of_C KB.out))); have PD := zQ hC34; clear hA34 hC34 tE pE
            go_wp2_with (first | ((with_reducible refine zgc 79 ?_); refine goesL_ (some 32) rfl rfl Try.func79 (by kernel_rfl) rfl #[.slice A2 (l2.take (pA : Int).toNat).length c2] rfl (by (try simp only [List.map_toArray, List.map_cons, List.map_nil]); first | done | (rw [show (l2.take (pA : Int).toNat).length = pA.toNat from (by rw [List.length_take]; have h_ : (pA : Int) ≤ (l2.length : Int) := zD; omega)] <;> rfl) | rfl | (simp only [List.length_drop, List.length_take]; rfl)) ?_; (with_reducible refine (spec_l00Own.calls _ _ (l2.take (pA : Int).toNat) SB _ (zC ND.out HB.out) PD.out BG.out).mono ?_); rintro e YH ⟨KE, rfl, tA, hb⟩; refine ⟨_, rfl, ?_⟩; have dC := zQ (Kd.R_lower (Kd.R_new' tA (Kd.R_lt (zR nA.out))) (below_size (zB2 HB.out rA.out))); replace nA := zQ (Kd.R_elder' (zR nA.out) (Kd.R_base tA) hb); replace hA := zbl hA.out hb; replace HB := zbs2 HB.out rA.out hb; (try clear hb); (try clear tA); obtain ⟨i036, sE, _, oE, _⟩ := info_parts info2; obtain ⟨LJ, hcut36, hA36, hC36⟩ := print_drop_of (P := Try.prog) (Value.int .i64) 0 31 2 .i64 Try.underlying31 sE oE A2 c2 l2 (OA) (zD) (zD) hC.out; have TC := zKi (Kd.C_of_reads (h1 := fun _ => rfl) (hA36 _ (Kd.reads_of_C KB.out))); have qG := zQ hC36; clear hA36 hC36 sE oE) | ((with_reducible refine gate_builtin (b := .append) (xs := #[.tmp 33, .tmp 37]) rfl ?_); at_builtin; refine Kd.R_append_rows (Kd.int .i64) (w0 := w) w.heap.size rfl (.tmp 33) (.tmp 37) 31 2 (.int .i64 0) 8 rfl Try.underlying31 info2 rfl (by decide) (by omega) KE SB (l2.drop ((OA) : Int).toNat) _ _ _ (fun k_ => some k_ ≠ (u9 : Value).ownBlock) (fun _ => False) rfl rfl ?aO ?aR (fun _ _ h => h) (fun _ h => h.elim) ?aF ?aB ?aS ?aL ?_; (case aR => first | (rw [← show (l2.drop ((OA) : Int).toNat).length = (l2.length - (OA).toNat) from List.length_drop]; exact zC TC.out HB.out) | (exact zC TC.out HB.out)); (case aB => exact (zB2 HB.out rA.out)); (case aF => exact (fun k_ hk => Kd.fresh' (Kd.R_lt (zR nA.out)) k_ hk)); (case aO => exact (by (with_reducible repeat (first | apply Kd.R_alloc | apply Kd.R_drewN | apply Kd.R_drew)); exact Kd.R_mono dC.out (fun _ hk => hk.2))); (case aS => exact (below_size (zB2 HB.out rA.out))); (case aL => have := JE.out; have hlx_ := (show (l2.drop ((OA) : Int).toNat).length = (l2.length - (OA).toNat) from List.length_drop); omega); intro HG DJ ho hb hg hat; rw [← HE.out] at ho; have ZA := zQ (ho); replace nA := zQ (Kd.R_after (ok := (fun _ => True)) (zR nA.out) hg hat); replace hA := zQ (blk_grown (g := JA) (o := .cells #[.slice A0_0 l0_0.length c0_0, .slice A0_1 l0_1.length c0_1] 27 (0, 0)) (zb hA.out) hg (Kd.R_ne dC.out hA.out (by decide))); replace HB := zQ (hb); clear dC ho hb hg hat; obtain ⟨nH, gH, YG⟩ := Kd.R_slice ZA.out; subst YG) | ((with_reducible refine zgc 106 ?_); refine zgo (some 41) Try.func106 #[.pointer (some ⟨JA, 0, none⟩), .slice A1 l1.length c1, .slice nH jD.length gH] ?_; (with_reducible refine (spec_l11Loose.calls k1 JA A0_0 c0_0 l0_0 A0_1 c0_1 l0_1 _ _ l1 _ _ jD BC _ (zb hA.out) (zC CA.out HB.out) EA.out (zC BA.out HB.out) DA.out (zC gC.out HB.out) iC.out ?side8 ((Kd.R_reads' ZA.out).2.1) AG.out).mono ?_); (case side8 => exact zk (Kd.R_reads' ZA.out).2.2); rintro e VH ⟨rfl, hb⟩; refine ⟨_, rfl, ?_⟩; replace nA := zRb nA.out hb; replace ZA := zRb ZA.out hb; replace hA := zbl hA.out hb; replace HB := zbs2 HB.out rA.out hb; (try clear hb)))
            go_roundg k1
            case measure => have := iE.out; omega
            case rel => exact ⟨(bB), (OA), (by first | rfl | (simp; done) | (simp only [← nC] <;> (first | rfl | simp)) | (simp [*]; done)), H', ⟨by have := iE.out; omega⟩, ⟨by (with_reducible repeat (first | apply Kd.R_alloc | apply Kd.R_drewN | apply Kd.R_drew)); exact Kd.R_mono nA.out (fun _ hk => trivial)⟩, ⟨zb hA.out⟩, ⟨zB2 HB.out rA.out⟩⟩
          ·rw [if_neg CG] at H
           exact absurd H (by simp)
         ·rw [if_neg RD] at H
          exact absurd H (by simp)
        ·rw [if_neg SD] at H
         exact absurd H (by simp)
       ·rw [if_neg dG] at H
        exact absurd H (by simp)
      ·rw [if_neg eG] at H
       exact absurd H (by simp)
     ·rw [if_neg uF] at H
      have fG := decide_eq_false uF; clear uF
      simp only [Option.some.injEq, Prod.mk.injEq] at H
      obtain ⟨rfl, rfl⟩ := H
      go_wp2
      go_ret2
      exact ⟨_, zE, zR nA.out, zB2 HB.out rA.out⟩
 ·rw [if_neg c5] at H
  have ID : (TB == 0) = false := beq_eq_false_iff_ne.mpr c5; have HD : (TB != 0) = true := bne_iff_ne.mpr c5
  simp only [Option.some.injEq, Prod.mk.injEq] at H
  obtain ⟨rfl, rfl⟩ := H
  go_enter Try.func56, Try.ntmps56
  go_wp2_with (first | ((with_reducible refine zd 3 ?_); refine zbx (N := 3) (cs := #[.slice A0_0 l0_0.length c0_0, .slice A0_1 l0_1.length c0_1]) (t := 27) ?_; intro JA hg CJ IA hb; have hA := zQ (IA); have VC := zgz hg HB.out; have rA := VC; replace HB := zbs HB.out hb; clear hb IA hg) | ((with_reducible refine zgc 105 ?_); refine zgo (some 14) Try.func105 #[.pointer (some ⟨JA, 0, none⟩), .slice A1 l1.length c1, .slice A2 l2.length c2] ?_; (with_reducible refine (spec_l11Winds.calls k JA A0_0 c0_0 l0_0 A0_1 c0_1 l0_1 _ _ l1 _ _ l2 TB _ (zb hA.out) (zC CA.out HB.out) EA.out (zC BA.out HB.out) DA.out (zC gC.out HB.out) iC.out (zC KB.out HB.out) hC.out A4.out).mono ?_); rintro e BJ ⟨rfl, hb⟩; refine ⟨_, rfl, ?_⟩; replace hA := zbl hA.out hb; replace HB := zbs2 HB.out rA.out hb; (try clear hb)))
  go_ret2
  exact ⟨_, zE, by first | exact Kd.R_nil _ _ _ _ _ | exact Kd.N_nil _ _ _ _ _ | exact Kd.V_nil _ _ _ _ _ | exact Kd.Q_nil _ _ _ _ _ | exact Kd.S_nil _ _ _ _ _, zB2 HB.out rA.out⟩

def impl_NeedlessStays.l0 : Nat → List (List (S113)) → List Int → List Int → List Int → Int → Int → List (S164) → List (S115) → Option (List Int × Int)
 | 0, _, _, _, _, _, _, _, _ => none
 | k + 1, x1, x2, x9, x25, x26, x27, vC, uC => if x27 < x26 then (if 0 ≤ x27 then (if x27 < (x25.length : Int) then ((impl_withoutBar.f k x2 (rd x25 x27)).bind fun AC => ((impl_looseWind.f k vC uC x1 AC).bind fun wD => (if wD < 0 then (if x9.length < 17592186044416 then (impl_NeedlessStays.l0 k x1 x2 (x9 ++ [rd x25 x27]) x25 x26 (wrap64 (x27 + 1)) vC uC) else (none)) else (impl_NeedlessStays.l0 k x1 x2 x9 x25 x26 (wrap64 (x27 + 1)) vC uC)))) else (none)) else (none)) else (some (x9, 0))
def impl_NeedlessStays.f (k : Nat) (l0_0 : List (S164)) (l0_1 : List (S115)) (l1 : List (List (S113))) (l2 : List Int) : Option (List Int × Int) := (impl_windsCode.f k l0_0 l0_1 l1 l2).bind fun RB => (if RB = 0 then ((impl_looseWind.f k l0_0 l0_1 l1 l2).bind fun xD => (if xD ≥ 0 then (some (([] : List Int), 10)) else (impl_NeedlessStays.l0 k l1 l2 (([] : List Int)) l2 (l2.length : Int) 0 l0_0 l0_1))) else (some (([] : List Int), RB)))
theorem impl_NeedlessStays.calls (k : Nat) (A0_0 : Option Addr) (c0_0 : Nat) (l0_0 : List (S164)) (A0_1 : Option Addr) (c0_1 : Nat) (l0_1 : List (S115)) (A1 : Option Addr) (c1 : Nat) (l1 : List (List (S113))) (A2 : Option Addr) (c2 : Nat) (l2 : List Int) (r1 : List Int) (r2 : Int) (w : World) (hr0_0 : Kd.C k164 w A0_0 l0_0.length l0_0) (hc0_0 : l0_0.length ≤ c0_0) (hr0_1 : Kd.C k115 w A0_1 l0_1.length l0_1) (hc0_1 : l0_1.length ≤ c0_1) (hr1 : Kd.C (Kd.slice 113 k113) w A1 l1.length l1) (hc1 : l1.length ≤ c1) (hr2 : Kd.C (Kd.int .i64) w A2 l2.length l2) (hc2 : l2.length ≤ c2) (h : impl_NeedlessStays.f k l0_0 l0_1 l1 l2 = some (r1, r2)) :
  Calls Try.prog 57 #[.agg #[.slice A0_0 l0_0.length c0_0, .slice A0_1 l0_1.length c0_1], .slice A1 l1.length c1, .slice A2 l2.length c2] w fun e w' => ∃ v0_ : Value, e = .returned (.tuple #[v0_, .int .i64 r2]) ∧ Kd.R (Kd.int .i64) 2 w' w.heap.size (fun _ => True) v0_ r1 ∧ Below w.heap.size w w' := by
 have DF := Try.underlying27
 have CA := zQ hr0_0
 have EA := zQ hc0_0
 clear hr0_0 hc0_0
 have BA := zQ hr0_1
 have DA := zQ hc0_1
 clear hr0_1 hc0_1
 have gC := zQ hr1
 have iC := zQ hc1
 clear hr1 hc1
 have KB := zQ hr2
 have hC := zQ hc2
 clear hr2 hc2
 have HB := zQ (Below.refl w.heap.size w)
 have H := h; unfold impl_NeedlessStays.f at H
 clear h
 replace H := zob H; obtain ⟨RB, A4, H⟩ := H
 by_cases c5 : RB = 0
 ·rw [if_pos c5] at H
  have ID : (RB == 0) = true := beq_iff_eq.mpr c5; have HD : (RB != 0) = false := bne_eq_false_iff_eq.mpr c5; clear c5; replace H := zob H; obtain ⟨xD, A6, H⟩ := H
  by_cases c7 : xD ≥ 0
  ·rw [if_pos c7] at H
   have mC := decide_eq_true c7; clear c7
   simp only [Option.some.injEq, Prod.mk.injEq] at H
   obtain ⟨rfl, rfl⟩ := H
   go_enter Try.func57, Try.ntmps57
   go_wp2_with (first | ((with_reducible refine zd 3 ?_); refine zbx (N := 3) (cs := #[.slice A0_0 l0_0.length c0_0, .slice A0_1 l0_1.length c0_1]) (t := 27) ?_; intro GB hg w8 IA hb; have gA := zQ (IA); have UC := zgz hg HB.out; have FA := UC; replace HB := zbs HB.out hb; clear hb IA hg; obtain ⟨YB, XB, WB, VB⟩ := zy2 gA.out) | ((with_reducible refine zgc 107 ?_); refine zgo (some 15) Try.func107 #[.agg #[.slice A0_0 l0_0.length c0_0, .slice A0_1 l0_1.length c0_1], .slice A1 l1.length c1, .slice A2 l2.length c2] ?_; (with_reducible refine (impl_windsCode.calls k _ _ l0_0 _ _ l0_1 _ _ l1 _ _ l2 RB _ (zC CA.out HB.out) EA.out (zC BA.out HB.out) DA.out (zC gC.out HB.out) iC.out (zC KB.out HB.out) hC.out A4.out).mono ?_); rintro e yH ⟨rfl, hb⟩; refine ⟨_, rfl, ?_⟩; replace gA := zbl gA.out hb; replace HB := zbs2 HB.out FA.out hb; (try clear hb); obtain ⟨bE, aE, XD, WD⟩ := zy2 gA.out) | ((with_reducible refine zgc 108 ?_); refine zgo (some 22) Try.func108 #[.agg #[.slice A0_0 l0_0.length c0_0, .slice A0_1 l0_1.length c0_1], .slice A1 l1.length c1, .slice A2 l2.length c2] ?_; (with_reducible refine (impl_looseWind.calls k _ _ l0_0 _ _ l0_1 _ _ l1 _ _ l2 xD _ (zC CA.out HB.out) EA.out (zC BA.out HB.out) DA.out (zC gC.out HB.out) iC.out (zC KB.out HB.out) hC.out A6.out).mono ?_); rintro e eI ⟨rfl, hb⟩; refine ⟨_, rfl, ?_⟩; replace gA := zbl gA.out hb; replace HB := zbs2 HB.out FA.out hb; (try clear hb)))
   go_ret2
   exact ⟨_, zE, by first | exact Kd.R_nil _ _ _ _ _ | exact Kd.N_nil _ _ _ _ _ | exact Kd.V_nil _ _ _ _ _ | exact Kd.Q_nil _ _ _ _ _ | exact Kd.S_nil _ _ _ _ _, zB2 HB.out FA.out⟩
  ·rw [if_neg c7] at H
   have mC := decide_eq_false c7; clear c7; obtain ⟨wF, kE⟩ : ∃ y_ : List Int, y_ = (([] : List Int)) := ⟨_, rfl⟩; replace H : (impl_NeedlessStays.l0 k l1 l2 wF l2 (l2.length : Int) 0 l0_0 l0_1) = some (r1, r2) := zh H; have GE := zQ kE; clear kE; have H' := zQ H; clear H
   go_enter Try.func57, Try.ntmps57
   go_wp2_with (first | ((with_reducible refine zd 3 ?_); refine zbx (N := 3) (cs := #[.slice A0_0 l0_0.length c0_0, .slice A0_1 l0_1.length c0_1]) (t := 27) ?_; intro GB hg xH IA hb; have gA := zQ (IA); have UC := zgz hg HB.out; have FA := UC; replace HB := zbs HB.out hb; clear hb IA hg; obtain ⟨wB, vB, uB, tB⟩ := zy2 gA.out) | ((with_reducible refine zgc 107 ?_); refine zgo (some 15) Try.func107 #[.agg #[.slice A0_0 l0_0.length c0_0, .slice A0_1 l0_1.length c0_1], .slice A1 l1.length c1, .slice A2 l2.length c2] ?_; (with_reducible refine (impl_windsCode.calls k _ _ l0_0 _ _ l0_1 _ _ l1 _ _ l2 RB _ (zC CA.out HB.out) EA.out (zC BA.out HB.out) DA.out (zC gC.out HB.out) iC.out (zC KB.out HB.out) hC.out A4.out).mono ?_); rintro e dI ⟨rfl, hb⟩; refine ⟨_, rfl, ?_⟩; replace gA := zbl gA.out hb; replace HB := zbs2 HB.out FA.out hb; (try clear hb); obtain ⟨ZD, YD, VD, UD⟩ := zy2 gA.out) | ((with_reducible refine zgc 108 ?_); refine zgo (some 22) Try.func108 #[.agg #[.slice A0_0 l0_0.length c0_0, .slice A0_1 l0_1.length c0_1], .slice A1 l1.length c1, .slice A2 l2.length c2] ?_; (with_reducible refine (impl_looseWind.calls k _ _ l0_0 _ _ l0_1 _ _ l1 _ _ l2 xD _ (zC CA.out HB.out) EA.out (zC BA.out HB.out) DA.out (zC gC.out HB.out) iC.out (zC KB.out HB.out) hC.out A6.out).mono ?_); rintro e HJ ⟨rfl, hb⟩; refine ⟨_, rfl, ?_⟩; replace gA := zbl gA.out hb; replace HB := zbs2 HB.out FA.out hb; (try clear hb)) | ((with_reducible refine zd 24 ?_); refine Kd.R_lit (Kd.int .i64) _ 2 ?hg (N := 24) ?hd (xs := ([] : List Int)) (inner := []) (ok := fun _ => True) (okp := fun _ => True) ?hr ?hp (fun _ hk => hk) trivial (Below.refl _ _) (Nat.le_refl _) (by simp) ?_; (case hd => rfl); (case hg => rfl); (case hr => first | (go_simp; done) | (go_simp; rfl)); (case hp => exact (Reps.none _ _)); intro DI GJ BD hb hg_ hnew_; clear hg_ hnew_; (first | rw [← GE.out] at BD | (simp only [Int.reduceToNat] at BD; rw [← GE.out] at BD)); have mG := zQ (Kd.R_lower BD (below_size (zB2 HB.out FA.out))); replace gA := zbl gA.out hb; replace HB := zbs2 HB.out FA.out hb; clear hb BD))
   go_loopg [9, 27] k (fun kq v9 FI w' => ∃ (bB : List Int) (GA : Int), FI = .int .i64 GA ∧ Aside0 (impl_NeedlessStays.l0 kq l1 l2 bB l2 (l2.length : Int) GA l0_0 l0_1 = some (r1, r2)) ∧ Aside0 (kq ≤ k) ∧ Aside0 (Kd.R (Kd.int .i64) 2 w' w.heap.size (fun _ => True) v9 bB) ∧ Aside0 (w'.heap[GB]? = some (.cells #[(.slice A0_0 l0_0.length c0_0), (.slice A0_1 l0_1.length c0_1)] 27 (0, 0))) ∧ Aside0 (Below w.heap.size w w'))
   case atStart => exact ⟨(wF), (0), (zF), H', ⟨Nat.le_refl _⟩, ⟨zR mG.out⟩, ⟨zb gA.out⟩, ⟨zB2 HB.out FA.out⟩⟩
   case round =>
    clear H'; (try clear c1); (try clear c2); (try clear p2); (try clear c5); (try clear ID); (try clear HD); (try clear c7); (try clear mC); (try clear RH); (try clear bE aE XD WD); (try clear wB vB uB tB); (try clear ZD YD VD UD); (try clear YB XB WB VB); obtain ⟨bB, GA, rfl, HA, iE, nA, gA, HB⟩ := hrel
    cases gk with
    | zero => exact absurd HA.out (by simp [impl_NeedlessStays.l0])
    | succ k1 =>
     have H := HA.out; clear HA
     simp only [impl_NeedlessStays.l0] at H
     by_cases tF : GA < (l2.length : Int)
     ·rw [if_pos tF] at H
      have cG := decide_eq_true tF; clear tF
      by_cases SD : 0 ≤ GA
      ·rw [if_pos SD] at H
       have bG := decide_eq_true SD; clear SD
       by_cases RD : GA < (l2.length : Int)
       ·rw [if_pos RD] at H
        have aG := decide_eq_true RD; clear RD; replace H := zob H; obtain ⟨AC, DG, H⟩ := H; replace H := zob H; obtain ⟨wD, AG, H⟩ := H
        by_cases mD : wD < 0
        ·rw [if_pos mD] at H
         have JD := decide_eq_true mD; clear mD
         by_cases fE : bB.length < 17592186044416
         ·rw [if_pos fE] at H
          have MD := zQ fE; clear fE; obtain ⟨vF, jE⟩ : ∃ y_ : List Int, y_ = (bB ++ [rd l2 GA]) := ⟨_, rfl⟩; replace H : (impl_NeedlessStays.l0 k1 l1 l2 vF l2 (l2.length : Int) (wrap64 (GA + 1)) l0_0 l0_1) = some (r1, r2) := zh H; have jG := zQ jE; clear jE; have H' := zQ H; clear H; have XC : 0 ≤ (GA : Int) := zD; have WC : GA < (l2.length : Int) := zD; obtain ⟨LD, bF, sB⟩ := Kd.at_int KB.out GA XC WC
          cases bF
          replace sB := zw HB.out sB; replace XC := eq_true XC; replace WC := eq_true WC
          try go_wp2
          have n0_ := zQ (Kd.R_drew nA.out); have n1_ := zQ (blk_drew gA.out); have n2_ := zQ (below_drew1 HB.out); clear nA; clear gA; clear HB; have nA := n0_; have gA := n1_; have HB := n2_; clear n0_ n1_ n2_
          refine zs (fun w' => w'.cell? ⟨GB, 0, none⟩ = some (.slice A0_0 l0_0.length c0_0) ∧ w'.cell? ⟨GB, 1, none⟩ = some (.slice A0_1 l0_1.length c0_1)) [] 7 ⟨(blk_cell gA.out 0).trans rfl, (blk_cell gA.out 1).trans rfl⟩ (fun YA => ?_)
          generalize wr.drew = mF at nA gA HB YA ⊢
          refine zp 1 32 ?_
          refine zp 2 33 ?_
          refine zp 3 34 ?_
          refine zt 0 31 YA ?_
          refine zo 4 (some 35) (fun K hK => ?_)
          refine goes_ Try.func78 (by kernel_rfl) rfl #[.slice (some LD) l2.length c2, .int .i64 (rd l2 GA)] (by rfl) rfl rfl zM ?_
          with_reducible refine (impl_withoutBar.calls k1 _ _ l2 (rd l2 GA) AC _ ?side1 ?side2 DG.out).mono ?_
          (case side1 => exact zC KB.out HB.out)
          (case side2 => exact hC.out)
          rintro e cI ⟨GG, rfl, tA, hb⟩
          refine ⟨_, rfl, ?_⟩
          have n0_ := zQ (Kd.R_elder' (zR nA.out) (Kd.R_base tA) hb); have n1_ := zQ (Kd.R_lower (Kd.R_new' tA (Kd.R_lt (zR nA.out))) (below_size (zB2 HB.out FA.out))); have n2_ := zbl gA.out hb; have n3_ := zbs2 HB.out FA.out hb; clear nA; clear gA; clear HB; have nA := n0_; have UA := n1_; have gA := n2_; have HB := n3_; clear n0_ n1_ n2_ n3_
          (try clear hb)
          (try clear EF)
          (try clear hk)
          (try clear hi)
          (try clear tA)
          obtain ⟨tG, SF, HF⟩ := Kd.R_slice UA.out
          (first | subst HF | (injection HF with f1_ f2_ f3_; have f4_ := f1_.symm; have f5_ := f3_.symm; clear f1_ f2_ f3_; subst f4_; subst f5_))
          refine hK.out _ _ ⟨(blk_cell gA.out 0).trans rfl, (blk_cell gA.out 1).trans rfl⟩ (fun YA => ?_)
          clear hK K
          refine zn 35 ?_
          refine zo 5 (some 36) (fun K hK => ?_)
          refine goes_ Try.func108 (by kernel_rfl) rfl #[.agg #[.slice A0_0 l0_0.length c0_0, .slice A0_1 l0_1.length c0_1], .slice A1 l1.length c1, .slice tG AC.length SF] (by rfl) rfl rfl zM ?_
          with_reducible refine (impl_looseWind.calls k1 _ _ l0_0 _ _ l0_1 _ _ l1 _ _ AC wD _ ?side1 ?side2 ?side3 ?side4 ?side5 ?side6 ?side7 ?side8 AG.out).mono ?_
          (case side1 => exact zC CA.out HB.out)
          (case side2 => exact EA.out)
          (case side3 => exact zC BA.out HB.out)
          (case side4 => exact DA.out)
          (case side5 => exact zC gC.out HB.out)
          (case side6 => exact iC.out)
          (case side7 => exact zk (Kd.R_reads' UA.out).2.2)
          (case side8 => exact (Kd.R_reads' UA.out).2.1)
          rintro e wH ⟨rfl, hb⟩
          refine ⟨_, rfl, ?_⟩
          have n0_ := zRb nA.out hb; have n1_ := zRb UA.out hb; have n2_ := zbl gA.out hb; have n3_ := zbs2 HB.out FA.out hb; clear nA; clear UA; clear gA; clear HB; have nA := n0_; have UA := n1_; have gA := n2_; have HB := n3_; clear n0_ n1_ n2_ n3_
          (try clear hb)
          (try clear EF)
          (try clear hk)
          (try clear hi)
          refine hK.out _ _ ⟨(blk_cell gA.out 0).trans rfl, (blk_cell gA.out 1).trans rfl⟩ (fun YA => ?_)
          clear hK K
          refine zn 36 ?_
          refine zp 6 37 ?_
          refine done_ (by kernel_rfl) ?_
          try go_wp2_with (first | ((with_reducible refine gate_builtin (b := .append) (xs := #[.tmp 38, .tmp 40]) rfl ?_); at_builtin; refine Kd.R_append (Kd.int .i64) (w0 := w) w.heap.size rfl (.tmp 38) (.tmp 40) 31 2 (.int .i64 0) 8 rfl Try.underlying31 info2 rfl (by decide) (by omega) u9 bB (rd l2 GA) [.int .i64 (rd l2 GA)] (fun k_ => some k_ ≠ (.slice tG AC.length SF : Value).ownBlock) (fun _ => False) rfl rfl ?aP (fun _ hk => hk.elim) ?aF ?aO ?aB ?aS ?aL ?_; (case aP => exact rfl); (case aB => exact (zB2 HB.out FA.out)); (case aF => exact (fun k_ hk => Kd.fresh' (Kd.R_lt (zR UA.out)) k_ hk)); (case aO => exact (by (with_reducible repeat (first | apply Kd.R_alloc | apply Kd.R_drewN | apply Kd.R_drew)); exact Kd.R_mono nA.out (fun _ hk => hk.2))); (case aS => exact (below_size (zB2 HB.out FA.out))); (case aL => have := MD.out; omega); intro CI bI ho hb hg hat; rw [← jG.out] at ho; have lG := zQ (ho); replace gA := zQ (blk_grown (g := GB) (o := .cells #[.slice A0_0 l0_0.length c0_0, .slice A0_1 l0_1.length c0_1] 27 (0, 0)) (zb gA.out) hg (Kd.R_ne nA.out gA.out (by decide))); replace UA := zQ (Kd.R_after (ok := (fun _ => True)) (zR UA.out) hg hat); replace HB := zQ (hb); clear nA ho hb hg hat))
          go_roundg k1
          case measure => have := iE.out; omega
          case rel => exact ⟨(vF), (wrap64 (GA + 1)), (zF), H', ⟨by have := iE.out; omega⟩, ⟨by (with_reducible repeat (first | apply Kd.R_alloc | apply Kd.R_drewN | apply Kd.R_drew)); exact Kd.R_mono lG.out (fun _ hk => trivial)⟩, ⟨zb gA.out⟩, ⟨zB2 HB.out FA.out⟩⟩
         ·rw [if_neg fE] at H
          exact absurd H (by simp)
        ·rw [if_neg mD] at H
         have JD := decide_eq_false mD; clear mD; have H' := zQ H; clear H; have XC : 0 ≤ (GA : Int) := zD; have WC : GA < (l2.length : Int) := zD; obtain ⟨LD, bF, sB⟩ := Kd.at_int KB.out GA XC WC
         cases bF
         replace sB := zw HB.out sB; replace XC := eq_true XC; replace WC := eq_true WC
         try go_wp2
         have n0_ := zQ (Kd.R_drew nA.out); have n1_ := zQ (blk_drew gA.out); have n2_ := zQ (below_drew1 HB.out); clear nA; clear gA; clear HB; have nA := n0_; have gA := n1_; have HB := n2_; clear n0_ n1_ n2_
         refine zs (fun w' => w'.cell? ⟨GB, 0, none⟩ = some (.slice A0_0 l0_0.length c0_0) ∧ w'.cell? ⟨GB, 1, none⟩ = some (.slice A0_1 l0_1.length c0_1)) [] 7 ⟨(blk_cell gA.out 0).trans rfl, (blk_cell gA.out 1).trans rfl⟩ (fun YA => ?_)
         generalize wr.drew = aI at nA gA HB YA ⊢
         refine zp 1 32 ?_
         refine zp 2 33 ?_
         refine zp 3 34 ?_
         refine zt 0 31 YA ?_
         refine zo 4 (some 35) (fun K hK => ?_)
         refine goes_ Try.func78 (by kernel_rfl) rfl #[.slice (some LD) l2.length c2, .int .i64 (rd l2 GA)] (by rfl) rfl rfl zM ?_
         with_reducible refine (impl_withoutBar.calls k1 _ _ l2 (rd l2 GA) AC _ ?side1 ?side2 DG.out).mono ?_
         (case side1 => exact zC KB.out HB.out)
         (case side2 => exact hC.out)
         rintro e ZH ⟨GG, rfl, tA, hb⟩
         refine ⟨_, rfl, ?_⟩
         have n0_ := zQ (Kd.R_elder' (zR nA.out) (Kd.R_base tA) hb); have n1_ := zQ (Kd.R_lower (Kd.R_new' tA (Kd.R_lt (zR nA.out))) (below_size (zB2 HB.out FA.out))); have n2_ := zbl gA.out hb; have n3_ := zbs2 HB.out FA.out hb; clear nA; clear gA; clear HB; have nA := n0_; have UA := n1_; have gA := n2_; have HB := n3_; clear n0_ n1_ n2_ n3_
         (try clear hb)
         (try clear EF)
         (try clear hk)
         (try clear hi)
         (try clear tA)
         obtain ⟨lF, cF, cE⟩ := Kd.R_slice UA.out
         (first | subst cE | (injection cE with f1_ f2_ f3_; have f4_ := f1_.symm; have f5_ := f3_.symm; clear f1_ f2_ f3_; subst f4_; subst f5_))
         refine hK.out _ _ ⟨(blk_cell gA.out 0).trans rfl, (blk_cell gA.out 1).trans rfl⟩ (fun YA => ?_)
         clear hK K
         refine zn 35 ?_
         refine zo 5 (some 36) (fun K hK => ?_)
         refine goes_ Try.func108 (by kernel_rfl) rfl #[.agg #[.slice A0_0 l0_0.length c0_0, .slice A0_1 l0_1.length c0_1], .slice A1 l1.length c1, .slice lF AC.length cF] (by rfl) rfl rfl zM ?_
         with_reducible refine (impl_looseWind.calls k1 _ _ l0_0 _ _ l0_1 _ _ l1 _ _ AC wD _ ?side1 ?side2 ?side3 ?side4 ?side5 ?side6 ?side7 ?side8 AG.out).mono ?_
         (case side1 => exact zC CA.out HB.out)
         (case side2 => exact EA.out)
         (case side3 => exact zC BA.out HB.out)
         (case side4 => exact DA.out)
         (case side5 => exact zC gC.out HB.out)
         (case side6 => exact iC.out)
         (case side7 => exact zk (Kd.R_reads' UA.out).2.2)
         (case side8 => exact (Kd.R_reads' UA.out).2.1)
         rintro e YH ⟨rfl, hb⟩
         refine ⟨_, rfl, ?_⟩
         have n0_ := zRb nA.out hb; have n1_ := zRb UA.out hb; have n2_ := zbl gA.out hb; have n3_ := zbs2 HB.out FA.out hb; clear nA; clear UA; clear gA; clear HB; have nA := n0_; have UA := n1_; have gA := n2_; have HB := n3_; clear n0_ n1_ n2_ n3_
         (try clear hb)
         (try clear EF)
         (try clear hk)
         (try clear hi)
         refine hK.out _ _ ⟨(blk_cell gA.out 0).trans rfl, (blk_cell gA.out 1).trans rfl⟩ (fun YA => ?_)
         clear hK K
         refine zn 36 ?_
         refine zp 6 37 ?_
         refine done_ (by kernel_rfl) ?_
         try go_wp2
         go_roundg k1
         case measure => have := iE.out; omega
         case rel => exact ⟨(bB), (wrap64 (GA + 1)), (zF), H', ⟨by have := iE.out; omega⟩, ⟨by (with_reducible repeat (first | apply Kd.R_alloc | apply Kd.R_drewN | apply Kd.R_drew)); exact Kd.R_mono nA.out (fun _ hk => trivial)⟩, ⟨zb gA.out⟩, ⟨zB2 HB.out FA.out⟩⟩
       ·rw [if_neg RD] at H
        exact absurd H (by simp)
      ·rw [if_neg SD] at H
       exact absurd H (by simp)
     ·rw [if_neg tF] at H
      have cG := decide_eq_false tF; clear tF
      simp only [Option.some.injEq, Prod.mk.injEq] at H
      obtain ⟨rfl, rfl⟩ := H
      go_wp2
      go_ret2
      exact ⟨_, zE, zR nA.out, zB2 HB.out FA.out⟩
 ·rw [if_neg c5] at H
  have ID : (RB == 0) = false := beq_eq_false_iff_ne.mpr c5; have HD : (RB != 0) = true := bne_iff_ne.mpr c5
  simp only [Option.some.injEq, Prod.mk.injEq] at H
  obtain ⟨rfl, rfl⟩ := H
  go_enter Try.func57, Try.ntmps57
  go_wp2_with (first | ((with_reducible refine zd 3 ?_); refine zbx (N := 3) (cs := #[.slice A0_0 l0_0.length c0_0, .slice A0_1 l0_1.length c0_1]) (t := 27) ?_; intro GB hg XH IA hb; have gA := zQ (IA); have UC := zgz hg HB.out; have FA := UC; replace HB := zbs HB.out hb; clear hb IA hg; obtain ⟨PB, OB, NB, MB⟩ := zy2 gA.out) | ((with_reducible refine zgc 107 ?_); refine zgo (some 15) Try.func107 #[.agg #[.slice A0_0 l0_0.length c0_0, .slice A0_1 l0_1.length c0_1], .slice A1 l1.length c1, .slice A2 l2.length c2] ?_; (with_reducible refine (impl_windsCode.calls k _ _ l0_0 _ _ l0_1 _ _ l1 _ _ l2 RB _ (zC CA.out HB.out) EA.out (zC BA.out HB.out) DA.out (zC gC.out HB.out) iC.out (zC KB.out HB.out) hC.out A4.out).mono ?_); rintro e WH ⟨rfl, hb⟩; refine ⟨_, rfl, ?_⟩; replace gA := zbl gA.out hb; replace HB := zbs2 HB.out FA.out hb; (try clear hb)))
  go_ret2
  exact ⟨_, zE, by first | exact Kd.R_nil _ _ _ _ _ | exact Kd.N_nil _ _ _ _ _ | exact Kd.V_nil _ _ _ _ _ | exact Kd.Q_nil _ _ _ _ _ | exact Kd.S_nil _ _ _ _ _, zB2 HB.out FA.out⟩

mutual
def laws_FnExactNeedlessStays.j0 : Nat → List (List (S122)) → List Int → List Int → Int → List (List (S113)) → List Int → List Int → Int → Bool → List (S166) → List (S168) → List (S164) → List (S115) → Option (Bool)
 | 0, _, _, _, _, _, _, _, _, _, _, _, _, _ => none
 | k + 1, x1, x2, x8, x9, x11, x12, x13, x14, x64, kB, jB, aD, ZC => if x64 = true then (some false) else ((laws_toFrame.f k kB jB).bind fun EE => ((laws_eqFrame.f k aD ZC EE.1 EE.2).bind fun UE => (if UE = true then ((laws_toPullSS.f k x1).bind fun iB => ((laws_eqPullSS.f k x11 iB).bind fun TE => (if TE = true then ((laws_toInt64S.f k x2).bind fun XA => ((laws_eqInt64S.f k x12 XA).bind fun SE => (if SE = true then ((laws_markFrame.f k aD ZC 1).bind fun iG => ((laws_markPullSS.f k x11 iG.1).bind fun hG => ((laws_markInt64S.f k x12 hG.1).bind fun gG => (if gG.1 < 0 then (laws_FnExactNeedlessStays.j1 k x1 x2 x8 x9 x13 true kB jB) else ((laws_eqInt64S.f k x13 x8).bind fun PE => (if PE = true then (laws_FnExactNeedlessStays.j1 k x1 x2 x8 x9 x13 (x14 != x9) kB jB) else (laws_FnExactNeedlessStays.j1 k x1 x2 x8 x9 x13 true kB jB))))))) else (some false)))) else (some false)))) else (some false))))
def laws_FnExactNeedlessStays.j1 : Nat → List (List (S122)) → List Int → List Int → Int → List Int → Bool → List (S166) → List (S168) → Option (Bool)
 | 0, _, _, _, _, _, _, _, _ => none
 | k + 1, x1, x2, x8, x9, x13, FG, kB, jB => if FG = true then (some false) else ((laws_markInt64S.f k x13 1).bind fun oC => ((laws_heldInt64S.f k oC.2 1).bind fun kC => (if kC < 0 then (some false) else (if kC = oC.1 then ((laws_toFrame.f k kB jB).bind fun DE => ((laws_toPullSS.f k x1).bind fun qD => ((laws_toInt64S.f k x2).bind fun pD => ((impl_NeedlessStays.f k DE.1 DE.2 qD pD).bind fun CE => ((laws_eqInt64S.f k CE.1 x8).bind fun LE => (if LE = true then (laws_FnExactNeedlessStays.j2 k oC.2 oC.1 (CE.2 != x9)) else (laws_FnExactNeedlessStays.j2 k oC.2 oC.1 true))))))) else (some false)))))
def laws_FnExactNeedlessStays.j2 : Nat → List Int → Int → Bool → Option (Bool)
 | 0, _, _, _ => none
 | k + 1, x13, x16, EG => if EG = true then (some false) else ((laws_heldInt64S.f k x13 1).bind fun jC => (if jC < 0 then (some false) else (if jC = x16 then (some true) else (some false))))
end
def laws_FnExactNeedlessStays.f (k : Nat) (l0_0 : List (S166)) (l0_1 : List (S168)) (l1 : List (List (S122))) (l2 : List Int) : Option (Bool) := if (l2.length : Int) > 1048576 then (some true) else ((laws_szFrame.f l0_0 l0_1 1048576).bind fun QB => (if QB < 0 then (some true) else ((laws_szPullSS.f k l1 QB).bind fun vD => (if vD < 0 then (some true) else ((laws_toFrame.f k l0_0 l0_1).bind fun FE => ((laws_toPullSS.f k l1).bind fun uD => ((laws_toInt64S.f k l2).bind fun tD => ((spec_NeedlessStays.f k FE.1 FE.2 uD tD).bind fun rC => ((laws_toFrame.f k l0_0 l0_1).bind fun qC => ((laws_toPullSS.f k l1).bind fun oB => ((laws_toInt64S.f k l2).bind fun uA => ((impl_NeedlessStays.f k qC.1 qC.2 oB uA).bind fun pC => ((laws_eqInt64S.f k pC.1 rC.1).bind fun VE => (if VE = true then (laws_FnExactNeedlessStays.j0 k l1 l2 rC.1 rC.2 oB uA pC.1 pC.2 (pC.2 != rC.2) l0_0 l0_1 qC.1 qC.2) else (laws_FnExactNeedlessStays.j0 k l1 l2 rC.1 rC.2 oB uA pC.1 pC.2 true l0_0 l0_1 qC.1 qC.2)))))))))))))))
theorem laws_FnExactNeedlessStays.j0_cut (k : Nat) (x0_ : List (List (S122))) (x1_ : List Int) (x2_ : List Int) (x3_ : Int) (x4_ : List (List (S113))) (x5_ : List Int) (x6_ : List Int) (x7_ : Int) (x9_ : List (S166)) (x10_ : List (S168)) (x11_ : List (S164)) (x12_ : List (S115)) (r : Bool) (h : laws_FnExactNeedlessStays.j0 k x0_ x1_ x2_ x3_ x4_ x5_ x6_ x7_ true x9_ x10_ x11_ x12_ = some r) (hr : r = true) : False := by
 cases k with
 | zero => simp only [laws_FnExactNeedlessStays.j0] at h; cases h
 | succ k =>
  have h2 : some false = some r := h
  cases h2
  cases hr
theorem laws_FnExactNeedlessStays.j1_cut (k : Nat) (x0_ : List (List (S122))) (x1_ : List Int) (x2_ : List Int) (x3_ : Int) (x4_ : List Int) (x6_ : List (S166)) (x7_ : List (S168)) (r : Bool) (h : laws_FnExactNeedlessStays.j1 k x0_ x1_ x2_ x3_ x4_ true x6_ x7_ = some r) (hr : r = true) : False := by
 cases k with
 | zero => simp only [laws_FnExactNeedlessStays.j1] at h; cases h
 | succ k =>
  have h2 : some false = some r := h
  cases h2
  cases hr
theorem laws_FnExactNeedlessStays.j2_cut (k : Nat) (x0_ : List Int) (x1_ : Int) (r : Bool) (h : laws_FnExactNeedlessStays.j2 k x0_ x1_ true = some r) (hr : r = true) : False := by
 cases k with
 | zero => simp only [laws_FnExactNeedlessStays.j2] at h; cases h
 | succ k =>
  have h2 : some false = some r := h
  cases h2
  cases hr
theorem laws_FnExactNeedlessStays.calls (k : Nat) (A0_0 : Option Addr) (c0_0 : Nat) (l0_0 : List (S166)) (A0_1 : Option Addr) (c0_1 : Nat) (l0_1 : List (S168)) (A1 : Option Addr) (c1 : Nat) (l1 : List (List (S122))) (A2 : Option Addr) (c2 : Nat) (l2 : List Int) (r : Bool) (w : World) (hr0_0 : Kd.C k166 w A0_0 l0_0.length l0_0) (hc0_0 : l0_0.length ≤ c0_0) (hr0_1 : Kd.C k168 w A0_1 l0_1.length l0_1) (hc0_1 : l0_1.length ≤ c0_1) (hr1 : Kd.C (Kd.slice 122 k122) w A1 l1.length l1) (hc1 : l1.length ≤ c1) (hr2 : Kd.C (Kd.int .i64) w A2 l2.length l2) (hc2 : l2.length ≤ c2) (h : laws_FnExactNeedlessStays.f k l0_0 l0_1 l1 l2 = some r) (hrt : r = true) :
  Calls Try.prog 11 #[.agg #[.slice A0_0 l0_0.length c0_0, .slice A0_1 l0_1.length c0_1], .slice A1 l1.length c1, .slice A2 l2.length c2] w fun e w' => e = .returned (.bool r) ∧ Below w.heap.size w w' := by
 have HRT := zQ hrt
 clear hrt
 have II := Try.underlying54
 have DF := Try.underlying27
 have CA := zQ hr0_0
 have EA := zQ hc0_0
 clear hr0_0 hc0_0
 have BA := zQ hr0_1
 have DA := zQ hc0_1
 clear hr0_1 hc0_1
 have gC := zQ hr1
 have iC := zQ hc1
 clear hr1 hc1
 have KB := zQ hr2
 have hC := zQ hc2
 clear hr2 hc2
 have HB := zQ (Below.refl w.heap.size w)
 have H := h; unfold laws_FnExactNeedlessStays.f at H
 clear h
 by_cases c4 : (l2.length : Int) > 1048576
 ·rw [if_pos c4] at H
  have eE := decide_eq_true c4; have dE : decide (1048576 < l2.length) = true := decide_eq_true (by omega); clear c4; obtain rfl := Option.some.inj H
  go_enter Try.func11, Try.ntmps11
  go_wp2_with (first | ((with_reducible refine zd 3 ?_); refine zbx (N := 3) (cs := #[.slice A0_0 l0_0.length c0_0, .slice A0_1 l0_1.length c0_1]) (t := 54) ?_; intro AA hg w5 IA hb; have cA := zQ (IA); have eC := zgz hg HB.out; have fA := eC; replace HB := zbs HB.out hb; clear hb IA hg))
  go_ret
  exact ⟨zE, zB2 HB.out fA.out⟩
 ·rw [if_neg c4] at H
  have eE := decide_eq_false c4; have dE : decide (1048576 < l2.length) = false := decide_eq_false (by omega); clear c4; replace H := zob H; obtain ⟨QB, A6, H⟩ := H
  by_cases c7 : QB < 0
  ·rw [if_pos c7] at H
   have mC := decide_eq_true c7; clear c7; obtain rfl := Option.some.inj H
   go_enter Try.func11, Try.ntmps11
   go_wp2_with (first | ((with_reducible refine zd 3 ?_); refine zbx (N := 3) (cs := #[.slice A0_0 l0_0.length c0_0, .slice A0_1 l0_1.length c0_1]) (t := 54) ?_; intro AA hg w8 IA hb; have cA := zQ (IA); have eC := zgz hg HB.out; have fA := eC; replace HB := zbs HB.out hb; clear hb IA hg; obtain ⟨YB, XB, WB, VB⟩ := zy2 cA.out) | ((with_reducible refine zgc 34 ?_); refine zgo (some 25) Try.func34 #[.agg #[.slice A0_0 l0_0.length c0_0, .slice A0_1 l0_1.length c0_1], .int .i64 1048576] ?_; (with_reducible refine (laws_szFrame.calls _ _ l0_0 _ _ l0_1 1048576 QB _ (zC CA.out HB.out) EA.out (zC BA.out HB.out) DA.out A6.out).mono ?_); rintro e yH ⟨rfl, hb⟩; refine ⟨_, rfl, ?_⟩; replace cA := zbl cA.out hb; replace HB := zbs2 HB.out fA.out hb; (try clear hb)))
   go_ret
   exact ⟨zE, zB2 HB.out fA.out⟩
  ·rw [if_neg c7] at H
   have mC := decide_eq_false c7; clear c7; replace H := zob H; obtain ⟨vD, UH, H⟩ := H
   by_cases hE : vD < 0
   ·rw [if_pos hE] at H
    have hD := decide_eq_true hE; clear hE; obtain rfl := Option.some.inj H
    go_enter Try.func11, Try.ntmps11
    go_wp2_with (first | ((with_reducible refine zd 3 ?_); refine zbx (N := 3) (cs := #[.slice A0_0 l0_0.length c0_0, .slice A0_1 l0_1.length c0_1]) (t := 54) ?_; intro AA hg xH IA hb; have cA := zQ (IA); have eC := zgz hg HB.out; have fA := eC; replace HB := zbs HB.out hb; clear hb IA hg; obtain ⟨wB, vB, uB, tB⟩ := zy2 cA.out) | ((with_reducible refine zgc 34 ?_); refine zgo (some 25) Try.func34 #[.agg #[.slice A0_0 l0_0.length c0_0, .slice A0_1 l0_1.length c0_1], .int .i64 1048576] ?_; (with_reducible refine (laws_szFrame.calls _ _ l0_0 _ _ l0_1 1048576 QB _ (zC CA.out HB.out) EA.out (zC BA.out HB.out) DA.out A6.out).mono ?_); rintro e dI ⟨rfl, hb⟩; refine ⟨_, rfl, ?_⟩; replace cA := zbl cA.out hb; replace HB := zbs2 HB.out fA.out hb; (try clear hb)) | ((with_reducible refine zgc 46 ?_); refine zgo (some 30) Try.func46 #[.slice A1 l1.length c1, .int .i64 QB] ?_; (with_reducible refine (laws_szPullSS.calls k _ _ l1 QB vD _ (zC gC.out HB.out) iC.out UH.out).mono ?_); rintro e w' ⟨rfl, ⟨nd, rfl⟩⟩; refine ⟨_, rfl, ?_⟩))
    go_ret
    exact ⟨zE, zB2 HB.out fA.out⟩
   ·rw [if_neg hE] at H
    have hD := decide_eq_false hE; clear hE; replace H := zob H; obtain ⟨⟨XE, WE⟩, oJ, H⟩ := H; replace H := zob H; obtain ⟨uD, nJ, H⟩ := H; replace H := zob H; obtain ⟨tD, mJ, H⟩ := H; replace H := zob H; obtain ⟨⟨lC, kD⟩, BG, H⟩ := H; replace H := zob H; obtain ⟨⟨qA, sA⟩, lJ, H⟩ := H; replace H := zob H; obtain ⟨oB, kJ, H⟩ := H; replace H := zob H; obtain ⟨uA, jJ, H⟩ := H; replace H := zob H; obtain ⟨⟨nB, TD⟩, DG, H⟩ := H; have kF := zQ H; clear H
    go_enter Try.func11, Try.ntmps11
    go_upto_region 15 with (first | ((with_reducible refine zd 3 ?_); refine zbx (N := 3) (cs := #[.slice A0_0 l0_0.length c0_0, .slice A0_1 l0_1.length c0_1]) (t := 54) ?_; intro AA hg FJ IA hb; have cA := zQ (IA); have eC := zgz hg HB.out; have fA := eC; replace HB := zbs HB.out hb; clear hb IA hg; obtain ⟨RC, QC, JC, IC⟩ := zy2 cA.out) | ((with_reducible refine zgc 34 ?_); refine zgo (some 25) Try.func34 #[.agg #[.slice A0_0 l0_0.length c0_0, .slice A0_1 l0_1.length c0_1], .int .i64 1048576] ?_; (with_reducible refine (laws_szFrame.calls _ _ l0_0 _ _ l0_1 1048576 QB _ (zC CA.out HB.out) EA.out (zC BA.out HB.out) DA.out A6.out).mono ?_); rintro e mF ⟨rfl, hb⟩; refine ⟨_, rfl, ?_⟩; replace cA := zbl cA.out hb; replace HB := zbs2 HB.out fA.out hb; (try clear hb)) | ((with_reducible refine zgc 46 ?_); refine zgo (some 30) Try.func46 #[.slice A1 l1.length c1, .int .i64 QB] ?_; (with_reducible refine (laws_szPullSS.calls k _ _ l1 QB vD _ (zC gC.out HB.out) iC.out UH.out).mono ?_); rintro e w' ⟨rfl, ⟨nd, rfl⟩⟩; refine ⟨_, rfl, ?_⟩; (try (rw [drewN_self mF]; generalize hq_ : World.drewN mF _ = mF; have n0_ : Aside0 (mF.heap[AA]? = some (.cells #[.slice A0_0 l0_0.length c0_0, .slice A0_1 l0_1.length c0_1] 54 (0, 0))) := ⟨by rw [← hq_]; exact (zb cA.out)⟩; have n1_ : Aside0 (Below w.heap.size w mF) := ⟨by rw [← hq_]; exact (zB2 HB.out fA.out)⟩; clear cA HB hq_; have cA := n0_; have HB := n1_; clear n0_ n1_)); (try (have hczrw27_gb377_0 := zc0 cA.out)); (try (have hfzrw27_gb377_0 := zfz cA.out 0)); (try (have hczrw27_gb377_1 := zc1 cA.out)); (try (have hfzrw27_gb377_1 := zfz cA.out 1)); obtain ⟨PC, OC, HC, GC⟩ := zy2 cA.out) | ((with_reducible refine zgc 36 ?_); refine zgo (some 35) Try.func36 #[.agg #[.slice A0_0 l0_0.length c0_0, .slice A0_1 l0_1.length c0_1]] ?_; (with_reducible refine (laws_toFrame.calls k _ _ l0_0 _ _ l0_1 XE WE _ (zC CA.out HB.out) EA.out (zC BA.out HB.out) DA.out oJ.out).mono ?_); rintro e EJ ⟨BI, AI, rfl, tA, cD, hb⟩; refine ⟨_, rfl, ?_⟩; have LA := zQ (Kd.R_lower tA (below_size (zB2 HB.out fA.out))); have KA := zQ (Kd.R_lower cD (below_size (zB2 HB.out fA.out))); replace cA := zbl cA.out hb; replace HB := zbs2 HB.out fA.out hb; (try clear hb); (try clear tA); (try clear cD)) | ((with_reducible refine zgc 48 ?_); refine zgo (some 37) Try.func48 #[.slice A1 l1.length c1] ?_; (with_reducible refine (laws_toPullSS.calls k _ _ l1 uD _ (zC gC.out HB.out) iC.out nJ.out).mono ?_); rintro e wH ⟨zI, rfl, tA, hb⟩; refine ⟨_, rfl, ?_⟩; have SA := zQ (Kd.S_lower tA (below_size (zB2 HB.out fA.out))); replace LA := zRb LA.out hb; replace KA := zRb KA.out hb; replace cA := zbl cA.out hb; replace HB := zbs2 HB.out fA.out hb; (try clear hb); (try clear tA)) | ((with_reducible refine zgc 38 ?_); refine zgo (some 39) Try.func38 #[.slice A2 l2.length c2] ?_; (with_reducible refine (laws_toInt64S.calls k _ _ l2 tD _ (zC KB.out HB.out) hC.out mJ.out).mono ?_); rintro e bI ⟨yI, rfl, tA, hb⟩; refine ⟨_, rfl, ?_⟩; have RA := zQ (Kd.R_lower tA (below_size (zB2 HB.out fA.out))); replace LA := zRb LA.out hb; replace KA := zRb KA.out hb; replace SA := zQ (Kd.S_below (zS SA.out) hb); replace cA := zbl cA.out hb; replace HB := zbs2 HB.out fA.out hb; (try clear hb); (try clear tA); obtain ⟨qH, jH, bH⟩ := Kd.R_slice LA.out; subst bH; obtain ⟨pH, iH, aH⟩ := Kd.R_slice KA.out; subst aH; obtain ⟨lF, cF, cE⟩ := Kd.S_slice SA.out; subst cE; obtain ⟨oH, hH, ZG⟩ := Kd.R_slice RA.out; subst ZG) | ((with_reducible refine zgc 56 ?_); refine zgo (some 40) Try.func56 #[.agg #[.slice qH XE.length jH, .slice pH WE.length iH], .slice lF uD.length cF, .slice oH tD.length hH] ?_; (with_reducible refine (spec_NeedlessStays.calls k _ _ XE _ _ WE _ _ uD _ _ tD lC kD _ ?side1 ((Kd.R_reads' LA.out).2.1) ?side3 ((Kd.R_reads' KA.out).2.1) ?side5 ((Kd.S_reads' SA.out).2.1) ?side7 ((Kd.R_reads' RA.out).2.1) BG.out).mono ?_); (case side1 => exact zk (Kd.R_reads' LA.out).2.2); (case side3 => exact zk (Kd.R_reads' KA.out).2.2); (case side5 => repeat (first | exact (Kd.S_reads' SA.out).2.2 | (with_reducible refine Kd.C_alloc ?_ _) | (with_reducible refine Kd.C_drewN ?_ _) | (with_reducible refine Kd.C_drew ?_))); (case side7 => exact zk (Kd.R_reads' RA.out).2.2); rintro e XH ⟨WA, rfl, tA, hb⟩; refine ⟨_, rfl, ?_⟩; have TA := zQ (Kd.R_lower (Kd.R_new' tA (Kd.R_lt (zR RA.out))) (below_size (zB2 HB.out fA.out))); replace LA := zRb LA.out hb; replace KA := zRb KA.out hb; replace SA := zQ (Kd.S_below (zS SA.out) hb); replace RA := zQ (Kd.R_elder' (zR RA.out) (Kd.R_base tA) hb); replace cA := zbl cA.out hb; replace HB := zbs2 HB.out fA.out hb; (try clear hb); (try clear tA); obtain ⟨PB, OB, NB, MB⟩ := zy2 cA.out) | ((with_reducible refine zgc 36 ?_); refine zgo (some 44) Try.func36 #[.agg #[.slice A0_0 l0_0.length c0_0, .slice A0_1 l0_1.length c0_1]] ?_; (with_reducible refine (laws_toFrame.calls k _ _ l0_0 _ _ l0_1 qA sA _ (zC CA.out HB.out) EA.out (zC BA.out HB.out) DA.out lJ.out).mono ?_); rintro e WH ⟨xI, wI, rfl, tA, cD, hb⟩; refine ⟨_, rfl, ?_⟩; have hB := zQ (Kd.R_lower (Kd.R_new' tA (Kd.R_lt (zR LA.out))) (below_size (zB2 HB.out fA.out))); have gB := zQ (Kd.R_lower (Kd.R_new' cD (Kd.R_lt (zR KA.out))) (below_size (zB2 HB.out fA.out))); replace LA := zQ (Kd.R_elder' (zR LA.out) (Kd.R_base tA) hb); replace KA := zQ (Kd.R_elder' (zR KA.out) (Kd.R_base cD) hb); replace SA := zQ (Kd.S_below (zS SA.out) hb); replace RA := zRb RA.out hb; replace TA := zRb TA.out hb; replace cA := zbl cA.out hb; replace HB := zbs2 HB.out fA.out hb; (try clear hb); (try clear tA); (try clear cD)) | ((with_reducible refine zd 10 ?_); refine zbx (N := 10) (cs := #[.slice none 0 0, .slice none 0 0]) (t := 27) ?_; intro kA hg VH IA hb; have dA := zQ (IA); have rG := zgz2 hg HB.out fA.out; have lA := rG; have eB := zn1 hg cA.out; have FB := zn2 hg cA.out; replace LA := zRb LA.out hb; replace KA := zRb KA.out hb; replace SA := zQ (Kd.S_below (zS SA.out) hb); replace RA := zRb RA.out hb; replace TA := zRb TA.out hb; replace hB := zRb hB.out hb; replace gB := zRb gB.out hb; replace cA := zbl cA.out hb; replace HB := zbs2 HB.out fA.out hb; clear hb IA hg; obtain ⟨xA, wA, XG⟩ := Kd.R_slice hB.out; subst XG; have DH := FB.out; have BH := eB.out; obtain ⟨NC, MC, FC, EC⟩ := zy2 dA.out; obtain ⟨zA, yA, WG⟩ := Kd.R_slice gB.out; subst WG) | ((with_reducible refine zgc 48 ?_); refine zgo (some 46) Try.func48 #[.slice A1 l1.length c1] ?_; (with_reducible refine (laws_toPullSS.calls k _ _ l1 oB _ (Kd.C_below gC.out (zB3 HB.out fA.out lA.out)) iC.out kJ.out).mono ?_); rintro e AJ ⟨vI, rfl, tA, hb⟩; refine ⟨_, rfl, ?_⟩; have IB := zQ (Kd.S_lower (Kd.S_new' tA (Kd.S_lt (by (with_reducible repeat (first | apply Kd.S_alloc | apply Kd.S_drewN | apply Kd.S_drew)); exact (Kd.S_mono (Kd.S_far (p := ⟨kA, 1, none⟩) (Kd.S_far (p := ⟨kA, 0, none⟩) (Kd.S_types SA.out dA.out (by decide)) (fun _ hk => hk.2) (.slice xA qA.length wA)) (fun _ hk => hk.2) (.slice zA sA.length yA)) (fun _ h_ => h_.1))))) (below_size (zB3 HB.out fA.out lA.out))); replace LA := zQ (Kd.R_below (by (with_reducible repeat (first | apply Kd.R_alloc | apply Kd.R_drewN | apply Kd.R_drew)); exact (Kd.R_mono (Kd.R_far (p := ⟨kA, 1, none⟩) (Kd.R_far (p := ⟨kA, 0, none⟩) (Kd.R_types LA.out dA.out (by decide)) (fun _ hk => hk.2) (.slice xA qA.length wA)) (fun _ hk => hk.2) (.slice zA sA.length yA)) (fun _ h_ => h_.1))) hb); replace KA := zQ (Kd.R_below (by (with_reducible repeat (first | apply Kd.R_alloc | apply Kd.R_drewN | apply Kd.R_drew)); exact (Kd.R_mono (Kd.R_far (p := ⟨kA, 1, none⟩) (Kd.R_far (p := ⟨kA, 0, none⟩) (Kd.R_types KA.out dA.out (by decide)) (fun _ hk => hk.2) (.slice xA qA.length wA)) (fun _ hk => hk.2) (.slice zA sA.length yA)) (fun _ h_ => h_.1))) hb); replace SA := zQ (Kd.S_elder' (by (with_reducible repeat (first | apply Kd.S_alloc | apply Kd.S_drewN | apply Kd.S_drew)); exact (Kd.S_mono (Kd.S_far (p := ⟨kA, 1, none⟩) (Kd.S_far (p := ⟨kA, 0, none⟩) (Kd.S_types SA.out dA.out (by decide)) (fun _ hk => hk.2) (.slice xA qA.length wA)) (fun _ hk => hk.2) (.slice zA sA.length yA)) (fun _ h_ => h_.1))) (Kd.S_base tA) hb); replace RA := zQ (Kd.R_below (by (with_reducible repeat (first | apply Kd.R_alloc | apply Kd.R_drewN | apply Kd.R_drew)); exact (Kd.R_mono (Kd.R_far (p := ⟨kA, 1, none⟩) (Kd.R_far (p := ⟨kA, 0, none⟩) (Kd.R_types RA.out dA.out (by decide)) (fun _ hk => hk.2) (.slice xA qA.length wA)) (fun _ hk => hk.2) (.slice zA sA.length yA)) (fun _ h_ => h_.1))) hb); replace TA := zQ (Kd.R_below (by (with_reducible repeat (first | apply Kd.R_alloc | apply Kd.R_drewN | apply Kd.R_drew)); exact (Kd.R_mono (Kd.R_far (p := ⟨kA, 1, none⟩) (Kd.R_far (p := ⟨kA, 0, none⟩) (Kd.R_types TA.out dA.out (by decide)) (fun _ hk => hk.2) (.slice xA qA.length wA)) (fun _ hk => hk.2) (.slice zA sA.length yA)) (fun _ h_ => h_.1))) hb); replace hB := zQ (Kd.R_below (by (with_reducible repeat (first | apply Kd.R_alloc | apply Kd.R_drewN | apply Kd.R_drew)); exact (Kd.R_mono (Kd.R_far (p := ⟨kA, 1, none⟩) (Kd.R_far (p := ⟨kA, 0, none⟩) (Kd.R_types hB.out dA.out (by decide)) (fun _ hk => hk.2) (.slice xA qA.length wA)) (fun _ hk => hk.2) (.slice zA sA.length yA)) (fun _ h_ => h_.1))) hb); replace gB := zQ (Kd.R_below (by (with_reducible repeat (first | apply Kd.R_alloc | apply Kd.R_drewN | apply Kd.R_drew)); exact (Kd.R_mono (Kd.R_far (p := ⟨kA, 1, none⟩) (Kd.R_far (p := ⟨kA, 0, none⟩) (Kd.R_types gB.out dA.out (by decide)) (fun _ hk => hk.2) (.slice xA qA.length wA)) (fun _ hk => hk.2) (.slice zA sA.length yA)) (fun _ h_ => h_.1))) hb); replace cA := zQ (blk_below (g := AA) (o := .cells #[.slice A0_0 l0_0.length c0_0, .slice A0_1 l0_1.length c0_1] 54 (0, 0)) (by refine zb ?_; refine blk_far ?_ eB.out _; refine zb ?_; refine blk_far ?_ eB.out _; refine zb ?_; exact cA.out) hb); replace dA := zQ (blk_below (g := kA) (o := .cells #[.slice xA qA.length wA, .slice zA sA.length yA] 27 (0, 0)) (by refine zb ?_; refine blk_put (cs := #[.slice xA qA.length wA, .slice none 0 0]) ?_ 1 _ rfl; refine zb ?_; refine blk_put (cs := #[.slice none 0 0, .slice none 0 0]) ?_ 0 _ rfl; refine zb ?_; exact dA.out) hb); replace HB := zQ (below_step (zB3 HB.out fA.out lA.out) hb); (try clear hb); (try clear tA)) | ((with_reducible refine zgc 38 ?_); refine zgo (some 48) Try.func38 #[.slice A2 l2.length c2] ?_; (with_reducible refine (laws_toInt64S.calls k _ _ l2 uA _ (zC KB.out HB.out) hC.out jJ.out).mono ?_); rintro e zJ ⟨uI, rfl, tA, hb⟩; refine ⟨_, rfl, ?_⟩; have cC := zQ (Kd.R_lower (Kd.R_new' (Kd.R_new' tA (Kd.R_lt (zR RA.out))) (Kd.R_lt (zR TA.out))) (below_size (zB3 HB.out fA.out lA.out))); replace LA := zRb LA.out hb; replace KA := zRb KA.out hb; replace SA := zQ (Kd.S_below (zS SA.out) hb); replace RA := zQ (Kd.R_elder' (zR RA.out) (Kd.R_base tA) hb); replace TA := zQ (Kd.R_elder' (zR TA.out) (Kd.R_base tA) hb); replace hB := zRb hB.out hb; replace gB := zRb gB.out hb; replace IB := zQ (Kd.S_below (zS IB.out) hb); replace cA := zbl cA.out hb; replace dA := zbl dA.out hb; replace HB := zQ (below_step (zB3 HB.out fA.out lA.out) hb); (try clear hb); (try clear tA); obtain ⟨LC, KC, DC, CC⟩ := zy2 dA.out; obtain ⟨oD, lD, VG⟩ := Kd.S_slice IB.out; subst VG; obtain ⟨QA, PA, UG⟩ := Kd.R_slice cC.out; subst UG) | ((with_reducible refine zgc 57 ?_); refine zgo (some 53) Try.func57 #[.agg #[.slice xA qA.length wA, .slice zA sA.length yA], .slice oD oB.length lD, .slice QA uA.length PA] ?_; (with_reducible refine (impl_NeedlessStays.calls k _ _ qA _ _ sA _ _ oB _ _ uA nB TD _ ?side1 ((Kd.R_reads' hB.out).2.1) ?side3 ((Kd.R_reads' gB.out).2.1) ?side5 ((Kd.S_reads' IB.out).2.1) ?side7 ((Kd.R_reads' cC.out).2.1) DG.out).mono ?_); (case side1 => exact zk (Kd.R_reads' hB.out).2.2); (case side3 => exact zk (Kd.R_reads' gB.out).2.2); (case side5 => repeat (first | exact (Kd.S_reads' IB.out).2.2 | (with_reducible refine Kd.C_alloc ?_ _) | (with_reducible refine Kd.C_drewN ?_ _) | (with_reducible refine Kd.C_drew ?_))); (case side7 => exact zk (Kd.R_reads' cC.out).2.2); rintro e yJ ⟨VA, rfl, tA, hb⟩; refine ⟨_, rfl, ?_⟩; have iD := zQ (Kd.R_lower (Kd.R_new' (Kd.R_new' (Kd.R_new' tA (Kd.R_lt (zR RA.out))) (Kd.R_lt (zR TA.out))) (Kd.R_lt (zR cC.out))) (below_size (zB3 HB.out fA.out lA.out))); replace LA := zRb LA.out hb; replace KA := zRb KA.out hb; replace SA := zQ (Kd.S_below (zS SA.out) hb); replace RA := zQ (Kd.R_elder' (zR RA.out) (Kd.R_base tA) hb); replace TA := zQ (Kd.R_elder' (zR TA.out) (Kd.R_base tA) hb); replace hB := zRb hB.out hb; replace gB := zRb gB.out hb; replace IB := zQ (Kd.S_below (zS IB.out) hb); replace cC := zQ (Kd.R_elder' (zR cC.out) (Kd.R_base tA) hb); replace cA := zbl cA.out hb; replace dA := zbl dA.out hb; replace HB := zQ (below_step (zB3 HB.out fA.out lA.out) hb); (try clear hb); (try clear tA)))
    (try simp only [Act.put, List.setIfInBounds_toArray, List.set_cons_zero, List.set_cons_succ])
    go_cut [64] (fun kI wc => ∃ (kq : Nat) (tC : Bool), kI = .bool tC ∧ Aside0 (laws_FnExactNeedlessStays.j0 kq l1 l2 lC kD oB uA nB TD tC l0_0 l0_1 qA sA = some r) ∧ Aside0 (kq ≤ k) ∧ Aside0 (Kd.R (Kd.int .i64) 2 wc w.heap.size (fun k_ => some k_ ≠ ((.slice QA uA.length PA) : Value).ownBlock ∧ some k_ ≠ (VA : Value).ownBlock) WA lC) ∧ Aside0 (Kd.S (Kd.slice 113 k113) 28 wc w.heap.size (fun _ => True) (.slice oD oB.length lD) oB) ∧ Aside0 (Kd.R (Kd.int .i64) 2 wc w.heap.size (fun k_ => some k_ ≠ (WA : Value).ownBlock ∧ some k_ ≠ (VA : Value).ownBlock) (.slice QA uA.length PA) uA) ∧ Aside0 (Kd.R (Kd.int .i64) 2 wc w.heap.size (fun k_ => some k_ ≠ (WA : Value).ownBlock ∧ some k_ ≠ ((.slice QA uA.length PA) : Value).ownBlock) VA nB) ∧ Aside0 (Kd.R k164 164 wc w.heap.size (fun _ => True) (.slice xA qA.length wA) qA) ∧ Aside0 (Kd.R k115 115 wc w.heap.size (fun _ => True) (.slice zA sA.length yA) sA) ∧ Aside0 (wc.heap[AA]? = some (.cells #[(.slice A0_0 l0_0.length c0_0), (.slice A0_1 l0_1.length c0_1)] 54 (0, 0))) ∧ Aside0 (wc.heap[kA]? = some (.cells #[(.slice xA qA.length wA), (.slice zA sA.length yA)] 27 (0, 0))) ∧ Aside0 (Below w.heap.size w wc))
    case first =>
     have H := kF.out; clear kF; replace H := zob H; obtain ⟨VE, iJ, H⟩ := H
     by_cases eF : VE = true
     ·subst eF
      rw [if_pos rfl] at H; have H' := zQ H; clear H; obtain ⟨mH, fH, TG⟩ := Kd.R_slice iD.out; subst TG; obtain ⟨lH, eH, SG⟩ := Kd.R_slice TA.out; subst SG
      go_wp2_with (first | ((with_reducible refine zgc 41 ?_); refine zgo (some 58) Try.func41 #[.slice mH nB.length fH, .slice lH lC.length eH] ?_; (with_reducible refine (laws_eqInt64S.calls k _ _ nB _ _ lC true _ ?side1 ((Kd.R_reads' iD.out).2.1) ?side3 ((Kd.R_reads' TA.out).2.1) iJ.out).mono ?_); (case side1 => exact zk (Kd.R_reads' iD.out).2.2); (case side3 => exact zk (Kd.R_reads' TA.out).2.2); rintro e w' ⟨rfl, ⟨nd, rfl⟩⟩; refine ⟨_, rfl, ?_⟩))
      go_meet
      case rel => exact ⟨_, ((TD != kD)), (zF), H', ⟨by first | omega | exact Nat.le_refl _⟩, ⟨by (with_reducible repeat (first | apply Kd.R_alloc | apply Kd.R_drewN | apply Kd.R_drew)); exact Kd.R_mono TA.out (fun _ hk => ⟨hk.1.2, hk.2⟩)⟩, ⟨by (with_reducible repeat (first | apply Kd.S_alloc | apply Kd.S_drewN | apply Kd.S_drew)); exact Kd.S_mono IB.out (fun _ hk => trivial)⟩, ⟨by (with_reducible repeat (first | apply Kd.R_alloc | apply Kd.R_drewN | apply Kd.R_drew)); exact Kd.R_mono cC.out (fun _ hk => ⟨hk.1.2, hk.2⟩)⟩, ⟨by (with_reducible repeat (first | apply Kd.R_alloc | apply Kd.R_drewN | apply Kd.R_drew)); exact Kd.R_mono iD.out (fun _ hk => ⟨hk.1.2, hk.2⟩)⟩, ⟨by (with_reducible repeat (first | apply Kd.R_alloc | apply Kd.R_drewN | apply Kd.R_drew)); exact Kd.R_mono hB.out (fun _ hk => trivial)⟩, ⟨by (with_reducible repeat (first | apply Kd.R_alloc | apply Kd.R_drewN | apply Kd.R_drew)); exact Kd.R_mono gB.out (fun _ hk => trivial)⟩, ⟨zb cA.out⟩, ⟨zb dA.out⟩, ⟨zB3 HB.out fA.out lA.out⟩⟩
     ·replace eF := Bool.eq_false_iff.mpr eF
      subst eF
      rw [if_neg Bool.false_ne_true] at H
      exact (laws_FnExactNeedlessStays.j0_cut _ _ _ _ _ _ _ _ _ _ _ _ _ _ H HRT.out).elim
    case rest =>
     clear kF; (try clear c1); (try clear c2); (try clear p2); (try clear c3); (try clear c4); (try clear eE); (try clear dE); (try clear c5); (try clear c7); (try clear mC); (try clear QH); (try clear hE); (try clear hD); (try clear JH); (try clear IH); (try clear HH); (try clear GH); (try clear FH); (try clear EH); (try clear eF); (try clear wB vB uB tB); (try clear RC QC JC IC); (try clear PC OC HC GC); (try clear PB OB NB MB); (try clear NC MC FC EC); (try clear LC KC DC CC); (try clear YB XB WB VB); obtain ⟨kq, tC, rfl, HA, pG, oA, vA, mA, eA, bA, aA, cA, dA, HB⟩ := hcut
     cases kq with
     | zero => exact absurd HA.out (by simp [laws_FnExactNeedlessStays.j0])
     | succ UB =>
      have H := HA.out; clear HA
      simp only [laws_FnExactNeedlessStays.j0] at H
      by_cases sF : tC = true
      ·subst sF
       rw [if_pos rfl] at H; obtain rfl := Option.some.inj H
       exact absurd HRT.out (by decide)
      ·replace sF := Bool.eq_false_iff.mpr sF
       subst sF
       rw [if_neg Bool.false_ne_true] at H; replace H := zob H; obtain ⟨⟨mB, lB⟩, hJ, H⟩ := H; replace H := zob H; obtain ⟨UE, gJ, H⟩ := H
       by_cases rF : UE = true
       ·subst rF
        rw [if_pos rfl] at H; replace H := zob H; obtain ⟨iB, fJ, H⟩ := H; replace H := zob H; obtain ⟨TE, eJ, H⟩ := H
        by_cases qF : TE = true
        ·subst qF
         rw [if_pos rfl] at H; replace H := zob H; obtain ⟨XA, dJ, H⟩ := H; replace H := zob H; obtain ⟨SE, cJ, H⟩ := H
         by_cases pF : SE = true
         ·subst pF
          rw [if_pos rfl] at H; replace H := zob H; obtain ⟨⟨RE, sD, rD⟩, bJ, H⟩ := H; replace H := zob H; obtain ⟨⟨QE, LG⟩, aJ, H⟩ := H; replace H := zob H; obtain ⟨⟨BF, KG⟩, ZI, H⟩ := H; have jF := zQ H; clear H
          try go_wp2
          have n0_ := zQ (Kd.R_drew oA.out); have n1_ := zQ (Kd.S_drew vA.out); have n2_ := zQ (Kd.R_drew mA.out); have n3_ := zQ (Kd.R_drew eA.out); have n4_ := zQ (Kd.R_drew bA.out); have n5_ := zQ (Kd.R_drew aA.out); have n6_ := zQ (blk_drew cA.out); have n7_ := zQ (blk_drew dA.out); have n8_ := zQ (below_drew1 HB.out); clear oA; clear vA; clear mA; clear eA; clear bA; clear aA; clear cA; clear dA; clear HB; have oA := n0_; have vA := n1_; have mA := n2_; have eA := n3_; have bA := n4_; have aA := n5_; have cA := n6_; have dA := n7_; have HB := n8_; clear n0_ n1_ n2_ n3_ n4_ n5_ n6_ n7_ n8_
          refine zs (fun w' => w'.cell? ⟨kA, 0, none⟩ = some (.slice xA qA.length wA) ∧ w'.cell? ⟨kA, 1, none⟩ = some (.slice zA sA.length yA) ∧ w'.cell? ⟨AA, 0, none⟩ = some (.slice A0_0 l0_0.length c0_0) ∧ w'.cell? ⟨AA, 1, none⟩ = some (.slice A0_1 l0_1.length c0_1)) [] 5 ⟨(blk_cell dA.out 0).trans rfl, (blk_cell dA.out 1).trans rfl, (blk_cell cA.out 0).trans rfl, (blk_cell cA.out 1).trans rfl⟩ (fun YA => ?_)
          generalize wc.drew = xJ at oA vA mA eA bA aA cA dA HB YA ⊢
          refine zt 0 65 YA ?_
          refine zt 1 66 YA ?_
          refine zo 2 (some 67) (fun K hK => ?_)
          refine goes_ Try.func36 (by kernel_rfl) rfl #[.agg #[.slice A0_0 l0_0.length c0_0, .slice A0_1 l0_1.length c0_1]] (by rfl) rfl rfl zM ?_
          with_reducible refine (laws_toFrame.calls UB _ _ l0_0 _ _ l0_1 mB lB _ ?side1 ?side2 ?side3 ?side4 hJ.out).mono ?_
          (case side1 => exact zC CA.out HB.out)
          (case side2 => exact EA.out)
          (case side3 => exact zC BA.out HB.out)
          (case side4 => exact DA.out)
          rintro e wJ ⟨tI, sI, rfl, tA, cD, hb⟩
          refine ⟨_, rfl, ?_⟩
          have n0_ := zRb oA.out hb; have n1_ := zQ (Kd.S_below (zS vA.out) hb); have n2_ := zRb mA.out hb; have n3_ := zRb eA.out hb; have n4_ := zQ (Kd.R_elder' (zR bA.out) (Kd.R_base tA) hb); have n5_ := zQ (Kd.R_elder' (zR aA.out) (Kd.R_base cD) hb); have n6_ := zQ (Kd.R_lower (Kd.R_new' tA (Kd.R_lt (zR bA.out))) (below_size (zB3 HB.out fA.out lA.out))); have n7_ := zQ (Kd.R_lower (Kd.R_new' cD (Kd.R_lt (zR aA.out))) (below_size (zB3 HB.out fA.out lA.out))); have n8_ := zbl cA.out hb; have n9_ := zbl dA.out hb; have n10_ := zQ (below_step (zB3 HB.out fA.out lA.out) hb); clear oA; clear vA; clear mA; clear eA; clear bA; clear aA; clear cA; clear dA; clear HB; have oA := n0_; have vA := n1_; have mA := n2_; have eA := n3_; have bA := n4_; have aA := n5_; have NA := n6_; have MA := n7_; have cA := n8_; have dA := n9_; have HB := n10_; clear n0_ n1_ n2_ n3_ n4_ n5_ n6_ n7_ n8_ n9_ n10_
          (try clear hb)
          (try clear EF)
          (try clear hk)
          (try clear hi)
          (try clear tA)
          (try clear cD)
          obtain ⟨EB, zB, GF⟩ := Kd.R_slice NA.out
          (first | subst GF | (injection GF with f1_ f2_ f3_; have f4_ := f1_.symm; have f5_ := f3_.symm; clear f1_ f2_ f3_; subst f4_; subst f5_))
          obtain ⟨DB, yB, FF⟩ := Kd.R_slice MA.out
          (first | subst FF | (injection FF with f1_ f2_ f3_; have f4_ := f1_.symm; have f5_ := f3_.symm; clear f1_ f2_ f3_; subst f4_; subst f5_))
          refine hK.out _ _ ⟨(blk_cell dA.out 0).trans rfl, (blk_cell dA.out 1).trans rfl, (blk_cell cA.out 0).trans rfl, (blk_cell cA.out 1).trans rfl⟩ (fun YA => ?_)
          clear hK K
          refine zn 67 ?_
          refine zo 3 (some 68) (fun K hK => ?_)
          refine goes_ Try.func39 (by kernel_rfl) rfl #[.agg #[.slice xA qA.length wA, .slice zA sA.length yA], .agg #[.slice EB mB.length zB, .slice DB lB.length yB]] (by rfl) rfl rfl zM ?_
          with_reducible refine (laws_eqFrame.calls UB _ _ qA _ _ sA _ _ mB _ _ lB true _ ?side1 ?side2 ?side3 ?side4 ?side5 ?side6 ?side7 ?side8 gJ.out).mono ?_
          (case side1 => exact zk (Kd.R_reads' bA.out).2.2)
          (case side2 => exact (Kd.R_reads' bA.out).2.1)
          (case side3 => exact zk (Kd.R_reads' aA.out).2.2)
          (case side4 => exact (Kd.R_reads' aA.out).2.1)
          (case side5 => exact zk (Kd.R_reads' NA.out).2.2)
          (case side6 => exact (Kd.R_reads' NA.out).2.1)
          (case side7 => exact zk (Kd.R_reads' MA.out).2.2)
          (case side8 => exact (Kd.R_reads' MA.out).2.1)
          rintro e vJ ⟨rfl, hb⟩
          refine ⟨_, rfl, ?_⟩
          have n0_ := zRb oA.out hb; have n1_ := zQ (Kd.S_below (zS vA.out) hb); have n2_ := zRb mA.out hb; have n3_ := zRb eA.out hb; have n4_ := zRb bA.out hb; have n5_ := zRb aA.out hb; have n6_ := zRb NA.out hb; have n7_ := zRb MA.out hb; have n8_ := zbl cA.out hb; have n9_ := zbl dA.out hb; have n10_ := zQ (below_step (zB3 HB.out fA.out lA.out) hb); clear oA; clear vA; clear mA; clear eA; clear bA; clear aA; clear NA; clear MA; clear cA; clear dA; clear HB; have oA := n0_; have vA := n1_; have mA := n2_; have eA := n3_; have bA := n4_; have aA := n5_; have NA := n6_; have MA := n7_; have cA := n8_; have dA := n9_; have HB := n10_; clear n0_ n1_ n2_ n3_ n4_ n5_ n6_ n7_ n8_ n9_ n10_
          (try clear hb)
          (try clear EF)
          (try clear hk)
          (try clear hi)
          refine hK.out _ _ ⟨(blk_cell dA.out 0).trans rfl, (blk_cell dA.out 1).trans rfl, (blk_cell cA.out 0).trans rfl, (blk_cell cA.out 1).trans rfl⟩ (fun YA => ?_)
          clear hK K
          refine zn 68 ?_
          refine zp 4 69 ?_
          refine done_ (by kernel_rfl) ?_
          go_upto_region 27 with (first | ((with_reducible refine zgc 48 ?_); refine zgo (some 72) Try.func48 #[.slice A1 l1.length c1] ?_; (with_reducible refine (laws_toPullSS.calls UB _ _ l1 iB _ (zC gC.out HB.out) iC.out fJ.out).mono ?_); rintro e uJ ⟨rI, rfl, tA, hb⟩; refine ⟨_, rfl, ?_⟩; have qB := zQ (Kd.S_lower (Kd.S_new' tA (Kd.S_lt (zS vA.out))) (below_size (zB3 HB.out fA.out lA.out))); replace oA := zRb oA.out hb; replace vA := zQ (Kd.S_elder' (zS vA.out) (Kd.S_base tA) hb); replace mA := zRb mA.out hb; replace eA := zRb eA.out hb; replace bA := zRb bA.out hb; replace aA := zRb aA.out hb; replace NA := zRb NA.out hb; replace MA := zRb MA.out hb; replace cA := zbl cA.out hb; replace dA := zbl dA.out hb; replace HB := zQ (below_step (zB3 HB.out fA.out lA.out) hb); (try clear hb); (try clear tA); obtain ⟨CB, xB, RG⟩ := Kd.S_slice qB.out; subst RG) | ((with_reducible refine zgc 50 ?_); refine zgo (some 73) Try.func50 #[.slice oD oB.length lD, .slice CB iB.length xB] ?_; (with_reducible refine (laws_eqPullSS.calls UB _ _ oB _ _ iB true _ ?side1 ((Kd.S_reads' vA.out).2.1) ?side3 ((Kd.S_reads' qB.out).2.1) eJ.out).mono ?_); (case side1 => repeat (first | exact (Kd.S_reads' vA.out).2.2 | (with_reducible refine Kd.C_alloc ?_ _) | (with_reducible refine Kd.C_drewN ?_ _) | (with_reducible refine Kd.C_drew ?_))); (case side3 => repeat (first | exact (Kd.S_reads' qB.out).2.2 | (with_reducible refine Kd.C_alloc ?_ _) | (with_reducible refine Kd.C_drewN ?_ _) | (with_reducible refine Kd.C_drew ?_))); rintro e tJ ⟨rfl, hb⟩; refine ⟨_, rfl, ?_⟩; replace oA := zRb oA.out hb; replace vA := zQ (Kd.S_below (zS vA.out) hb); replace mA := zRb mA.out hb; replace eA := zRb eA.out hb; replace bA := zRb bA.out hb; replace aA := zRb aA.out hb; replace NA := zRb NA.out hb; replace MA := zRb MA.out hb; replace qB := zQ (Kd.S_below (zS qB.out) hb); replace cA := zbl cA.out hb; replace dA := zbl dA.out hb; replace HB := zQ (below_step (zB3 HB.out fA.out lA.out) hb); (try clear hb)) | ((with_reducible refine zgc 38 ?_); refine zgo (some 77) Try.func38 #[.slice A2 l2.length c2] ?_; (with_reducible refine (laws_toInt64S.calls UB _ _ l2 XA _ (zC KB.out HB.out) hC.out dJ.out).mono ?_); rintro e sJ ⟨qI, rfl, tA, hb⟩; refine ⟨_, rfl, ?_⟩; have pB := zQ (Kd.R_lower (Kd.R_new' (Kd.R_new' (Kd.R_new' tA (Kd.R_lt (zR oA.out))) (Kd.R_lt (zR mA.out))) (Kd.R_lt (zR eA.out))) (below_size (zB3 HB.out fA.out lA.out))); replace oA := zQ (Kd.R_elder' (zR oA.out) (Kd.R_base tA) hb); replace vA := zQ (Kd.S_below (zS vA.out) hb); replace mA := zQ (Kd.R_elder' (zR mA.out) (Kd.R_base tA) hb); replace eA := zQ (Kd.R_elder' (zR eA.out) (Kd.R_base tA) hb); replace bA := zRb bA.out hb; replace aA := zRb aA.out hb; replace NA := zRb NA.out hb; replace MA := zRb MA.out hb; replace qB := zQ (Kd.S_below (zS qB.out) hb); replace cA := zbl cA.out hb; replace dA := zbl dA.out hb; replace HB := zQ (below_step (zB3 HB.out fA.out lA.out) hb); (try clear hb); (try clear tA); obtain ⟨fB, dB, QG⟩ := Kd.R_slice pB.out; subst QG) | ((with_reducible refine zgc 41 ?_); refine zgo (some 78) Try.func41 #[.slice QA uA.length PA, .slice fB XA.length dB] ?_; (with_reducible refine (laws_eqInt64S.calls UB _ _ uA _ _ XA true _ ?side1 ((Kd.R_reads' mA.out).2.1) ?side3 ((Kd.R_reads' pB.out).2.1) cJ.out).mono ?_); (case side1 => exact zk (Kd.R_reads' mA.out).2.2); (case side3 => exact zk (Kd.R_reads' pB.out).2.2); rintro e w' ⟨rfl, ⟨nd, rfl⟩⟩; refine ⟨_, rfl, ?_⟩; have CH := FB.out; have AH := eB.out; obtain ⟨gD, fD, eD, dD⟩ := zy2 dA.out) | ((with_reducible refine zgc 42 ?_); refine zgo (some 82) Try.func42 #[.agg #[.slice xA qA.length wA, .slice zA sA.length yA], .int .i64 1] ?_; (with_reducible refine (laws_markFrame.calls UB (fun k_ => some k_ = (.slice xA qA.length wA : Value).ownBlock) (.slice xA qA.length wA) qA (fun k_ => some k_ = (.slice zA sA.length yA : Value).ownBlock) (.slice zA sA.length yA) sA 1 RE sD rD w _ ?side1 (Kd.R_tight rfl (zR bA.out)) (Kd.R_tight rfl (zR aA.out)) bJ.out).mono ?_); (case side1 => exact zB3 HB.out fA.out lA.out); rintro e rJ ⟨rfl, AD, zH, hb, hkp⟩; refine ⟨_, rfl, ?_⟩; replace oA := zQ (Kd.R_mono (ok' := fun k_ => some k_ ≠ (.slice QA uA.length PA : Value).ownBlock ∧ some k_ ≠ (VA : Value).ownBlock ∧ some k_ ≠ (.slice fB XA.length dB : Value).ownBlock) (Kd.R_keptB (zRk ((Kd.R_apart' (Kd.R_apart' oA.out (Kd.R_typed bA.out) (by decide)) (Kd.R_typed aA.out) (by decide)))) hkp (fun k_ hk_ hs_ => Or.elim hs_ (fun e_ => (hk_.1.2) e_) (fun e_ => (hk_.2) e_))) (fun k_ hk_ => ⟨hk_.1.1.1.1.1, hk_.1.1.1.1.2, hk_.1.1.1.2⟩)); replace vA := zQ (Kd.S_mono (ok' := fun k_ => some k_ ≠ (.slice CB iB.length xB : Value).ownBlock) (Kd.S_keptB ((Kd.S_apart' (Kd.S_apart' vA.out (Kd.R_typed bA.out) (by decide)) (Kd.R_typed aA.out) (by decide))) hkp (fun k_ hk_ hs_ => Or.elim hs_ (fun e_ => (hk_.1.2) e_) (fun e_ => (hk_.2) e_))) (fun k_ hk_ => hk_.1.1.1.2)); replace mA := zQ (Kd.R_mono (ok' := fun k_ => some k_ ≠ (WA : Value).ownBlock ∧ some k_ ≠ (VA : Value).ownBlock ∧ some k_ ≠ (.slice fB XA.length dB : Value).ownBlock) (Kd.R_keptB (zRk ((Kd.R_apart' (Kd.R_apart' mA.out (Kd.R_typed bA.out) (by decide)) (Kd.R_typed aA.out) (by decide)))) hkp (fun k_ hk_ hs_ => Or.elim hs_ (fun e_ => (hk_.1.2) e_) (fun e_ => (hk_.2) e_))) (fun k_ hk_ => ⟨hk_.1.1.1.1.1, hk_.1.1.1.1.2, hk_.1.1.1.2⟩)); replace eA := zQ (Kd.R_mono (ok' := fun k_ => some k_ ≠ (WA : Value).ownBlock ∧ some k_ ≠ (.slice QA uA.length PA : Value).ownBlock ∧ some k_ ≠ (.slice fB XA.length dB : Value).ownBlock) (Kd.R_keptB (zRk ((Kd.R_apart' (Kd.R_apart' eA.out (Kd.R_typed bA.out) (by decide)) (Kd.R_typed aA.out) (by decide)))) hkp (fun k_ hk_ hs_ => Or.elim hs_ (fun e_ => (hk_.1.2) e_) (fun e_ => (hk_.2) e_))) (fun k_ hk_ => ⟨hk_.1.1.1.1.1, hk_.1.1.1.1.2, hk_.1.1.1.2⟩)); replace cA := zQ (blk_kept (zb cA.out) hkp (fun hs_ => Or.elim hs_ (fun e_ => (fun e_ => (Kd.R_ne bA.out cA.out (by decide)) e_) e_) (fun e_ => (fun e_ => (Kd.R_ne aA.out cA.out (by decide)) e_) e_))); replace dA := zQ (blk_kept (zb dA.out) hkp (fun hs_ => Or.elim hs_ (fun e_ => (fun e_ => (Kd.R_ne bA.out dA.out (by decide)) e_) e_) (fun e_ => (fun e_ => (Kd.R_ne aA.out dA.out (by decide)) e_) e_))); replace NA := zQ (Kd.R_mono (ok' := fun k_ => some k_ ≠ (.slice xA qA.length wA : Value).ownBlock) (Kd.R_keptB (zRk ((Kd.R_apart' NA.out (Kd.R_typed aA.out) (by decide)))) hkp (fun k_ hk_ hs_ => Or.elim hs_ (fun e_ => (hk_.1.2) e_) (fun e_ => (hk_.2) e_))) (fun k_ hk_ => hk_.1.1.2)); replace MA := zQ (Kd.R_mono (ok' := fun k_ => some k_ ≠ (.slice zA sA.length yA : Value).ownBlock) (Kd.R_keptB (zRk ((Kd.R_apart' MA.out (Kd.R_typed bA.out) (by decide)))) hkp (fun k_ hk_ hs_ => Or.elim hs_ (fun e_ => (hk_.2) e_) (fun e_ => (hk_.1.2) e_))) (fun k_ hk_ => hk_.1.1.2)); replace qB := zQ (Kd.S_mono (ok' := fun k_ => some k_ ≠ (.slice oD oB.length lD : Value).ownBlock) (Kd.S_keptB ((Kd.S_apart' (Kd.S_apart' qB.out (Kd.R_typed bA.out) (by decide)) (Kd.R_typed aA.out) (by decide))) hkp (fun k_ hk_ hs_ => Or.elim hs_ (fun e_ => (hk_.1.2) e_) (fun e_ => (hk_.2) e_))) (fun k_ hk_ => hk_.1.1.1.2)); replace pB := zQ (Kd.R_mono (ok' := fun k_ => some k_ ≠ (WA : Value).ownBlock ∧ some k_ ≠ (.slice QA uA.length PA : Value).ownBlock ∧ some k_ ≠ (VA : Value).ownBlock) (Kd.R_keptB (zRk ((Kd.R_apart' (Kd.R_apart' pB.out (Kd.R_typed bA.out) (by decide)) (Kd.R_typed aA.out) (by decide)))) hkp (fun k_ hk_ hs_ => Or.elim hs_ (fun e_ => (hk_.1.2) e_) (fun e_ => (hk_.2) e_))) (fun k_ hk_ => ⟨hk_.1.1.1.1.1.2, hk_.1.1.1.1.2, hk_.1.1.1.2⟩)); replace bA := zQ (Kd.R_reok rfl AD (fun k_ e_ => bA.out.1 k_ e_)); replace aA := zQ (Kd.R_reok rfl zH (fun k_ e_ => aA.out.1 k_ e_)); replace HB := zQ (hb); (try clear hb); (try clear hkp); (try clear AD); (try clear zH)) | ((with_reducible refine zgc 58 ?_); refine zgo (some 85) Try.func58 #[.slice oD oB.length lD, .int .i64 RE] ?_; (with_reducible refine (laws_markPullSS.calls UB (fun k_ => ((((((((((some k_ ≠ (.slice CB iB.length xB : Value).ownBlock ∧ some k_ ≠ (WA : Value).ownBlock) ∧ some k_ ≠ (.slice QA uA.length PA : Value).ownBlock) ∧ some k_ ≠ (VA : Value).ownBlock) ∧ some k_ ≠ (.slice xA qA.length wA : Value).ownBlock) ∧ some k_ ≠ (.slice zA sA.length yA : Value).ownBlock) ∧ some k_ ≠ (.slice EB mB.length zB : Value).ownBlock) ∧ some k_ ≠ (.slice DB lB.length yB : Value).ownBlock) ∧ some k_ ≠ (.slice fB XA.length dB : Value).ownBlock) ∧ k_ ≠ AA) ∧ k_ ≠ kA) ∧ w.heap.size ≤ k_) (.slice oD oB.length lD) oB RE QE LG w _ ?side1 (Kd.S_mono (Kd.S_bound (Kd.S_types (Kd.S_types (Kd.S_apart' (Kd.S_apart' (Kd.S_apart' (Kd.S_apart' (Kd.S_apart' (Kd.S_apart' (Kd.S_apart' (Kd.S_apart' (vA.out) (Kd.R_typed oA.out) (by decide)) (Kd.R_typed mA.out) (by decide)) (Kd.R_typed eA.out) (by decide)) (Kd.R_typed bA.out) (by decide)) (Kd.R_typed aA.out) (by decide)) (Kd.R_typed NA.out) (by decide)) (Kd.R_typed MA.out) (by decide)) (Kd.R_typed pB.out) (by decide)) cA.out (by decide)) dA.out (by decide))) (fun k_ hk => ⟨hk.1, hk.2.1⟩)) aJ.out).mono ?_); (case side1 => exact zB3 HB.out fA.out lA.out); rintro e qJ ⟨rfl, AD, hb, hkp⟩; refine ⟨_, rfl, ?_⟩; replace oA := zQ (Kd.R_mono (ok' := fun k_ => some k_ ≠ (.slice QA uA.length PA : Value).ownBlock ∧ some k_ ≠ (VA : Value).ownBlock ∧ some k_ ≠ (.slice fB XA.length dB : Value).ownBlock) (Kd.R_keptB ((Kd.R_mono (Kd.R_tight2 rfl oA.out) (fun k_ hk => (⟨hk.2, fun e_ => (e_.1.1.1.1.1.1.1.1.1.1.2) hk.1⟩ : _ ∧ ¬ ((fun k_ => ((((((((((some k_ ≠ (.slice CB iB.length xB : Value).ownBlock ∧ some k_ ≠ (WA : Value).ownBlock) ∧ some k_ ≠ (.slice QA uA.length PA : Value).ownBlock) ∧ some k_ ≠ (VA : Value).ownBlock) ∧ some k_ ≠ (.slice xA qA.length wA : Value).ownBlock) ∧ some k_ ≠ (.slice zA sA.length yA : Value).ownBlock) ∧ some k_ ≠ (.slice EB mB.length zB : Value).ownBlock) ∧ some k_ ≠ (.slice DB lB.length yB : Value).ownBlock) ∧ some k_ ≠ (.slice fB XA.length dB : Value).ownBlock) ∧ k_ ≠ AA) ∧ k_ ≠ kA) ∧ w.heap.size ≤ k_)) k_)))) hkp (fun k_ hk_ hs_ => (hk_.2) hs_)) (fun k_ hk_ => ⟨hk_.1.1.1, hk_.1.1.2.1, hk_.1.1.2.2⟩)); replace vA := zQ (Kd.S_mono (ok' := (fun k_ => some k_ ≠ (.slice CB iB.length xB : Value).ownBlock)) AD (fun k_ hk_ => hk_.1.1.1.1.1.1.1.1.1.1.1)); replace mA := zQ (Kd.R_mono (ok' := fun k_ => some k_ ≠ (WA : Value).ownBlock ∧ some k_ ≠ (VA : Value).ownBlock ∧ some k_ ≠ (.slice fB XA.length dB : Value).ownBlock) (Kd.R_keptB ((Kd.R_mono (Kd.R_tight2 rfl mA.out) (fun k_ hk => (⟨hk.2, fun e_ => (e_.1.1.1.1.1.1.1.1.1.2) hk.1⟩ : _ ∧ ¬ ((fun k_ => ((((((((((some k_ ≠ (.slice CB iB.length xB : Value).ownBlock ∧ some k_ ≠ (WA : Value).ownBlock) ∧ some k_ ≠ (.slice QA uA.length PA : Value).ownBlock) ∧ some k_ ≠ (VA : Value).ownBlock) ∧ some k_ ≠ (.slice xA qA.length wA : Value).ownBlock) ∧ some k_ ≠ (.slice zA sA.length yA : Value).ownBlock) ∧ some k_ ≠ (.slice EB mB.length zB : Value).ownBlock) ∧ some k_ ≠ (.slice DB lB.length yB : Value).ownBlock) ∧ some k_ ≠ (.slice fB XA.length dB : Value).ownBlock) ∧ k_ ≠ AA) ∧ k_ ≠ kA) ∧ w.heap.size ≤ k_)) k_)))) hkp (fun k_ hk_ hs_ => (hk_.2) hs_)) (fun k_ hk_ => ⟨hk_.1.1.1, hk_.1.1.2.1, hk_.1.1.2.2⟩)); replace eA := zQ (Kd.R_mono (ok' := fun k_ => some k_ ≠ (WA : Value).ownBlock ∧ some k_ ≠ (.slice QA uA.length PA : Value).ownBlock ∧ some k_ ≠ (.slice fB XA.length dB : Value).ownBlock) (Kd.R_keptB ((Kd.R_mono (Kd.R_tight2 rfl eA.out) (fun k_ hk => (⟨hk.2, fun e_ => (e_.1.1.1.1.1.1.1.1.2) hk.1⟩ : _ ∧ ¬ ((fun k_ => ((((((((((some k_ ≠ (.slice CB iB.length xB : Value).ownBlock ∧ some k_ ≠ (WA : Value).ownBlock) ∧ some k_ ≠ (.slice QA uA.length PA : Value).ownBlock) ∧ some k_ ≠ (VA : Value).ownBlock) ∧ some k_ ≠ (.slice xA qA.length wA : Value).ownBlock) ∧ some k_ ≠ (.slice zA sA.length yA : Value).ownBlock) ∧ some k_ ≠ (.slice EB mB.length zB : Value).ownBlock) ∧ some k_ ≠ (.slice DB lB.length yB : Value).ownBlock) ∧ some k_ ≠ (.slice fB XA.length dB : Value).ownBlock) ∧ k_ ≠ AA) ∧ k_ ≠ kA) ∧ w.heap.size ≤ k_)) k_)))) hkp (fun k_ hk_ hs_ => (hk_.2) hs_)) (fun k_ hk_ => ⟨hk_.1.1.1, hk_.1.1.2.1, hk_.1.1.2.2⟩)); replace bA := zQ (Kd.R_mono (ok' := fun k_ => some k_ ≠ (.slice EB mB.length zB : Value).ownBlock) (Kd.R_keptB ((Kd.R_mono (Kd.R_tight2 rfl bA.out) (fun k_ hk => (⟨hk.2, fun e_ => (e_.1.1.1.1.1.1.1.2) hk.1⟩ : _ ∧ ¬ ((fun k_ => ((((((((((some k_ ≠ (.slice CB iB.length xB : Value).ownBlock ∧ some k_ ≠ (WA : Value).ownBlock) ∧ some k_ ≠ (.slice QA uA.length PA : Value).ownBlock) ∧ some k_ ≠ (VA : Value).ownBlock) ∧ some k_ ≠ (.slice xA qA.length wA : Value).ownBlock) ∧ some k_ ≠ (.slice zA sA.length yA : Value).ownBlock) ∧ some k_ ≠ (.slice EB mB.length zB : Value).ownBlock) ∧ some k_ ≠ (.slice DB lB.length yB : Value).ownBlock) ∧ some k_ ≠ (.slice fB XA.length dB : Value).ownBlock) ∧ k_ ≠ AA) ∧ k_ ≠ kA) ∧ w.heap.size ≤ k_)) k_)))) hkp (fun k_ hk_ hs_ => (hk_.2) hs_)) (fun k_ hk_ => hk_.1.1.2)); replace aA := zQ (Kd.R_mono (ok' := fun k_ => some k_ ≠ (.slice DB lB.length yB : Value).ownBlock) (Kd.R_keptB ((Kd.R_mono (Kd.R_tight2 rfl aA.out) (fun k_ hk => (⟨hk.2, fun e_ => (e_.1.1.1.1.1.1.2) hk.1⟩ : _ ∧ ¬ ((fun k_ => ((((((((((some k_ ≠ (.slice CB iB.length xB : Value).ownBlock ∧ some k_ ≠ (WA : Value).ownBlock) ∧ some k_ ≠ (.slice QA uA.length PA : Value).ownBlock) ∧ some k_ ≠ (VA : Value).ownBlock) ∧ some k_ ≠ (.slice xA qA.length wA : Value).ownBlock) ∧ some k_ ≠ (.slice zA sA.length yA : Value).ownBlock) ∧ some k_ ≠ (.slice EB mB.length zB : Value).ownBlock) ∧ some k_ ≠ (.slice DB lB.length yB : Value).ownBlock) ∧ some k_ ≠ (.slice fB XA.length dB : Value).ownBlock) ∧ k_ ≠ AA) ∧ k_ ≠ kA) ∧ w.heap.size ≤ k_)) k_)))) hkp (fun k_ hk_ hs_ => (hk_.2) hs_)) (fun k_ hk_ => hk_.1.1.2)); replace cA := zQ (blk_kept (g := AA) (o := .cells #[.slice A0_0 l0_0.length c0_0, .slice A0_1 l0_1.length c0_1] 54 (0, 0)) (zb cA.out) hkp (fun hs_ => (fun (e_ : (fun k_ => ((((((((((some k_ ≠ (.slice CB iB.length xB : Value).ownBlock ∧ some k_ ≠ (WA : Value).ownBlock) ∧ some k_ ≠ (.slice QA uA.length PA : Value).ownBlock) ∧ some k_ ≠ (VA : Value).ownBlock) ∧ some k_ ≠ (.slice xA qA.length wA : Value).ownBlock) ∧ some k_ ≠ (.slice zA sA.length yA : Value).ownBlock) ∧ some k_ ≠ (.slice EB mB.length zB : Value).ownBlock) ∧ some k_ ≠ (.slice DB lB.length yB : Value).ownBlock) ∧ some k_ ≠ (.slice fB XA.length dB : Value).ownBlock) ∧ k_ ≠ AA) ∧ k_ ≠ kA) ∧ w.heap.size ≤ k_) AA) => (e_.1.1.2) rfl) hs_)); replace dA := zQ (blk_kept (g := kA) (o := .cells #[.slice xA qA.length wA, .slice zA sA.length yA] 27 (0, 0)) (zb dA.out) hkp (fun hs_ => (fun (e_ : (fun k_ => ((((((((((some k_ ≠ (.slice CB iB.length xB : Value).ownBlock ∧ some k_ ≠ (WA : Value).ownBlock) ∧ some k_ ≠ (.slice QA uA.length PA : Value).ownBlock) ∧ some k_ ≠ (VA : Value).ownBlock) ∧ some k_ ≠ (.slice xA qA.length wA : Value).ownBlock) ∧ some k_ ≠ (.slice zA sA.length yA : Value).ownBlock) ∧ some k_ ≠ (.slice EB mB.length zB : Value).ownBlock) ∧ some k_ ≠ (.slice DB lB.length yB : Value).ownBlock) ∧ some k_ ≠ (.slice fB XA.length dB : Value).ownBlock) ∧ k_ ≠ AA) ∧ k_ ≠ kA) ∧ w.heap.size ≤ k_) kA) => (e_.1.2) rfl) hs_)); replace NA := zQ (Kd.R_mono (ok' := fun k_ => some k_ ≠ (.slice xA qA.length wA : Value).ownBlock) (Kd.R_keptB ((Kd.R_mono (Kd.R_tight2 rfl NA.out) (fun k_ hk => (⟨hk.2, fun e_ => (e_.1.1.1.1.1.2) hk.1⟩ : _ ∧ ¬ ((fun k_ => ((((((((((some k_ ≠ (.slice CB iB.length xB : Value).ownBlock ∧ some k_ ≠ (WA : Value).ownBlock) ∧ some k_ ≠ (.slice QA uA.length PA : Value).ownBlock) ∧ some k_ ≠ (VA : Value).ownBlock) ∧ some k_ ≠ (.slice xA qA.length wA : Value).ownBlock) ∧ some k_ ≠ (.slice zA sA.length yA : Value).ownBlock) ∧ some k_ ≠ (.slice EB mB.length zB : Value).ownBlock) ∧ some k_ ≠ (.slice DB lB.length yB : Value).ownBlock) ∧ some k_ ≠ (.slice fB XA.length dB : Value).ownBlock) ∧ k_ ≠ AA) ∧ k_ ≠ kA) ∧ w.heap.size ≤ k_)) k_)))) hkp (fun k_ hk_ hs_ => (hk_.2) hs_)) (fun k_ hk_ => hk_.1.1)); replace MA := zQ (Kd.R_mono (ok' := fun k_ => some k_ ≠ (.slice zA sA.length yA : Value).ownBlock) (Kd.R_keptB ((Kd.R_mono (Kd.R_tight2 rfl MA.out) (fun k_ hk => (⟨hk.2, fun e_ => (e_.1.1.1.1.2) hk.1⟩ : _ ∧ ¬ ((fun k_ => ((((((((((some k_ ≠ (.slice CB iB.length xB : Value).ownBlock ∧ some k_ ≠ (WA : Value).ownBlock) ∧ some k_ ≠ (.slice QA uA.length PA : Value).ownBlock) ∧ some k_ ≠ (VA : Value).ownBlock) ∧ some k_ ≠ (.slice xA qA.length wA : Value).ownBlock) ∧ some k_ ≠ (.slice zA sA.length yA : Value).ownBlock) ∧ some k_ ≠ (.slice EB mB.length zB : Value).ownBlock) ∧ some k_ ≠ (.slice DB lB.length yB : Value).ownBlock) ∧ some k_ ≠ (.slice fB XA.length dB : Value).ownBlock) ∧ k_ ≠ AA) ∧ k_ ≠ kA) ∧ w.heap.size ≤ k_)) k_)))) hkp (fun k_ hk_ hs_ => (hk_.2) hs_)) (fun k_ hk_ => hk_.1.1)); replace pB := zQ (Kd.R_mono (ok' := fun k_ => some k_ ≠ (WA : Value).ownBlock ∧ some k_ ≠ (.slice QA uA.length PA : Value).ownBlock ∧ some k_ ≠ (VA : Value).ownBlock) (Kd.R_keptB ((Kd.R_mono (Kd.R_tight2 rfl pB.out) (fun k_ hk => (⟨hk.2, fun e_ => (e_.1.1.1.2) hk.1⟩ : _ ∧ ¬ ((fun k_ => ((((((((((some k_ ≠ (.slice CB iB.length xB : Value).ownBlock ∧ some k_ ≠ (WA : Value).ownBlock) ∧ some k_ ≠ (.slice QA uA.length PA : Value).ownBlock) ∧ some k_ ≠ (VA : Value).ownBlock) ∧ some k_ ≠ (.slice xA qA.length wA : Value).ownBlock) ∧ some k_ ≠ (.slice zA sA.length yA : Value).ownBlock) ∧ some k_ ≠ (.slice EB mB.length zB : Value).ownBlock) ∧ some k_ ≠ (.slice DB lB.length yB : Value).ownBlock) ∧ some k_ ≠ (.slice fB XA.length dB : Value).ownBlock) ∧ k_ ≠ AA) ∧ k_ ≠ kA) ∧ w.heap.size ≤ k_)) k_)))) hkp (fun k_ hk_ hs_ => (hk_.2) hs_)) (fun k_ hk_ => ⟨hk_.1.1.1, hk_.1.1.2.1, hk_.1.1.2.2⟩)); replace HB := zQ (hb); clear qB; (try clear hb); (try clear hkp); (try clear AD)) | ((with_reducible refine zgc 44 ?_); refine zgo (some 88) Try.func44 #[.slice QA uA.length PA, .int .i64 QE] ?_; (with_reducible refine (laws_markInt64S.calls UB (fun k_ => some k_ = (.slice QA uA.length PA : Value).ownBlock) (.slice QA uA.length PA) uA QE BF KG w _ ?side1 (Kd.R_tight rfl mA.out) ZI.out).mono ?_); (case side1 => exact zB3 HB.out fA.out lA.out); rintro e pJ ⟨rfl, AD, hb, hkp⟩; refine ⟨_, rfl, ?_⟩; replace oA := zQ (Kd.R_mono (ok' := fun k_ => some k_ ≠ (.slice QA uA.length PA : Value).ownBlock ∧ some k_ ≠ (VA : Value).ownBlock ∧ some k_ ≠ (.slice fB XA.length dB : Value).ownBlock) (Kd.R_keptB (oA.out) hkp (fun k_ hk_ hs_ => (hk_.1) hs_)) (fun k_ hk_ => ⟨hk_.1.1, hk_.1.2.1, hk_.1.2.2⟩)); replace vA := zQ (Kd.S_mono (ok' := fun k_ => True) (Kd.S_keptB ((Kd.S_apart' vA.out (Kd.R_typed mA.out) (by decide))) hkp (fun k_ hk_ hs_ => (hk_.2) hs_)) (fun k_ hk_ => trivial)); replace eA := zQ (Kd.R_mono (ok' := fun k_ => some k_ ≠ (WA : Value).ownBlock ∧ some k_ ≠ (.slice QA uA.length PA : Value).ownBlock ∧ some k_ ≠ (.slice fB XA.length dB : Value).ownBlock) (Kd.R_keptB (eA.out) hkp (fun k_ hk_ hs_ => (hk_.2.1) hs_)) (fun k_ hk_ => ⟨hk_.1.1, hk_.1.2.1, hk_.1.2.2⟩)); replace bA := zQ (Kd.R_mono (ok' := fun k_ => some k_ ≠ (.slice EB mB.length zB : Value).ownBlock) (Kd.R_keptB ((Kd.R_apart' bA.out (Kd.R_typed mA.out) (by decide))) hkp (fun k_ hk_ hs_ => (hk_.2) hs_)) (fun k_ hk_ => hk_.1.1)); replace aA := zQ (Kd.R_mono (ok' := fun k_ => some k_ ≠ (.slice DB lB.length yB : Value).ownBlock) (Kd.R_keptB ((Kd.R_apart' aA.out (Kd.R_typed mA.out) (by decide))) hkp (fun k_ hk_ hs_ => (hk_.2) hs_)) (fun k_ hk_ => hk_.1.1)); replace cA := zQ (blk_kept (zb cA.out) hkp (fun hs_ => (fun e_ => (Kd.R_ne mA.out cA.out (by decide)) e_) hs_)); replace dA := zQ (blk_kept (zb dA.out) hkp (fun hs_ => (fun e_ => (Kd.R_ne mA.out dA.out (by decide)) e_) hs_)); replace NA := zQ (Kd.R_mono (ok' := fun k_ => some k_ ≠ (.slice xA qA.length wA : Value).ownBlock) (Kd.R_keptB ((Kd.R_apart' NA.out (Kd.R_typed mA.out) (by decide))) hkp (fun k_ hk_ hs_ => (hk_.2) hs_)) (fun k_ hk_ => hk_.1.1)); replace MA := zQ (Kd.R_mono (ok' := fun k_ => some k_ ≠ (.slice zA sA.length yA : Value).ownBlock) (Kd.R_keptB ((Kd.R_apart' MA.out (Kd.R_typed mA.out) (by decide))) hkp (fun k_ hk_ hs_ => (hk_.2) hs_)) (fun k_ hk_ => hk_.1.1)); replace mA := zQ (Kd.R_reok rfl AD (fun k_ e_ => mA.out.1 k_ e_)); replace pB := zQ (Kd.R_mono (ok' := fun k_ => some k_ ≠ (WA : Value).ownBlock ∧ some k_ ≠ (.slice QA uA.length PA : Value).ownBlock ∧ some k_ ≠ (VA : Value).ownBlock) (Kd.R_keptB (pB.out) hkp (fun k_ hk_ hs_ => (hk_.2.1) hs_)) (fun k_ hk_ => ⟨hk_.1.1, hk_.1.2.1, hk_.1.2.2⟩)); replace HB := zQ (hb); (try clear hb); (try clear hkp); (try clear AD)))
          (try simp only [Act.put, List.setIfInBounds_toArray, List.set_cons_zero, List.set_cons_succ])
          go_cut [101] (fun JG wc => ∃ (kq : Nat) (LB : Bool), JG = .bool LB ∧ Aside0 (laws_FnExactNeedlessStays.j1 kq l1 l2 lC kD nB LB l0_0 l0_1 = some r) ∧ Aside0 (kq ≤ UB) ∧ Aside0 (Kd.R (Kd.int .i64) 2 wc w.heap.size (fun k_ => some k_ ≠ (VA : Value).ownBlock) WA lC) ∧ Aside0 (Kd.R (Kd.int .i64) 2 wc w.heap.size (fun k_ => some k_ ≠ (WA : Value).ownBlock) VA nB) ∧ Aside0 (Kd.R k164 164 wc w.heap.size (fun _ => True) (.slice xA qA.length wA) sD) ∧ Aside0 (Kd.R k115 115 wc w.heap.size (fun _ => True) (.slice zA sA.length yA) rD) ∧ Aside0 (wc.heap[AA]? = some (.cells #[(.slice A0_0 l0_0.length c0_0), (.slice A0_1 l0_1.length c0_1)] 54 (0, 0))) ∧ Aside0 (wc.heap[kA]? = some (.cells #[(.slice xA qA.length wA), (.slice zA sA.length yA)] 27 (0, 0))) ∧ Aside0 (Below w.heap.size w wc))
          case first =>
           have H := jF.out; clear jF
           by_cases BE : BF < 0
           ·rw [if_pos BE] at H
            have aC := decide_eq_true BE; clear BE
            (first | rw [aC] | (simp only [i64_w, i32_w]; rw [aC]) | skip)
            exact (laws_FnExactNeedlessStays.j1_cut _ _ _ _ _ _ _ _ _ H HRT.out).elim
           ·rw [if_neg BE] at H
            have aC := decide_eq_false BE; clear BE
            (first | rw [aC] | (simp only [i64_w, i32_w]; rw [aC]) | skip)
            replace H := zob H; obtain ⟨PE, YI, H⟩ := H
            by_cases nF : PE = true
            ·subst nF
             rw [if_pos rfl] at H; have H' := zQ H; clear H; obtain ⟨UI, KI, PG⟩ := Kd.R_slice eA.out; subst PG; obtain ⟨TI, JI, OG⟩ := Kd.R_slice oA.out; subst OG
             go_wp2_with (first | (go_at_call 41; (with_reducible refine (laws_eqInt64S.calls UB _ _ nB _ _ lC true _ ?side1 ((Kd.R_reads' eA.out).2.1) ?side3 ((Kd.R_reads' oA.out).2.1) YI.out).mono ?_); (case side1 => exact zk (Kd.R_reads' eA.out).2.2); (case side3 => exact zk (Kd.R_reads' oA.out).2.2); rintro e w' ⟨rfl, ⟨nd, rfl⟩⟩))
             go_meet
             case rel => exact ⟨_, ((TD != kD)), (zF), H', ⟨by have := pG.out; first | omega | exact Nat.le_refl _⟩, ⟨by (with_reducible repeat (first | apply Kd.R_alloc | apply Kd.R_drewN | apply Kd.R_drew)); exact Kd.R_mono oA.out (fun _ hk => hk.2.1)⟩, ⟨by (with_reducible repeat (first | apply Kd.R_alloc | apply Kd.R_drewN | apply Kd.R_drew)); exact Kd.R_mono eA.out (fun _ hk => hk.1)⟩, ⟨by (with_reducible repeat (first | apply Kd.R_alloc | apply Kd.R_drewN | apply Kd.R_drew)); exact Kd.R_mono bA.out (fun _ hk => trivial)⟩, ⟨by (with_reducible repeat (first | apply Kd.R_alloc | apply Kd.R_drewN | apply Kd.R_drew)); exact Kd.R_mono aA.out (fun _ hk => trivial)⟩, ⟨zb cA.out⟩, ⟨zb dA.out⟩, ⟨zB3 HB.out fA.out lA.out⟩⟩
            ·replace nF := Bool.eq_false_iff.mpr nF
             subst nF
             rw [if_neg Bool.false_ne_true] at H
             exact (laws_FnExactNeedlessStays.j1_cut _ _ _ _ _ _ _ _ _ H HRT.out).elim
          case rest =>
           clear jF; (try clear c1); (try clear c2); (try clear p2); (try clear c3); (try clear c4); (try clear eE); (try clear dE); (try clear c5); (try clear c6); (try clear c7); (try clear mC); (try clear c8); (try clear QH); (try clear hE); (try clear hD); (try clear JH); (try clear IH); (try clear HH); (try clear RI); (try clear GH); (try clear QI); (try clear PI); (try clear FH); (try clear EH); (try clear OI); (try clear eF); (try clear sF); (try clear NI); (try clear MI); (try clear rF); (try clear qF); (try clear pF); (try clear LI); (try clear BE); (try clear aC); (try clear nF); (try clear wB vB uB tB); (try clear RC QC JC IC); (try clear PC OC HC GC); (try clear PB OB NB MB); (try clear NC MC FC EC); (try clear LC KC DC CC); (try clear gD fD eD dD); (try clear YB XB WB VB); (try clear p2); obtain ⟨kq, LB, rfl, HA, kH, oA, eA, bA, aA, cA, dA, HB⟩ := hcut; have jA := (Kd.R_reads' bA.out).1
           rw [jA] at bA
           (try simp only [jA])
           (try simp only [jA] at cA)
           (try simp only [jA] at dA)
           (try simp only [jA] at oA)
           (try simp only [jA] at eA)
           (try simp only [jA] at aA)
           have iA := (Kd.R_reads' aA.out).1; rw [iA] at aA
           (try simp only [iA])
           (try simp only [iA] at cA)
           (try simp only [iA] at dA)
           (try simp only [iA] at oA)
           (try simp only [iA] at eA)
           (try simp only [iA] at bA)
           cases kq with
           | zero => exact absurd HA.out (by simp [laws_FnExactNeedlessStays.j1])
           | succ SC =>
            have H := HA.out; clear HA
            simp only [laws_FnExactNeedlessStays.j1] at H
            by_cases ZF : LB = true
            ·subst ZF
             rw [if_pos rfl] at H; obtain rfl := Option.some.inj H
             exact absurd HRT.out (by decide)
            ·replace ZF := Bool.eq_false_iff.mpr ZF
             subst ZF
             rw [if_neg Bool.false_ne_true] at H; replace H := zob H; obtain ⟨⟨JB, yC⟩, XI, H⟩ := H; replace H := zob H; obtain ⟨kC, WI, H⟩ := H
             by_cases dF : kC < 0
             ·rw [if_pos dF] at H
              have AE := decide_eq_true dF; clear dF; obtain rfl := Option.some.inj H
              exact absurd HRT.out (by decide)
             ·rw [if_neg dF] at H
              have AE := decide_eq_false dF; clear dF
              by_cases yE : kC = JB
              ·rw [if_pos yE] at H
               have xE : (kC == JB) = true := beq_iff_eq.mpr yE; have wE : (kC != JB) = false := bne_eq_false_iff_eq.mpr yE; clear yE; replace H := zob H; obtain ⟨⟨OE, NE⟩, VI, H⟩ := H; replace H := zob H; obtain ⟨qD, vH, H⟩ := H; replace H := zob H; obtain ⟨pD, uH, H⟩ := H; replace H := zob H; obtain ⟨⟨ME, AF⟩, tH, H⟩ := H; have QD := zQ H; clear H; obtain ⟨fC, ZB, QF⟩ := Kd.R_slice eA.out; subst QF
               go_upto_region 38 with (first | ((with_reducible refine zgc 44 ?_); refine zgo (some 104) Try.func44 #[.slice fC nB.length ZB, .int .i64 1] ?_; (with_reducible refine (laws_markInt64S.calls SC (fun k_ => some k_ = (.slice fC nB.length ZB : Value).ownBlock) (.slice fC nB.length ZB) nB 1 JB yC w _ ?side1 (Kd.R_tight rfl eA.out) XI.out).mono ?_); (case side1 => exact zB3 HB.out fA.out lA.out); rintro e jI ⟨rfl, AD, hb, hkp⟩; refine ⟨_, rfl, ?_⟩; replace oA := zQ (Kd.R_mono (ok' := fun k_ => some k_ ≠ (.slice fC nB.length ZB : Value).ownBlock) (Kd.R_keptB (oA.out) hkp (fun k_ hk_ hs_ => (hk_) hs_)) (fun k_ hk_ => hk_.1)); replace bA := zQ (Kd.R_mono (ok' := fun k_ => True) (Kd.R_keptB ((Kd.R_apart' bA.out (Kd.R_typed eA.out) (by decide))) hkp (fun k_ hk_ hs_ => (hk_.2) hs_)) (fun k_ hk_ => trivial)); replace aA := zQ (Kd.R_mono (ok' := fun k_ => True) (Kd.R_keptB ((Kd.R_apart' aA.out (Kd.R_typed eA.out) (by decide))) hkp (fun k_ hk_ hs_ => (hk_.2) hs_)) (fun k_ hk_ => trivial)); replace cA := zQ (blk_kept (zb cA.out) hkp (fun hs_ => (fun e_ => (Kd.R_ne eA.out cA.out (by decide)) e_) hs_)); replace dA := zQ (blk_kept (zb dA.out) hkp (fun hs_ => (fun e_ => (Kd.R_ne eA.out dA.out (by decide)) e_) hs_)); replace eA := zQ (Kd.R_reok rfl AD (fun k_ e_ => eA.out.1 k_ e_)); replace HB := zQ (hb); (try clear hb); (try clear hkp); (try clear AD)) | ((with_reducible refine zgc 45 ?_); refine goesL_ (some 107) rfl rfl Try.func45 (by kernel_rfl) rfl #[.slice fC yC.length ZB, .int .i64 1] rfl (by (try simp only [List.map_toArray, List.map_cons, List.map_nil]); first | done | (rw [show yC.length = nB.length from (Kd.R_reads' eA.out).1.symm] <;> rfl) | rfl | (simp only [List.length_drop, List.length_take]; rfl)) ?_; (with_reducible refine (laws_heldInt64S.calls SC _ _ yC 1 kC _ ?side1 ?side2 WI.out).mono ?_); (case side1 => exact zk (Kd.R_reads' eA.out).2.2); (case side2 => rw [show yC.length = nB.length from (Kd.R_reads' eA.out).1.symm]; exact (Kd.R_reads' eA.out).2.1); rintro e w' ⟨rfl, ⟨nd, rfl⟩⟩; refine ⟨_, rfl, ?_⟩; have NG := eB.out; have MG := FB.out; obtain ⟨GD, FD, ED, DD⟩ := zy2 cA.out) | ((with_reducible refine zgc 36 ?_); refine zgo (some 115) Try.func36 #[.agg #[.slice A0_0 l0_0.length c0_0, .slice A0_1 l0_1.length c0_1]] ?_; (with_reducible refine (laws_toFrame.calls SC _ _ l0_0 _ _ l0_1 OE NE _ ?side1 EA.out ?side3 DA.out VI.out).mono ?_); (case side1 => repeat (first | exact (Kd.C_below CA.out (zB3 HB.out fA.out lA.out)) | (with_reducible refine Kd.C_alloc ?_ _) | (with_reducible refine Kd.C_drewN ?_ _) | (with_reducible refine Kd.C_drew ?_))); (case side3 => repeat (first | exact (Kd.C_below BA.out (zB3 HB.out fA.out lA.out)) | (with_reducible refine Kd.C_alloc ?_ _) | (with_reducible refine Kd.C_drewN ?_ _) | (with_reducible refine Kd.C_drew ?_))); rintro e iI ⟨pI, oI, rfl, tA, cD, hb⟩; refine ⟨_, rfl, ?_⟩; have BB := zQ (Kd.R_lower (Kd.R_new' tA (Kd.R_lt (zR bA.out))) (below_size (zB3 HB.out fA.out lA.out))); have AB := zQ (Kd.R_lower (Kd.R_new' cD (Kd.R_lt (zR aA.out))) (below_size (zB3 HB.out fA.out lA.out))); replace oA := zRb oA.out hb; replace eA := zRb eA.out hb; replace bA := zQ (Kd.R_elder' (zR bA.out) (Kd.R_base tA) hb); replace aA := zQ (Kd.R_elder' (zR aA.out) (Kd.R_base cD) hb); replace cA := zbl cA.out hb; replace dA := zbl dA.out hb; replace HB := zQ (below_step (zB3 HB.out fA.out lA.out) hb); (try clear hb); (try clear tA); (try clear cD)) | ((with_reducible refine zgc 48 ?_); refine zgo (some 117) Try.func48 #[.slice A1 l1.length c1] ?_; (with_reducible refine (laws_toPullSS.calls SC _ _ l1 qD _ (zC gC.out HB.out) iC.out vH.out).mono ?_); rintro e hI ⟨nI, rfl, tA, hb⟩; refine ⟨_, rfl, ?_⟩; have bC := zQ (Kd.S_lower tA (below_size (zB3 HB.out fA.out lA.out))); replace oA := zRb oA.out hb; replace eA := zRb eA.out hb; replace bA := zRb bA.out hb; replace aA := zRb aA.out hb; replace BB := zRb BB.out hb; replace AB := zRb AB.out hb; replace cA := zbl cA.out hb; replace dA := zbl dA.out hb; replace HB := zQ (below_step (zB3 HB.out fA.out lA.out) hb); (try clear hb); (try clear tA)) | ((with_reducible refine zgc 38 ?_); refine zgo (some 119) Try.func38 #[.slice A2 l2.length c2] ?_; (with_reducible refine (laws_toInt64S.calls SC _ _ l2 pD _ (zC KB.out HB.out) hC.out uH.out).mono ?_); rintro e gI ⟨mI, rfl, tA, hb⟩; refine ⟨_, rfl, ?_⟩; have sC := zQ (Kd.R_lower (Kd.R_new' (Kd.R_new' tA (Kd.R_lt (zR oA.out))) (Kd.R_lt (zR eA.out))) (below_size (zB3 HB.out fA.out lA.out))); replace oA := zQ (Kd.R_elder' (zR oA.out) (Kd.R_base tA) hb); replace eA := zQ (Kd.R_elder' (zR eA.out) (Kd.R_base tA) hb); replace bA := zRb bA.out hb; replace aA := zRb aA.out hb; replace BB := zRb BB.out hb; replace AB := zRb AB.out hb; replace bC := zQ (Kd.S_below (zS bC.out) hb); replace cA := zbl cA.out hb; replace dA := zbl dA.out hb; replace HB := zQ (below_step (zB3 HB.out fA.out lA.out) hb); (try clear hb); (try clear tA); obtain ⟨zG, YF, PF⟩ := Kd.R_slice BB.out; subst PF; obtain ⟨yG, XF, NF⟩ := Kd.R_slice AB.out; subst NF; obtain ⟨xG, WF, MF⟩ := Kd.S_slice bC.out; subst MF; obtain ⟨wG, VF, LF⟩ := Kd.R_slice sC.out; subst LF) | ((with_reducible refine zgc 57 ?_); refine zgo (some 120) Try.func57 #[.agg #[.slice zG OE.length YF, .slice yG NE.length XF], .slice xG qD.length WF, .slice wG pD.length VF] ?_; (with_reducible refine (impl_NeedlessStays.calls SC _ _ OE _ _ NE _ _ qD _ _ pD ME AF _ ?side1 ((Kd.R_reads' BB.out).2.1) ?side3 ((Kd.R_reads' AB.out).2.1) ?side5 ((Kd.S_reads' bC.out).2.1) ?side7 ((Kd.R_reads' sC.out).2.1) tH.out).mono ?_); (case side1 => exact zk (Kd.R_reads' BB.out).2.2); (case side3 => exact zk (Kd.R_reads' AB.out).2.2); (case side5 => repeat (first | exact (Kd.S_reads' bC.out).2.2 | (with_reducible refine Kd.C_alloc ?_ _) | (with_reducible refine Kd.C_drewN ?_ _) | (with_reducible refine Kd.C_drew ?_))); (case side7 => exact zk (Kd.R_reads' sC.out).2.2); rintro e fI ⟨lI, rfl, tA, hb⟩; refine ⟨_, rfl, ?_⟩; have OD := zQ (Kd.R_lower (Kd.R_new' (Kd.R_new' (Kd.R_new' tA (Kd.R_lt (zR oA.out))) (Kd.R_lt (zR eA.out))) (Kd.R_lt (zR sC.out))) (below_size (zB3 HB.out fA.out lA.out))); replace oA := zQ (Kd.R_elder' (zR oA.out) (Kd.R_base tA) hb); replace eA := zQ (Kd.R_elder' (zR eA.out) (Kd.R_base tA) hb); replace bA := zRb bA.out hb; replace aA := zRb aA.out hb; replace BB := zRb BB.out hb; replace AB := zRb AB.out hb; replace bC := zQ (Kd.S_below (zS bC.out) hb); replace sC := zQ (Kd.R_elder' (zR sC.out) (Kd.R_base tA) hb); replace cA := zbl cA.out hb; replace dA := zbl dA.out hb; replace HB := zQ (below_step (zB3 HB.out fA.out lA.out) hb); (try clear hb); (try clear tA)))
               (try simp only [Act.put, List.setIfInBounds_toArray, List.set_cons_zero, List.set_cons_succ])
               go_cut [131] (fun IG wc => ∃ (kq : Nat) (rB : Bool), IG = .bool rB ∧ Aside0 (laws_FnExactNeedlessStays.j2 kq yC JB rB = some r) ∧ Aside0 (kq ≤ SC) ∧ Aside0 (Kd.R (Kd.int .i64) 2 wc w.heap.size (fun _ => True) (.slice fC nB.length ZB) yC) ∧ Aside0 (Kd.R k164 164 wc w.heap.size (fun _ => True) (.slice xA sD.length wA) sD) ∧ Aside0 (Kd.R k115 115 wc w.heap.size (fun _ => True) (.slice zA rD.length yA) rD) ∧ Aside0 (wc.heap[AA]? = some (.cells #[(.slice A0_0 l0_0.length c0_0), (.slice A0_1 l0_1.length c0_1)] 54 (0, 0))) ∧ Aside0 (wc.heap[kA]? = some (.cells #[(.slice xA sD.length wA), (.slice zA rD.length yA)] 27 (0, 0))) ∧ Aside0 (Below w.heap.size w wc))
               case first =>
                have H := QD.out; clear QD; replace H := zob H; obtain ⟨LE, sH, H⟩ := H
                by_cases KD : LE = true
                ·subst KD
                 rw [if_pos rfl] at H; have H' := zQ H; clear H; obtain ⟨vG, UF, KF⟩ := Kd.R_slice OD.out; subst KF; obtain ⟨uG, TF, JF⟩ := Kd.R_slice oA.out; subst JF
                 go_wp2_with (first | ((with_reducible refine zgc 41 ?_); refine zgo (some 125) Try.func41 #[.slice vG ME.length UF, .slice uG lC.length TF] ?_; (with_reducible refine (laws_eqInt64S.calls SC _ _ ME _ _ lC true _ ?side1 ((Kd.R_reads' OD.out).2.1) ?side3 ((Kd.R_reads' oA.out).2.1) sH.out).mono ?_); (case side1 => exact zk (Kd.R_reads' OD.out).2.2); (case side3 => exact zk (Kd.R_reads' oA.out).2.2); rintro e w' ⟨rfl, ⟨nd, rfl⟩⟩; refine ⟨_, rfl, ?_⟩))
                 go_meet
                 case rel => exact ⟨_, ((AF != kD)), (zF), H', ⟨by have := pG.out; have := kH.out; first | omega | exact Nat.le_refl _⟩, ⟨by (try simp only [jA]); (try simp only [iA]); (with_reducible repeat (first | apply Kd.R_alloc | apply Kd.R_drewN | apply Kd.R_drew)); exact Kd.R_mono eA.out (fun _ hk => trivial)⟩, ⟨by (try simp only [jA]); (try simp only [iA]); (with_reducible repeat (first | apply Kd.R_alloc | apply Kd.R_drewN | apply Kd.R_drew)); exact Kd.R_mono bA.out (fun _ hk => trivial)⟩, ⟨by (try simp only [jA]); (try simp only [iA]); (with_reducible repeat (first | apply Kd.R_alloc | apply Kd.R_drewN | apply Kd.R_drew)); exact Kd.R_mono aA.out (fun _ hk => trivial)⟩, ⟨by (try simp only [jA]); (try simp only [iA]); refine zb ?_; exact cA.out⟩, ⟨by (try simp only [jA]); (try simp only [iA]); refine zb ?_; exact dA.out⟩, ⟨zB3 HB.out fA.out lA.out⟩⟩
                ·replace KD := Bool.eq_false_iff.mpr KD
                 subst KD
                 rw [if_neg Bool.false_ne_true] at H
                 exact (laws_FnExactNeedlessStays.j2_cut _ _ _ _ H HRT.out).elim
               case rest =>
                clear QD; (try clear c1); (try clear c2); (try clear p2); (try clear c3); (try clear c4); (try clear eE); (try clear dE); (try clear c5); (try clear c6); (try clear c7); (try clear mC); (try clear c8); (try clear c9); (try clear RH); (try clear QH); (try clear hE); (try clear hD); (try clear JH); (try clear IH); (try clear HH); (try clear RI); (try clear GH); (try clear QI); (try clear PI); (try clear KJ); (try clear FH); (try clear EH); (try clear OI); (try clear eF); (try clear sF); (try clear NI); (try clear MI); (try clear rF); (try clear qF); (try clear pF); (try clear LI); (try clear BE); (try clear aC); (try clear nF); (try clear ZF); (try clear dF); (try clear AE); (try clear yE); (try clear xE); (try clear wE); (try clear SI); (try clear KD); (try clear GD FD ED DD); (try clear wB vB uB tB); (try clear RC QC JC IC); (try clear PC OC HC GC); (try clear PB OB NB MB); (try clear NC MC FC EC); (try clear LC KC DC); (try clear gD fD); (try clear YB XB)
                (try clear CC); (try clear eD dD); (try clear WB VB); (try clear p2); obtain ⟨kq, rB, rfl, HA, TH, eA, bA, aA, cA, dA, HB⟩ := hcut; have cB := (Kd.R_reads' eA.out).1; rw [cB] at eA
                (try simp only [cB])
                (try simp only [cB] at cA)
                (try simp only [cB] at dA)
                (try simp only [cB] at bA)
                (try simp only [cB] at aA)
                cases kq with
                | zero => exact absurd HA.out (by simp [laws_FnExactNeedlessStays.j2])
                | succ CF =>
                 have H := HA.out; clear HA
                 simp only [laws_FnExactNeedlessStays.j2] at H
                 by_cases gE : rB = true
                 ·subst gE
                  rw [if_pos rfl] at H; obtain rfl := Option.some.inj H
                  exact absurd HRT.out (by decide)
                 ·replace gE := Bool.eq_false_iff.mpr gE
                  subst gE
                  rw [if_neg Bool.false_ne_true] at H; replace H := zob H; obtain ⟨jC, rH, H⟩ := H
                  by_cases nD : jC < 0
                  ·rw [if_pos nD] at H
                   have hF := decide_eq_true nD; clear nD; obtain rfl := Option.some.inj H
                   exact absurd HRT.out (by decide)
                  ·rw [if_neg nD] at H
                   have hF := decide_eq_false nD; clear nD
                   by_cases YC : jC = JB
                   ·rw [if_pos YC] at H
                    have gF : (jC == JB) = true := beq_iff_eq.mpr YC; have fF : (jC != JB) = false := bne_eq_false_iff_eq.mpr YC; clear YC; obtain rfl := Option.some.inj H
                    go_wp2_with (first | ((with_reducible refine zgc 45 ?_); refine zgo (some 134) Try.func45 #[.slice fC yC.length ZB, .int .i64 1] ?_; (with_reducible refine (laws_heldInt64S.calls CF _ _ yC 1 jC _ ?side1 ((Kd.R_reads' eA.out).2.1) rH.out).mono ?_); (case side1 => exact zk (Kd.R_reads' eA.out).2.2); rintro e w' ⟨rfl, ⟨nd, rfl⟩⟩; refine ⟨_, rfl, ?_⟩))
                    go_ret
                    exact ⟨zE, zB3 HB.out fA.out lA.out⟩
                   ·rw [if_neg YC] at H
                    have gF : (jC == JB) = false := beq_eq_false_iff_ne.mpr YC; have fF : (jC != JB) = true := bne_iff_ne.mpr YC; obtain rfl := Option.some.inj H
                    exact absurd HRT.out (by decide)
              ·rw [if_neg yE] at H
               have xE : (kC == JB) = false := beq_eq_false_iff_ne.mpr yE; have wE : (kC != JB) = true := bne_iff_ne.mpr yE; obtain rfl := Option.some.inj H
               exact absurd HRT.out (by decide)
         ·replace pF := Bool.eq_false_iff.mpr pF
          subst pF
          rw [if_neg Bool.false_ne_true] at H; obtain rfl := Option.some.inj H
          exact absurd HRT.out (by decide)
        ·replace qF := Bool.eq_false_iff.mpr qF
         subst qF
         rw [if_neg Bool.false_ne_true] at H; obtain rfl := Option.some.inj H
         exact absurd HRT.out (by decide)
       ·replace rF := Bool.eq_false_iff.mpr rF
        subst rF
        rw [if_neg Bool.false_ne_true] at H; obtain rfl := Option.some.inj H
        exact absurd HRT.out (by decide)

end
end Go.Proofs.Ytimjblgepbhoaaa.PStays

