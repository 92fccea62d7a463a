import Derived.Test.YtimjblgepbhoaaaHStays0
import Derived.Test.YtimjblgepbhoaaaHStaysa
import Derived.Test.YtimjblgepbhoaaaHStaysb
import Derived.Test.YtimjblgepbhoaaaHStayse
import Derived.Test.YtimjblgepbhoaaaHStayss
import Derived.Test.YtimjblgepbhoaaaHStaysu
import Derived.Test.YtimjblgepbhoaaaHStaysus
import Derived.Test.YtimjblgepbhoaaaHStaysw
import Derived.Test.YtimjblgepbhoaaaHStaysz
import Derived.Test.YtimjblgepbhoaaaHStayszt
namespace Go.Proofs.Ytimjblgepbhoaaa.PStays
noncomputable section
open Go.RowKit Go.Proofs.YtimjblgepbhoaaaW.PrintWords Go.Proofs.YtimjblgepbhoaaaW.PrintLast Go.Proofs.YtimjblgepbhoaaaW.PrintMore
attribute [local go_sem] max2_int min2_int max_two min_two max_three min_three max_four min_four   -- for this text's walks alone
set_option linter.unusedVariables false
set_option linter.unusedSimpArgs false
set_option maxHeartbeats 8000000
set_option maxRecDepth 100000

def spec_NeededStays.l0 : Nat → List Bool → Int → List Int → Int → List (S164) → List (S115) → Option (List Int × Int)
 | 0, _, _, _, _, _, _ => none
 | k + 1, x7, x8, x9, x10, cD, lC => if x10 < (lC.length : Int) then (if 0 ≤ (IntKind.u64.wrap (x10)) then (if 0 ≤ (wrap64 (x8 - (shl .i64 1 (IntKind.u64.wrap (x10))))) then (if (wrap64 (x8 - (shl .i64 1 (IntKind.u64.wrap (x10))))) < (x7.length : Int) then (if (rdOf false x7 (wrap64 (x8 - (shl .i64 1 (IntKind.u64.wrap (x10))))) = true) then (spec_NeededStays.l0 k x7 x8 x9 (wrap64 (x10 + 1)) cD lC) else (if x9.length < 17592186044416 then (spec_NeededStays.l0 k x7 x8 (x9 ++ [x10]) (wrap64 (x10 + 1)) cD lC) else (none))) else (none)) else (none)) else (none)) else (some (x9, 0))
def spec_NeededStays.f (k : Nat) (l0_0 : List (S164)) (l0_1 : List (S115)) (l1 : List (List (S113))) : Option (List Int × Int) := (spec_l11Winds.f k l0_0 l0_1 l1 (([] : List Int))).bind fun lB => (if lB = 0 then ((spec_l11Table.f k l0_0 l0_1 l1).bind fun kA => (if 0 ≤ (wrap64 ((kA.length : Int) - 1)) then (if (wrap64 ((kA.length : Int) - 1)) < (kA.length : Int) then (if (rdOf false kA (wrap64 ((kA.length : Int) - 1)) = true) then (spec_NeededStays.l0 k kA (wrap64 ((kA.length : Int) - 1)) (([] : List Int)) 0 l0_0 l0_1) else (some (([] : List Int), 10))) else (none)) else (none))) else (some (([] : List Int), lB)))
theorem spec_NeededStays.calls (k : Nat) (A0_0 : Option Addr) (c0_0 : Nat) (l0_0 : List (S164)) (A0_1 : Option Addr) (c0_1 : Nat) (l0_1 : List (S115)) (A1 : Option Addr) (c1 : Nat) (l1 : List (List (S113))) (r1 : List Int) (r2 : Int) (w : World) (hr0_0 : Kd.C k164 w A0_0 l0_0.length l0_0) (hc0_0 : l0_0.length ≤ c0_0) (hr0_1 : Kd.C k115 w A0_1 l0_1.length l0_1) (hc0_1 : l0_1.length ≤ c0_1) (hr1 : Kd.C (Kd.slice 113 k113) w A1 l1.length l1) (hc1 : l1.length ≤ c1) (h : spec_NeededStays.f k l0_0 l0_1 l1 = some (r1, r2)) :
  Calls Try.prog 61 #[.agg #[.slice A0_0 l0_0.length c0_0, .slice A0_1 l0_1.length c0_1], .slice A1 l1.length c1] w fun e w' => ∃ v0_ : Value, e = .returned (.tuple #[v0_, .int .i64 r2]) ∧ Kd.R (Kd.int .i64) 2 w' w.heap.size (fun _ => True) v0_ r1 ∧ Below w.heap.size w w' := by
 have DF := Try.underlying27
 have yA := zQ hr0_0
 have AA := zQ hc0_0
 clear hr0_0 hc0_0
 have xA := zQ hr0_1
 have zA := zQ hc0_1
 clear hr0_1 hc0_1
 have eC := zQ hr1
 have gC := zQ hc1
 clear hr1 hc1
 have HB := zQ (Below.refl w.heap.size w)
 have H := h; unfold spec_NeededStays.f at H
 clear h
 obtain ⟨LC, nE⟩ : ∃ y_ : List Int, y_ = (([] : List Int)) := ⟨_, rfl⟩
 replace H : ((spec_l11Winds.f k l0_0 l0_1 l1 LC).bind fun lB => (if lB = 0 then ((spec_l11Table.f k l0_0 l0_1 l1).bind fun kA => (if 0 ≤ (wrap64 ((kA.length : Int) - 1)) then (if (wrap64 ((kA.length : Int) - 1)) < (kA.length : Int) then (if (rdOf false kA (wrap64 ((kA.length : Int) - 1)) = true) then (spec_NeededStays.l0 k kA (wrap64 ((kA.length : Int) - 1)) (([] : List Int)) 0 l0_0 l0_1) else (some (([] : List Int), 10))) else (none)) else (none))) else (some (([] : List Int), lB)))) = some (r1, r2) := zh H
 have dC := zQ nE
 clear nE
 replace H := zob H; obtain ⟨lB, A3, H⟩ := H
 by_cases c4 : lB = 0
 ·rw [if_pos c4] at H
  have YB : (lB == 0) = true := beq_iff_eq.mpr c4; have ED : (lB != 0) = false := bne_eq_false_iff_eq.mpr c4; clear c4; replace H := zob H; obtain ⟨kA, A5, H⟩ := H; obtain ⟨bB, SC⟩ : ∃ j_ : Int, (wrap64 ((kA.length : Int) - 1)) = j_ := ⟨_, rfl⟩
  replace H : (if 0 ≤ (bB) then (if (bB) < (kA.length : Int) then (if (rdOf false kA (bB) = true) then (spec_NeededStays.l0 k kA bB (([] : List Int)) 0 l0_0 l0_1) else (some (([] : List Int), 10))) else (none)) else (none)) = some (r1, r2) := by first | (rw [SC] at H; exact H) | (simp only [SC] at H ⊢; exact H)
  (try rw [SC] at A3)
  (try rw [SC] at A5)
  have hji6w : (IntKind.i64.wrap ((kA.length : Int) - 1)) = bB := (i64_w _).trans SC
  by_cases c7 : 0 ≤ (bB)
  ·rw [if_pos c7] at H
   have eE := decide_eq_true c7; clear c7
   by_cases c8 : (bB) < (kA.length : Int)
   ·rw [if_pos c8] at H
    have jH := decide_eq_true c8; clear c8; obtain ⟨bq9, SE⟩ : ∃ b_ : Bool, b_ = (rdOf false kA (bB)) := ⟨_, rfl⟩
    replace H : (if (bq9 = true) then (spec_NeededStays.l0 k kA bB (([] : List Int)) 0 l0_0 l0_1) else (some (([] : List Int), 10))) = some (r1, r2) := by rw [← SE] at H; exact H
    have Nbq9 := zQ SE; clear SE
    by_cases tF : (bq9 = true)
    ·subst tF
     rw [if_pos rfl] at H; obtain ⟨xF, mE⟩ : ∃ y_ : List Int, y_ = (([] : List Int)) := ⟨_, rfl⟩; replace H : (spec_NeededStays.l0 k kA bB xF 0 l0_0 l0_1) = some (r1, r2) := zh H; have CE := zQ mE; clear mE; have H' := zQ H; clear H
     go_enter Try.func61, Try.ntmps61
     go_wp2_with (first | ((with_reducible refine zd 2 ?_); refine zbx (N := 2) (cs := #[.slice A0_0 l0_0.length c0_0, .slice A0_1 l0_1.length c0_1]) (t := 27) ?_; intro TA hg zJ JA hb; have jA := zQ (JA); have KC := zgz hg HB.out; have sA := KC; replace HB := zbs HB.out hb; clear hb JA hg) | ((with_reducible refine zd 12 ?_); refine Kd.R_lit (Kd.int .i64) _ 2 ?hg (N := 12) ?hd (xs := ([] : List Int)) (inner := []) (ok := fun _ => True) (okp := fun _ => True) ?hr ?hp (fun _ hk => hk) trivial (Below.refl _ _) (Nat.le_refl _) (by simp) ?_; (case hd => rfl); (case hg => rfl); (case hr => first | (go_simp; done) | (go_simp; rfl)); (case hp => exact (Reps.none _ _)); intro AF vH BD hb hg_ hnew_; clear hg_ hnew_; (first | rw [← dC.out] at BD | (simp only [Int.reduceToNat] at BD; rw [← dC.out] at BD)); have uA := zQ (Kd.R_lower BD (below_size (zB2 HB.out sA.out))); replace jA := zbl jA.out hb; replace HB := zbs2 HB.out sA.out hb; clear hb BD; obtain ⟨lF, ZE, UE⟩ := Kd.R_slice uA.out; subst UE) | ((with_reducible refine zgc 105 ?_); refine zgo (some 13) Try.func105 #[.pointer (some ⟨TA, 0, none⟩), .slice A1 l1.length c1, .slice lF LC.length ZE] ?_; (with_reducible refine (spec_l11Winds.calls k TA A0_0 c0_0 l0_0 A0_1 c0_1 l0_1 _ _ l1 _ _ LC lB _ (zb jA.out) (zC yA.out HB.out) AA.out (zC xA.out HB.out) zA.out (zC eC.out HB.out) gC.out ?side8 ((Kd.R_reads' uA.out).2.1) A3.out).mono ?_); (case side8 => exact zk (Kd.R_reads' uA.out).2.2); rintro e aI ⟨rfl, hb⟩; refine ⟨_, rfl, ?_⟩; replace uA := zRb uA.out hb; replace jA := zbl jA.out hb; replace HB := zbs2 HB.out sA.out hb; (try clear hb)) | ((with_reducible refine zgc 110 ?_); refine zgo (some 18) Try.func110 #[.pointer (some ⟨TA, 0, none⟩), .slice A1 l1.length c1] ?_; (with_reducible refine (spec_l11Table.calls k TA A0_0 c0_0 l0_0 A0_1 c0_1 l0_1 _ _ l1 kA _ (zb jA.out) (zC yA.out HB.out) AA.out (zC xA.out HB.out) zA.out (zC eC.out HB.out) gC.out A5.out).mono ?_); rintro e ZH ⟨DG, rfl, GA, hb⟩; refine ⟨_, rfl, ?_⟩; have BB := zQ (Kd.R_lower GA (below_size (zB2 HB.out sA.out))); replace uA := zRb uA.out hb; replace jA := zbl jA.out hb; replace HB := zbs2 HB.out sA.out hb; (try clear hb); (try clear GA); obtain ⟨JI, iH, YG⟩ := Kd.R_slice BB.out; subst YG; have FC : 0 ≤ ((bB) : Int) := zD; have EC : (bB) < (kA.length : Int) := zD; obtain ⟨jD, XE, GB⟩ := Kd.at_bool (Kd.R_reads' BB.out).2.2 (bB) FC EC; (try rw [← Nbq9.out] at GB); cases XE; replace FC := eq_true FC; replace EC := eq_true EC) | ((with_reducible refine zd 27 ?_); refine Kd.R_lit (Kd.int .i64) _ 2 ?hg (N := 27) ?hd (xs := ([] : List Int)) (inner := []) (ok := fun _ => True) (okp := fun _ => True) ?hr ?hp (fun _ hk => hk) trivial (Below.refl _ _) (Nat.le_refl _) (by simp) ?_; (case hd => rfl); (case hg => rfl); (case hr => first | (go_simp; done) | (go_simp; rfl)); (case hp => exact (Reps.none _ _)); intro uI YH nD hb hg_ hnew_; clear hg_ hnew_; (first | rw [← CE.out] at nD | (simp only [Int.reduceToNat] at nD; rw [← CE.out] at nD)); have bG := zQ (Kd.R_lower (Kd.R_new' nD (Kd.R_lt (zR uA.out))) (below_size (zB2 HB.out sA.out))); replace uA := zQ (Kd.R_elder' (zR uA.out) (Kd.R_base nD) hb); replace BB := zRb BB.out hb; replace jA := zbl jA.out hb; replace HB := zbs2 HB.out sA.out hb; clear hb nD))
     go_loopg [9, 10] k (fun kq v9 wI w' => ∃ (XA : List Int) (wA : Int), wI = .int .i64 wA ∧ Aside0 (spec_NeededStays.l0 kq kA bB XA wA l0_0 l0_1 = some (r1, r2)) ∧ Aside0 (kq ≤ k) ∧ Aside0 (Kd.R Kd.bool 4 w' w.heap.size (fun _ => True) (.slice (some jD) kA.length iH) kA) ∧ Aside0 (Kd.R (Kd.int .i64) 2 w' w.heap.size (fun _ => True) v9 XA) ∧ Aside0 (w'.heap[TA]? = some (.cells #[(.slice A0_0 l0_0.length c0_0), (.slice A0_1 l0_1.length c0_1)] 27 (0, 0))) ∧ Aside0 (Below w.heap.size w w'))
     case atStart => exact ⟨(xF), (0), (zF), H', ⟨Nat.le_refl _⟩, ⟨zR BB.out⟩, ⟨by (with_reducible repeat (first | apply Kd.R_alloc | apply Kd.R_drewN | apply Kd.R_drew)); exact Kd.R_mono bG.out (fun _ hk => trivial)⟩, ⟨zb jA.out⟩, ⟨zB2 HB.out sA.out⟩⟩
     case round =>
      clear H'; (try clear c1); (try clear p2); (try clear q2); (try clear AJ); (try clear c4); (try clear YB); (try clear ED); (try clear c6); (try clear p6); (try clear c7); (try clear eE); (try clear c8); (try clear jH); (try clear q9); (try clear tF); (try clear EJ); (try clear GB); (try clear FC); (try clear EC); obtain ⟨XA, wA, rfl, HA, hE, qA, KA, jA, HB⟩ := hrel
      cases gk with
      | zero => exact absurd HA.out (by simp [spec_NeededStays.l0])
      | succ k1 =>
       have H := HA.out; clear HA
       simp only [spec_NeededStays.l0] at H
       by_cases sF : wA < (l0_1.length : Int)
       ·rw [if_pos sF] at H
        have RF := decide_eq_true sF; clear sF; obtain ⟨kB, pE⟩ : ∃ j_ : Int, (IntKind.u64.wrap (wA)) = j_ := ⟨_, rfl⟩
        replace H : (if 0 ≤ (kB) then (if 0 ≤ (wrap64 (bB - (shl .i64 1 (kB)))) then (if (wrap64 (bB - (shl .i64 1 (kB)))) < (kA.length : Int) then (if (rdOf false kA (wrap64 (bB - (shl .i64 1 (kB)))) = true) then (spec_NeededStays.l0 k1 kA bB XA (wrap64 (wA + 1)) l0_0 l0_1) else (if XA.length < 17592186044416 then (spec_NeededStays.l0 k1 kA bB (XA ++ [wA]) (wrap64 (wA + 1)) l0_0 l0_1) else (none))) else (none)) else (none)) else (none)) = some (r1, r2) := by first | (rw [pE] at H; exact H) | (simp only [pE] at H ⊢; exact H)
        by_cases QF : 0 ≤ (kB)
        ·rw [if_pos QF] at H
         have LH := eq_true QF; have KH := decide_eq_true QF; clear QF; obtain ⟨LB, eD⟩ : ∃ j_ : Int, (shl .i64 1 (kB)) = j_ := ⟨_, rfl⟩
         replace H : (if 0 ≤ (wrap64 (bB - (LB))) then (if (wrap64 (bB - (LB))) < (kA.length : Int) then (if (rdOf false kA (wrap64 (bB - (LB))) = true) then (spec_NeededStays.l0 k1 kA bB XA (wrap64 (wA + 1)) l0_0 l0_1) else (if XA.length < 17592186044416 then (spec_NeededStays.l0 k1 kA bB (XA ++ [wA]) (wrap64 (wA + 1)) l0_0 l0_1) else (none))) else (none)) else (none)) = some (r1, r2) := by first | (rw [eD] at H; exact H) | (simp only [eD] at H ⊢; exact H)
         have hji23_ : (IntKind.i64.wrap (1 * 2 ^ min (kB).toNat 64)) = LB := eD; have hji23z : (kB) ≤ 64 → (IntKind.i64.wrap (1 * 2 ^ (kB).toNat)) = LB := shl_small eD
         have hji23u : (IntKind.i64.wrap (2 ^ min (kB).toNat 64)) = LB := by have h_ := hji23_; rw [Int.one_mul] at h_; exact h_
         have hji23v : (kB) ≤ 64 → (IntKind.i64.wrap (2 ^ (kB).toNat)) = LB := fun hle_ => by have h_ := hji23z hle_; rw [Int.one_mul] at h_; exact h_
         have hji23y : (wrap64 (1 * 2 ^ min (kB).toNat 64)) = LB := (i64_w _).symm.trans hji23_
         have hji23x : (kB) ≤ 64 → (wrap64 (1 * 2 ^ (kB).toNat)) = LB := fun h_ => (i64_w _).symm.trans (hji23z h_)
         obtain ⟨xB, CD⟩ : ∃ j_ : Int, (wrap64 (bB - (LB))) = j_ := ⟨_, rfl⟩
         replace H : (if 0 ≤ (xB) then (if (xB) < (kA.length : Int) then (if (rdOf false kA (xB) = true) then (spec_NeededStays.l0 k1 kA bB XA (wrap64 (wA + 1)) l0_0 l0_1) else (if XA.length < 17592186044416 then (spec_NeededStays.l0 k1 kA bB (XA ++ [wA]) (wrap64 (wA + 1)) l0_0 l0_1) else (none))) else (none)) else (none)) = some (r1, r2) := by first | (rw [CD] at H; exact H) | (simp only [CD] at H ⊢; exact H)
         have hji24w : (IntKind.i64.wrap (bB - (LB))) = xB := (i64_w _).trans CD
         by_cases zG : 0 ≤ (xB)
         ·rw [if_pos zG] at H
          have JH := decide_eq_true zG; clear zG
          by_cases FD : (xB) < (kA.length : Int)
          ·rw [if_pos FD] at H
           have vE := decide_eq_true FD; clear FD; obtain ⟨bq27, DD⟩ : ∃ b_ : Bool, b_ = (rdOf false kA (xB)) := ⟨_, rfl⟩
           replace H : (if (bq27 = true) then (spec_NeededStays.l0 k1 kA bB XA (wrap64 (wA + 1)) l0_0 l0_1) else (if XA.length < 17592186044416 then (spec_NeededStays.l0 k1 kA bB (XA ++ [wA]) (wrap64 (wA + 1)) l0_0 l0_1) else (none))) = some (r1, r2) := by rw [← DD] at H; exact H
           have Nbq27 := zQ DD; clear DD
           by_cases fE : (bq27 = true)
           ·subst fE
            rw [if_pos rfl] at H; have H' := zQ H; clear H; obtain ⟨vG, uG, nG, mG⟩ := zy2 jA.out; have QC : 0 ≤ ((xB) : Int) := zD; have OC : (xB) < (kA.length : Int) := zD; obtain ⟨GD, WE, mB⟩ := Kd.at_bool (Kd.R_reads' qA.out).2.2 (xB) QC OC
            (try rw [← Nbq9.out] at mB)
            (try rw [← Nbq27.out] at mB)
            obtain rfl : jD = GD := (by injection WE); replace QC := eq_true QC; replace OC := eq_true OC
            go_wp2
            go_roundg k1
            case measure => have := hE.out; omega
            case rel => exact ⟨(XA), (wrap64 (wA + 1)), (zF), H', ⟨by have := hE.out; omega⟩, ⟨zR qA.out⟩, ⟨zR KA.out⟩, ⟨zb jA.out⟩, ⟨zB2 HB.out sA.out⟩⟩
           ·replace fE := Bool.eq_false_iff.mpr fE
            subst fE
            rw [if_neg Bool.false_ne_true] at H
            by_cases xG : XA.length < 17592186044416
            ·rw [if_pos xG] at H
             have XF := zQ xG; clear xG; obtain ⟨wF, lE⟩ : ∃ y_ : List Int, y_ = (XA ++ [wA]) := ⟨_, rfl⟩; replace H : (spec_NeededStays.l0 k1 kA bB wF (wrap64 (wA + 1)) l0_0 l0_1) = some (r1, r2) := zh H; have VF := zQ lE; clear lE; have H' := zQ H; clear H; obtain ⟨tG, sG, lG, kG⟩ := zy2 jA.out; have QC : 0 ≤ ((xB) : Int) := zD; have OC : (xB) < (kA.length : Int) := zD; obtain ⟨GD, WE, mB⟩ := Kd.at_bool (Kd.R_reads' qA.out).2.2 (xB) QC OC
             (try rw [← Nbq9.out] at mB)
             (try rw [← Nbq27.out] at mB)
             obtain rfl : jD = GD := (by injection WE); replace QC := eq_true QC; replace OC := eq_true OC
             go_wp2_with (first | ((with_reducible refine gate_builtin (b := .append) (xs := #[.tmp 44, .tmp 46]) rfl ?_); at_builtin; refine Kd.R_append (Kd.int .i64) (w0 := w) w.heap.size rfl (.tmp 44) (.tmp 46) 31 2 (.int .i64 0) 8 rfl Try.underlying31 info2 rfl (by decide) (by omega) u9 XA wA [.int .i64 wA] (fun _ => True) (fun _ => False) rfl rfl ?aP (fun _ hk => hk.elim) ?aF ?aO ?aB ?aS ?aL ?_; (case aP => exact rfl); (case aB => exact (zB2 HB.out sA.out)); (case aF => exact (fun _ _ => trivial)); (case aO => exact (zR KA.out)); (case aS => exact (below_size (zB2 HB.out sA.out))); (case aL => have := XF.out; omega); intro tI VH ho hb hg hat; rw [← VF.out] at ho; have aG := zQ (ho); replace qA := zQ (Kd.R_over' (zR qA.out) (Kd.R_typed (zR KA.out)) (by decide) hg); replace jA := zQ (blk_grown (g := TA) (o := .cells #[.slice A0_0 l0_0.length c0_0, .slice A0_1 l0_1.length c0_1] 27 (0, 0)) (zb jA.out) hg (Kd.R_ne KA.out jA.out (by decide))); replace HB := zQ (hb); clear KA ho hb hg hat))
             go_roundg k1
             case measure => have := hE.out; omega
             case rel => exact ⟨(wF), (wrap64 (wA + 1)), (zF), H', ⟨by have := hE.out; omega⟩, ⟨zR qA.out⟩, ⟨zR aG.out⟩, ⟨zb jA.out⟩, ⟨zB2 HB.out sA.out⟩⟩
            ·rw [if_neg xG] at H
             exact absurd H (by simp)
          ·rw [if_neg FD] at H
           exact absurd H (by simp)
         ·rw [if_neg zG] at H
          exact absurd H (by simp)
        ·rw [if_neg QF] at H
         exact absurd H (by simp)
       ·rw [if_neg sF] at H
        have RF := decide_eq_false sF; clear sF
        simp only [Option.some.injEq, Prod.mk.injEq] at H
        obtain ⟨rfl, rfl⟩ := H; obtain ⟨rG, qG, jG, iG⟩ := zy2 jA.out
        go_wp2
        go_ret2
        exact ⟨_, by first | rfl | (simp [errW_none, errW_some] <;> rfl) | (simp only [← SC]; first | rfl | (simp [errW_none, errW_some] <;> rfl)) | (simp [*, errW_none, errW_some] <;> rfl), zR KA.out, zB2 HB.out sA.out⟩
    ·replace tF := Bool.eq_false_iff.mpr tF
     subst tF
     rw [if_neg Bool.false_ne_true] at H
     simp only [Option.some.injEq, Prod.mk.injEq] at H
     obtain ⟨rfl, rfl⟩ := H
     go_enter Try.func61, Try.ntmps61
     go_wp2_with (first | ((with_reducible refine zd 2 ?_); refine zbx (N := 2) (cs := #[.slice A0_0 l0_0.length c0_0, .slice A0_1 l0_1.length c0_1]) (t := 27) ?_; intro TA hg UH JA hb; have jA := zQ (JA); have KC := zgz hg HB.out; have sA := KC; replace HB := zbs HB.out hb; clear hb JA hg) | ((with_reducible refine zd 12 ?_); refine Kd.R_lit (Kd.int .i64) _ 2 ?hg (N := 12) ?hd (xs := ([] : List Int)) (inner := []) (ok := fun _ => True) (okp := fun _ => True) ?hr ?hp (fun _ hk => hk) trivial (Below.refl _ _) (Nat.le_refl _) (by simp) ?_; (case hd => rfl); (case hg => rfl); (case hr => first | (go_simp; done) | (go_simp; rfl)); (case hp => exact (Reps.none _ _)); intro AF tJ AD hb hg_ hnew_; clear hg_ hnew_; (first | rw [← dC.out] at AD | (simp only [Int.reduceToNat] at AD; rw [← dC.out] at AD)); have uA := zQ (Kd.R_lower AD (below_size (zB2 HB.out sA.out))); replace jA := zbl jA.out hb; replace HB := zbs2 HB.out sA.out hb; clear hb AD; obtain ⟨qH, eH, RG⟩ := Kd.R_slice uA.out; subst RG) | ((with_reducible refine zgc 105 ?_); refine zgo (some 13) Try.func105 #[.pointer (some ⟨TA, 0, none⟩), .slice A1 l1.length c1, .slice qH LC.length eH] ?_; (with_reducible refine (spec_l11Winds.calls k TA A0_0 c0_0 l0_0 A0_1 c0_1 l0_1 _ _ l1 _ _ LC lB _ (zb jA.out) (zC yA.out HB.out) AA.out (zC xA.out HB.out) zA.out (zC eC.out HB.out) gC.out ?side8 ((Kd.R_reads' uA.out).2.1) A3.out).mono ?_); (case side8 => exact zk (Kd.R_reads' uA.out).2.2); rintro e SH ⟨rfl, hb⟩; refine ⟨_, rfl, ?_⟩; replace uA := zRb uA.out hb; replace jA := zbl jA.out hb; replace HB := zbs2 HB.out sA.out hb; (try clear hb)) | ((with_reducible refine zgc 110 ?_); refine zgo (some 18) Try.func110 #[.pointer (some ⟨TA, 0, none⟩), .slice A1 l1.length c1] ?_; (with_reducible refine (spec_l11Table.calls k TA A0_0 c0_0 l0_0 A0_1 c0_1 l0_1 _ _ l1 kA _ (zb jA.out) (zC yA.out HB.out) AA.out (zC xA.out HB.out) zA.out (zC eC.out HB.out) gC.out A5.out).mono ?_); rintro e RH ⟨DG, rfl, GA, hb⟩; refine ⟨_, rfl, ?_⟩; have BB := zQ (Kd.R_lower GA (below_size (zB2 HB.out sA.out))); replace uA := zRb uA.out hb; replace jA := zbl jA.out hb; replace HB := zbs2 HB.out sA.out hb; (try clear hb); (try clear GA); obtain ⟨eG, KF, bE⟩ := Kd.R_slice BB.out; subst bE; have FC : 0 ≤ ((bB) : Int) := zD; have EC : (bB) < (kA.length : Int) := zD; obtain ⟨jD, XE, GB⟩ := Kd.at_bool (Kd.R_reads' BB.out).2.2 (bB) FC EC; (try rw [← Nbq9.out] at GB); cases XE; replace FC := eq_true FC; replace EC := eq_true EC))
     go_ret2
     exact ⟨_, by first | rfl | (simp [errW_none, errW_some] <;> rfl) | (simp only [← SC]; first | rfl | (simp [errW_none, errW_some] <;> rfl)) | (simp [*, errW_none, errW_some] <;> rfl), by first | exact Kd.R_nil _ _ _ _ _ | exact Kd.N_nil _ _ _ _ _ | exact Kd.V_nil _ _ _ _ _ | exact Kd.Q_nil _ _ _ _ _ | exact Kd.S_nil _ _ _ _ _, zB2 HB.out sA.out⟩
   ·rw [if_neg c8] at H
    exact absurd H (by simp)
  ·rw [if_neg c7] at H
   exact absurd H (by simp)
 ·rw [if_neg c4] at H
  have YB : (lB == 0) = false := beq_eq_false_iff_ne.mpr c4; have ED : (lB != 0) = true := bne_iff_ne.mpr c4
  simp only [Option.some.injEq, Prod.mk.injEq] at H
  obtain ⟨rfl, rfl⟩ := H
  go_enter Try.func61, Try.ntmps61
  go_wp2_with (first | ((with_reducible refine zd 2 ?_); refine zbx (N := 2) (cs := #[.slice A0_0 l0_0.length c0_0, .slice A0_1 l0_1.length c0_1]) (t := 27) ?_; intro TA hg QH JA hb; have jA := zQ (JA); have KC := zgz hg HB.out; have sA := KC; replace HB := zbs HB.out hb; clear hb JA hg) | ((with_reducible refine zd 12 ?_); refine Kd.R_lit (Kd.int .i64) _ 2 ?hg (N := 12) ?hd (xs := ([] : List Int)) (inner := []) (ok := fun _ => True) (okp := fun _ => True) ?hr ?hp (fun _ hk => hk) trivial (Below.refl _ _) (Nat.le_refl _) (by simp) ?_; (case hd => rfl); (case hg => rfl); (case hr => first | (go_simp; done) | (go_simp; rfl)); (case hp => exact (Reps.none _ _)); intro AF PH yD hb hg_ hnew_; clear hg_ hnew_; (first | rw [← dC.out] at yD | (simp only [Int.reduceToNat] at yD; rw [← dC.out] at yD)); have uA := zQ (Kd.R_lower yD (below_size (zB2 HB.out sA.out))); replace jA := zbl jA.out hb; replace HB := zbs2 HB.out sA.out hb; clear hb yD; obtain ⟨kF, YE, TE⟩ := Kd.R_slice uA.out; subst TE) | ((with_reducible refine zgc 105 ?_); refine zgo (some 13) Try.func105 #[.pointer (some ⟨TA, 0, none⟩), .slice A1 l1.length c1, .slice kF LC.length YE] ?_; (with_reducible refine (spec_l11Winds.calls k TA A0_0 c0_0 l0_0 A0_1 c0_1 l0_1 _ _ l1 _ _ LC lB _ (zb jA.out) (zC yA.out HB.out) AA.out (zC xA.out HB.out) zA.out (zC eC.out HB.out) gC.out ?side8 ((Kd.R_reads' uA.out).2.1) A3.out).mono ?_); (case side8 => exact zk (Kd.R_reads' uA.out).2.2); rintro e pJ ⟨rfl, hb⟩; refine ⟨_, rfl, ?_⟩; replace uA := zRb uA.out hb; replace jA := zbl jA.out hb; replace HB := zbs2 HB.out sA.out hb; (try clear hb)))
  go_ret2
  exact ⟨_, zE, by first | exact Kd.R_nil _ _ _ _ _ | exact Kd.N_nil _ _ _ _ _ | exact Kd.V_nil _ _ _ _ _ | exact Kd.Q_nil _ _ _ _ _ | exact Kd.S_nil _ _ _ _ _, zB2 HB.out sA.out⟩

def impl_NeededStays.l0 : Nat → List (List (S113)) → List Int → List Int → List Int → Int → Int → List (S164) → List (S115) → Option (List Int × Int)
 | 0, _, _, _, _, _, _, _, _ => none
 | k + 1, x1, x7, x8, x25, x26, x27, kC, jC => if x27 < x26 then (if 0 ≤ x27 then (if x27 < (x25.length : Int) then ((impl_withoutBar.f k x7 (rd x25 x27)).bind fun JB => ((impl_looseWind.f k kC jC x1 JB).bind fun wD => (if wD ≥ 0 then (if x8.length < 17592186044416 then (impl_NeededStays.l0 k x1 x7 (x8 ++ [rd x25 x27]) x25 x26 (wrap64 (x27 + 1)) kC jC) else (none)) else (impl_NeededStays.l0 k x1 x7 x8 x25 x26 (wrap64 (x27 + 1)) kC jC)))) else (none)) else (none)) else (some (x8, 0))
def impl_NeededStays.f (k : Nat) (l0_0 : List (S164)) (l0_1 : List (S115)) (l1 : List (List (S113))) : Option (List Int × Int) := (impl_windsCode.f k l0_0 l0_1 l1 ([] : List Int)).bind fun KB => (if KB = 0 then ((impl_allBars.f k l0_0 l0_1).bind fun mA => ((impl_looseWind.f k l0_0 l0_1 l1 mA).bind fun xD => (if xD ≥ 0 then (some (([] : List Int), 10)) else (impl_NeededStays.l0 k l1 mA (([] : List Int)) mA (mA.length : Int) 0 l0_0 l0_1)))) else (some (([] : List Int), KB)))
theorem impl_NeededStays.calls (k : Nat) (A0_0 : Option Addr) (c0_0 : Nat) (l0_0 : List (S164)) (A0_1 : Option Addr) (c0_1 : Nat) (l0_1 : List (S115)) (A1 : Option Addr) (c1 : Nat) (l1 : List (List (S113))) (r1 : List Int) (r2 : Int) (w : World) (hr0_0 : Kd.C k164 w A0_0 l0_0.length l0_0) (hc0_0 : l0_0.length ≤ c0_0) (hr0_1 : Kd.C k115 w A0_1 l0_1.length l0_1) (hc0_1 : l0_1.length ≤ c0_1) (hr1 : Kd.C (Kd.slice 113 k113) w A1 l1.length l1) (hc1 : l1.length ≤ c1) (h : impl_NeededStays.f k l0_0 l0_1 l1 = some (r1, r2)) :
  Calls Try.prog 62 #[.agg #[.slice A0_0 l0_0.length c0_0, .slice A0_1 l0_1.length c0_1], .slice A1 l1.length c1] w fun e w' => ∃ v0_ : Value, e = .returned (.tuple #[v0_, .int .i64 r2]) ∧ Kd.R (Kd.int .i64) 2 w' w.heap.size (fun _ => True) v0_ r1 ∧ Below w.heap.size w w' := by
 have DF := Try.underlying27
 have yA := zQ hr0_0
 have AA := zQ hc0_0
 clear hr0_0 hc0_0
 have xA := zQ hr0_1
 have zA := zQ hc0_1
 clear hr0_1 hc0_1
 have eC := zQ hr1
 have gC := zQ hc1
 clear hr1 hc1
 have HB := zQ (Below.refl w.heap.size w)
 have H := h; unfold impl_NeededStays.f at H
 clear h
 replace H := zob H; obtain ⟨KB, A3, H⟩ := H
 by_cases c4 : KB = 0
 ·rw [if_pos c4] at H
  have YB : (KB == 0) = true := beq_iff_eq.mpr c4; have ED : (KB != 0) = false := bne_eq_false_iff_eq.mpr c4; clear c4; replace H := zob H; obtain ⟨mA, A5, H⟩ := H; replace H := zob H; obtain ⟨xD, A6, H⟩ := H
  by_cases c7 : xD ≥ 0
  ·rw [if_pos c7] at H
   have eE := decide_eq_true c7; clear c7
   simp only [Option.some.injEq, Prod.mk.injEq] at H
   obtain ⟨rfl, rfl⟩ := H
   go_enter Try.func62, Try.ntmps62
   go_wp2_with (first | ((with_reducible refine zd 2 ?_); refine zbx (N := 2) (cs := #[.slice A0_0 l0_0.length c0_0, .slice A0_1 l0_1.length c0_1]) (t := 27) ?_; intro zB hg w8 JA hb; have dA := zQ (JA); have JC := zgz hg HB.out; have pA := JC; replace HB := zbs HB.out hb; clear hb JA hg; obtain ⟨RE, QE, PE, OE⟩ := zy2 dA.out) | ((with_reducible refine zgc 107 ?_); refine zgo (some 13) Try.func107 #[.agg #[.slice A0_0 l0_0.length c0_0, .slice A0_1 l0_1.length c0_1], .slice A1 l1.length c1, .slice none 0 0] ?_; (refine (impl_windsCode.calls k _ _ l0_0 _ _ l0_1 _ _ l1 _ _ ([] : List Int) KB _ ?side1 ?side2 ?side3 ?side4 ?side5 ?side6 ?side7 ?side8 A3.out).mono ?_); (case side1 => exact zC yA.out HB.out); (case side2 => exact AA.out); (case side3 => exact zC xA.out HB.out); (case side4 => exact zA.out); (case side5 => exact zC eC.out HB.out); (case side6 => exact gC.out); (case side7 => exact Kd.C_nil _ _); (case side8 => exact Nat.le_refl _); rintro e bI ⟨rfl, hb⟩; refine ⟨_, rfl, ?_⟩; replace dA := zbl dA.out hb; replace HB := zbs2 HB.out pA.out hb; (try clear hb); obtain ⟨uB, tB, qB, pB⟩ := zy2 dA.out) | ((with_reducible refine zgc 69 ?_); refine zgo (some 18) Try.func69 #[.agg #[.slice A0_0 l0_0.length c0_0, .slice A0_1 l0_1.length c0_1]] ?_; (with_reducible refine (impl_allBars.calls k _ _ l0_0 _ _ l0_1 mA _ (zC yA.out HB.out) AA.out (zC xA.out HB.out) zA.out A5.out).mono ?_); rintro e vH ⟨CG, rfl, GA, hb⟩; refine ⟨_, rfl, ?_⟩; have PA := zQ (Kd.R_lower GA (below_size (zB2 HB.out pA.out))); replace dA := zbl dA.out hb; replace HB := zbs2 HB.out pA.out hb; (try clear hb); (try clear GA); obtain ⟨aE, ZD, SD, RD⟩ := zy2 dA.out; obtain ⟨lF, ZE, UE⟩ := Kd.R_slice PA.out; subst UE) | ((with_reducible refine zgc 108 ?_); refine zgo (some 22) Try.func108 #[.agg #[.slice A0_0 l0_0.length c0_0, .slice A0_1 l0_1.length c0_1], .slice A1 l1.length c1, .slice lF mA.length ZE] ?_; (with_reducible refine (impl_looseWind.calls k _ _ l0_0 _ _ l0_1 _ _ l1 _ _ mA xD _ (zC yA.out HB.out) AA.out (zC xA.out HB.out) zA.out (zC eC.out HB.out) gC.out ?side7 ((Kd.R_reads' PA.out).2.1) A6.out).mono ?_); (case side7 => exact zk (Kd.R_reads' PA.out).2.2); rintro e aI ⟨rfl, hb⟩; refine ⟨_, rfl, ?_⟩; replace PA := zRb PA.out hb; replace dA := zbl dA.out hb; replace HB := zbs2 HB.out pA.out hb; (try clear hb)))
   go_ret2
   exact ⟨_, zE, by first | exact Kd.R_nil _ _ _ _ _ | exact Kd.N_nil _ _ _ _ _ | exact Kd.V_nil _ _ _ _ _ | exact Kd.Q_nil _ _ _ _ _ | exact Kd.S_nil _ _ _ _ _, zB2 HB.out pA.out⟩
  ·rw [if_neg c7] at H
   have eE := decide_eq_false c7; clear c7; obtain ⟨vF, kE⟩ : ∃ y_ : List Int, y_ = (([] : List Int)) := ⟨_, rfl⟩; replace H : (impl_NeededStays.l0 k l1 mA vF mA (mA.length : Int) 0 l0_0 l0_1) = some (r1, r2) := zh H; have BE := zQ kE; clear kE; have H' := zQ H; clear H
   go_enter Try.func62, Try.ntmps62
   go_wp2_with (first | ((with_reducible refine zd 2 ?_); refine zbx (N := 2) (cs := #[.slice A0_0 l0_0.length c0_0, .slice A0_1 l0_1.length c0_1]) (t := 27) ?_; intro zB hg ZH JA hb; have dA := zQ (JA); have JC := zgz hg HB.out; have pA := JC; replace HB := zbs HB.out hb; clear hb JA hg; obtain ⟨YD, XD, QD, PD⟩ := zy2 dA.out) | ((with_reducible refine zgc 107 ?_); refine zgo (some 13) Try.func107 #[.agg #[.slice A0_0 l0_0.length c0_0, .slice A0_1 l0_1.length c0_1], .slice A1 l1.length c1, .slice none 0 0] ?_; (refine (impl_windsCode.calls k _ _ l0_0 _ _ l0_1 _ _ l1 _ _ ([] : List Int) KB _ ?side1 ?side2 ?side3 ?side4 ?side5 ?side6 ?side7 ?side8 A3.out).mono ?_); (case side1 => exact zC yA.out HB.out); (case side2 => exact AA.out); (case side3 => exact zC xA.out HB.out); (case side4 => exact zA.out); (case side5 => exact zC eC.out HB.out); (case side6 => exact gC.out); (case side7 => exact Kd.C_nil _ _); (case side8 => exact Nat.le_refl _); rintro e YH ⟨rfl, hb⟩; refine ⟨_, rfl, ?_⟩; replace dA := zbl dA.out hb; replace HB := zbs2 HB.out pA.out hb; (try clear hb); obtain ⟨WD, VD, OD, ND⟩ := zy2 dA.out) | ((with_reducible refine zgc 69 ?_); refine zgo (some 18) Try.func69 #[.agg #[.slice A0_0 l0_0.length c0_0, .slice A0_1 l0_1.length c0_1]] ?_; (with_reducible refine (impl_allBars.calls k _ _ l0_0 _ _ l0_1 mA _ (zC yA.out HB.out) AA.out (zC xA.out HB.out) zA.out A5.out).mono ?_); rintro e XH ⟨CG, rfl, GA, hb⟩; refine ⟨_, rfl, ?_⟩; have PA := zQ (Kd.R_lower GA (below_size (zB2 HB.out pA.out))); replace dA := zbl dA.out hb; replace HB := zbs2 HB.out pA.out hb; (try clear hb); (try clear GA); obtain ⟨sB, rB, oB, nB⟩ := zy2 dA.out; obtain ⟨ID, OB, XG⟩ := Kd.R_slice PA.out; subst XG) | ((with_reducible refine zgc 108 ?_); refine zgo (some 22) Try.func108 #[.agg #[.slice A0_0 l0_0.length c0_0, .slice A0_1 l0_1.length c0_1], .slice A1 l1.length c1, .slice ID mA.length OB] ?_; (with_reducible refine (impl_looseWind.calls k _ _ l0_0 _ _ l0_1 _ _ l1 _ _ mA xD _ (zC yA.out HB.out) AA.out (zC xA.out HB.out) zA.out (zC eC.out HB.out) gC.out ?side7 ((Kd.R_reads' PA.out).2.1) A6.out).mono ?_); (case side7 => exact zk (Kd.R_reads' PA.out).2.2); rintro e yJ ⟨rfl, hb⟩; refine ⟨_, rfl, ?_⟩; replace PA := zRb PA.out hb; replace dA := zbl dA.out hb; replace HB := zbs2 HB.out pA.out hb; (try clear hb)) | ((with_reducible refine zd 24 ?_); refine Kd.R_lit (Kd.int .i64) _ 2 ?hg (N := 24) ?hd (xs := ([] : List Int)) (inner := []) (ok := fun _ => True) (okp := fun _ => True) ?hr ?hp (fun _ hk => hk) trivial (Below.refl _ _) (Nat.le_refl _) (by simp) ?_; (case hd => rfl); (case hg => rfl); (case hr => first | (go_simp; done) | (go_simp; rfl)); (case hp => exact (Reps.none _ _)); intro sI WH mD hb hg_ hnew_; clear hg_ hnew_; (first | rw [← BE.out] at mD | (simp only [Int.reduceToNat] at mD; rw [← BE.out] at mD)); have ZF := zQ (Kd.R_lower (Kd.R_new' mD (Kd.R_lt (zR PA.out))) (below_size (zB2 HB.out pA.out))); replace PA := zQ (Kd.R_elder' (zR PA.out) (Kd.R_base mD) hb); replace dA := zbl dA.out hb; replace HB := zbs2 HB.out pA.out hb; clear hb mD))
   go_loopg [8, 27] k (fun kq v8 vI w' => ∃ (MC : List Int) (BA : Int), vI = .int .i64 BA ∧ Aside0 (impl_NeededStays.l0 kq l1 mA MC mA (mA.length : Int) BA l0_0 l0_1 = some (r1, r2)) ∧ Aside0 (kq ≤ k) ∧ Aside0 (Kd.R (Kd.int .i64) 2 w' w.heap.size (fun k_ => some k_ ≠ (v8 : Value).ownBlock) (.slice ID mA.length OB) mA) ∧ Aside0 (Kd.R (Kd.int .i64) 2 w' w.heap.size (fun k_ => some k_ ≠ ((.slice ID mA.length OB) : Value).ownBlock ∧ some k_ ≠ ((.slice ID mA.length OB) : Value).ownBlock) v8 MC) ∧ Aside0 (Kd.R (Kd.int .i64) 2 w' w.heap.size (fun k_ => some k_ ≠ (v8 : Value).ownBlock) (.slice ID mA.length OB) mA) ∧ Aside0 (w'.heap[zB]? = some (.cells #[(.slice A0_0 l0_0.length c0_0), (.slice A0_1 l0_1.length c0_1)] 27 (0, 0))) ∧ Aside0 (Below w.heap.size w w'))
   case atStart => exact ⟨(vF), (0), (zF), H', ⟨Nat.le_refl _⟩, ⟨by (with_reducible repeat (first | apply Kd.R_alloc | apply Kd.R_drewN | apply Kd.R_drew)); exact Kd.R_mono PA.out (fun _ hk => hk.2)⟩, ⟨by (with_reducible repeat (first | apply Kd.R_alloc | apply Kd.R_drewN | apply Kd.R_drew)); exact Kd.R_mono ZF.out (fun _ hk => ⟨hk.2, hk.2⟩)⟩, ⟨by (with_reducible repeat (first | apply Kd.R_alloc | apply Kd.R_drewN | apply Kd.R_drew)); exact Kd.R_mono PA.out (fun _ hk => hk.2)⟩, ⟨zb dA.out⟩, ⟨zB2 HB.out pA.out⟩⟩
   case round =>
    clear H'; (try clear c1); (try clear p2); (try clear c4); (try clear YB); (try clear ED); (try clear c6); (try clear c7); (try clear eE); (try clear tF); (try clear uB tB qB pB); (try clear aE ZD SD RD); (try clear YD XD QD PD); (try clear WD VD OD ND); (try clear sB rB oB nB); (try clear RE QE PE OE); obtain ⟨MC, BA, rfl, HA, hE, qA, LA, nA, dA, HB⟩ := hrel
    cases gk with
    | zero => exact absurd HA.out (by simp [impl_NeededStays.l0])
    | succ k1 =>
     have H := HA.out; clear HA
     simp only [impl_NeededStays.l0] at H
     by_cases FD : BA < (mA.length : Int)
     ·rw [if_pos FD] at H
      have vE := decide_eq_true FD; clear FD
      by_cases yG : 0 ≤ BA
      ·rw [if_pos yG] at H
       have IH := decide_eq_true yG; clear yG
       by_cases fE : BA < (mA.length : Int)
       ·rw [if_pos fE] at H
        have HH := decide_eq_true fE; clear fE; replace H := zob H; obtain ⟨JB, OH, H⟩ := H; replace H := zob H; obtain ⟨wD, NH, H⟩ := H
        by_cases rF : wD ≥ 0
        ·rw [if_pos rF] at H
         have PF := decide_eq_true rF; clear rF
         by_cases wG : MC.length < 17592186044416
         ·rw [if_pos wG] at H
          have WF := zQ wG; clear wG; obtain ⟨uF, jE⟩ : ∃ y_ : List Int, y_ = (MC ++ [rd mA BA]) := ⟨_, rfl⟩; replace H : (impl_NeededStays.l0 k1 l1 mA uF mA (mA.length : Int) (wrap64 (BA + 1)) l0_0 l0_1) = some (r1, r2) := zh H; have UF := zQ jE; clear jE; have H' := zQ H; clear H; have PC : 0 ≤ (BA : Int) := zD; have NC : BA < (mA.length : Int) := zD; obtain ⟨QB, VE, KD⟩ := Kd.at_int (Kd.R_reads' nA.out).2.2 BA PC NC
          cases VE
          replace PC := eq_true PC; replace NC := eq_true NC
          try go_wp2
          have n0_ := zQ (Kd.R_drew qA.out); have n1_ := zQ (Kd.R_drew LA.out); have n2_ := zQ (Kd.R_drew nA.out); have n3_ := zQ (blk_drew dA.out); have n4_ := zQ (below_drew1 HB.out); clear qA; clear LA; clear nA; clear dA; clear HB; have qA := n0_; have LA := n1_; have nA := n2_; have dA := n3_; have HB := n4_; clear n0_ n1_ n2_ n3_ n4_
          refine zs (fun w' => w'.cell? ⟨zB, 0, none⟩ = some (.slice A0_0 l0_0.length c0_0) ∧ w'.cell? ⟨zB, 1, none⟩ = some (.slice A0_1 l0_1.length c0_1)) [] 7 ⟨(blk_cell dA.out 0).trans rfl, (blk_cell dA.out 1).trans rfl⟩ (fun QA => ?_)
          generalize wr.drew = uJ at qA LA nA dA HB QA ⊢
          refine zp 1 32 ?_
          refine zp 2 33 ?_
          refine zp 3 34 ?_
          refine zt 0 31 QA ?_
          refine zo 4 (some 35) (fun K hK => ?_)
          refine goes_ Try.func78 (by kernel_rfl) rfl #[.slice (some QB) mA.length OB, .int .i64 (rd mA BA)] (by rfl) rfl rfl zM ?_
          with_reducible refine (impl_withoutBar.calls k1 _ _ mA (rd mA BA) JB _ ?side1 ?side2 OH.out).mono ?_
          (case side1 => exact zk (Kd.R_reads' qA.out).2.2)
          (case side2 => exact (Kd.R_reads' qA.out).2.1)
          rintro e UH ⟨BG, rfl, GA, hb⟩
          refine ⟨_, rfl, ?_⟩
          have n0_ := zQ (Kd.R_elder' (zR qA.out) (Kd.R_base GA) hb); have n1_ := zQ (Kd.R_elder' (zR LA.out) (Kd.R_base GA) hb); have n2_ := zQ (Kd.R_elder' (zR nA.out) (Kd.R_base GA) hb); have n3_ := zQ (Kd.R_lower (Kd.R_new' (Kd.R_new' (Kd.R_new' GA (Kd.R_lt (zR qA.out))) (Kd.R_lt (zR LA.out))) (Kd.R_lt (zR nA.out))) (below_size (zB2 HB.out pA.out))); have n4_ := zbl dA.out hb; have n5_ := zbs2 HB.out pA.out hb; clear qA; clear LA; clear nA; clear dA; clear HB; have qA := n0_; have LA := n1_; have nA := n2_; have OA := n3_; have dA := n4_; have HB := n5_; clear n0_ n1_ n2_ n3_ n4_ n5_
          (try clear hb)
          (try clear EF)
          (try clear hk)
          (try clear hi)
          (try clear GA)
          obtain ⟨iE, cE, HF⟩ := Kd.R_slice OA.out
          (first | subst HF | (injection HF with f1_ f2_ f3_; have f4_ := f1_.symm; have f5_ := f3_.symm; clear f1_ f2_ f3_; subst f4_; subst f5_))
          refine hK.out _ _ ⟨(blk_cell dA.out 0).trans rfl, (blk_cell dA.out 1).trans rfl⟩ (fun QA => ?_)
          clear hK K
          refine zn 35 ?_
          refine zo 5 (some 36) (fun K hK => ?_)
          refine goes_ Try.func108 (by kernel_rfl) rfl #[.agg #[.slice A0_0 l0_0.length c0_0, .slice A0_1 l0_1.length c0_1], .slice A1 l1.length c1, .slice iE JB.length cE] (by rfl) rfl rfl zM ?_
          with_reducible refine (impl_looseWind.calls k1 _ _ l0_0 _ _ l0_1 _ _ l1 _ _ JB wD _ ?side1 ?side2 ?side3 ?side4 ?side5 ?side6 ?side7 ?side8 NH.out).mono ?_
          (case side1 => exact zC yA.out HB.out)
          (case side2 => exact AA.out)
          (case side3 => exact zC xA.out HB.out)
          (case side4 => exact zA.out)
          (case side5 => exact zC eC.out HB.out)
          (case side6 => exact gC.out)
          (case side7 => exact zk (Kd.R_reads' OA.out).2.2)
          (case side8 => exact (Kd.R_reads' OA.out).2.1)
          rintro e sJ ⟨rfl, hb⟩
          refine ⟨_, rfl, ?_⟩
          have n0_ := zRb qA.out hb; have n1_ := zRb LA.out hb; have n2_ := zRb nA.out hb; have n3_ := zRb OA.out hb; have n4_ := zbl dA.out hb; have n5_ := zbs2 HB.out pA.out hb; clear qA; clear LA; clear nA; clear OA; clear dA; clear HB; have qA := n0_; have LA := n1_; have nA := n2_; have OA := n3_; have dA := n4_; have HB := n5_; clear n0_ n1_ n2_ n3_ n4_ n5_
          (try clear hb)
          (try clear EF)
          (try clear hk)
          (try clear hi)
          refine hK.out _ _ ⟨(blk_cell dA.out 0).trans rfl, (blk_cell dA.out 1).trans rfl⟩ (fun QA => ?_)
          clear hK K
          refine zn 36 ?_
          refine zp 6 37 ?_
          refine done_ (by kernel_rfl) ?_
          try go_wp2_with (first | ((with_reducible refine gate_builtin (b := .append) (xs := #[.tmp 38, .tmp 40]) rfl ?_); at_builtin; refine Kd.R_append (Kd.int .i64) (w0 := w) w.heap.size rfl (.tmp 38) (.tmp 40) 31 2 (.int .i64 0) 8 rfl Try.underlying31 info2 rfl (by decide) (by omega) u8 MC (rd mA BA) [.int .i64 (rd mA BA)] (fun k_ => some k_ ≠ (.slice (some QB) mA.length OB : Value).ownBlock ∧ some k_ ≠ (.slice (some QB) mA.length OB : Value).ownBlock ∧ some k_ ≠ (.slice iE JB.length cE : Value).ownBlock) (fun _ => False) rfl rfl ?aP (fun _ hk => hk.elim) ?aF ?aO ?aB ?aS ?aL ?_; (case aP => exact rfl); (case aB => exact (zB2 HB.out pA.out)); (case aF => exact (fun k_ hk => ⟨Kd.fresh' (Kd.R_lt (zR qA.out)) k_ hk, Kd.fresh' (Kd.R_lt (zR nA.out)) k_ hk, Kd.fresh' (Kd.R_lt (zR OA.out)) k_ hk⟩)); (case aO => exact (by (with_reducible repeat (first | apply Kd.R_alloc | apply Kd.R_drewN | apply Kd.R_drew)); exact Kd.R_mono LA.out (fun _ hk => ⟨hk.1.1, ⟨hk.1.2, hk.2⟩⟩))); (case aS => exact (below_size (zB2 HB.out pA.out))); (case aL => have := WF.out; omega); intro rI TH ho hb hg hat; rw [← UF.out] at ho; have YF := zQ (ho); replace qA := zQ (Kd.R_after (ok := (fun k_ => some k_ ≠ (.slice iE JB.length cE : Value).ownBlock)) (by (with_reducible repeat (first | apply Kd.R_alloc | apply Kd.R_drewN | apply Kd.R_drew)); exact Kd.R_mono qA.out (fun _ hk => ⟨hk.2, hk.1⟩)) hg hat); replace nA := zQ (Kd.R_after (ok := (fun k_ => some k_ ≠ (.slice iE JB.length cE : Value).ownBlock)) (by (with_reducible repeat (first | apply Kd.R_alloc | apply Kd.R_drewN | apply Kd.R_drew)); exact Kd.R_mono nA.out (fun _ hk => ⟨hk.2, hk.1⟩)) hg hat); replace dA := zQ (blk_grown (g := zB) (o := .cells #[.slice A0_0 l0_0.length c0_0, .slice A0_1 l0_1.length c0_1] 27 (0, 0)) (zb dA.out) hg (Kd.R_ne LA.out dA.out (by decide))); replace OA := zQ (Kd.R_after (ok := (fun k_ => some k_ ≠ (.slice (some QB) mA.length OB : Value).ownBlock ∧ some k_ ≠ (.slice (some QB) mA.length OB : Value).ownBlock)) (by (with_reducible repeat (first | apply Kd.R_alloc | apply Kd.R_drewN | apply Kd.R_drew)); exact Kd.R_mono OA.out (fun _ hk => ⟨⟨hk.1.1.2, hk.2⟩, hk.1.2⟩)) hg hat); replace HB := zQ (hb); clear LA ho hb hg hat))
          go_roundg k1
          case measure => have := hE.out; omega
          case rel => exact ⟨(uF), (wrap64 (BA + 1)), (zF), H', ⟨by have := hE.out; omega⟩, ⟨by (with_reducible repeat (first | apply Kd.R_alloc | apply Kd.R_drewN | apply Kd.R_drew)); exact Kd.R_mono qA.out (fun _ hk => hk.2)⟩, ⟨by (with_reducible repeat (first | apply Kd.R_alloc | apply Kd.R_drewN | apply Kd.R_drew)); exact Kd.R_mono YF.out (fun _ hk => ⟨hk.1, hk.2.1⟩)⟩, ⟨by (with_reducible repeat (first | apply Kd.R_alloc | apply Kd.R_drewN | apply Kd.R_drew)); exact Kd.R_mono nA.out (fun _ hk => hk.2)⟩, ⟨zb dA.out⟩, ⟨zB2 HB.out pA.out⟩⟩
         ·rw [if_neg wG] at H
          exact absurd H (by simp)
        ·rw [if_neg rF] at H
         have PF := decide_eq_false rF; clear rF; have H' := zQ H; clear H; have PC : 0 ≤ (BA : Int) := zD; have NC : BA < (mA.length : Int) := zD; obtain ⟨QB, VE, KD⟩ := Kd.at_int (Kd.R_reads' nA.out).2.2 BA PC NC
         cases VE
         replace PC := eq_true PC; replace NC := eq_true NC
         try go_wp2
         have n0_ := zQ (Kd.R_drew qA.out); have n1_ := zQ (Kd.R_drew LA.out); have n2_ := zQ (Kd.R_drew nA.out); have n3_ := zQ (blk_drew dA.out); have n4_ := zQ (below_drew1 HB.out); clear qA; clear LA; clear nA; clear dA; clear HB; have qA := n0_; have LA := n1_; have nA := n2_; have dA := n3_; have HB := n4_; clear n0_ n1_ n2_ n3_ n4_
         refine zs (fun w' => w'.cell? ⟨zB, 0, none⟩ = some (.slice A0_0 l0_0.length c0_0) ∧ w'.cell? ⟨zB, 1, none⟩ = some (.slice A0_1 l0_1.length c0_1)) [] 7 ⟨(blk_cell dA.out 0).trans rfl, (blk_cell dA.out 1).trans rfl⟩ (fun QA => ?_)
         generalize wr.drew = SH at qA LA nA dA HB QA ⊢
         refine zp 1 32 ?_
         refine zp 2 33 ?_
         refine zp 3 34 ?_
         refine zt 0 31 QA ?_
         refine zo 4 (some 35) (fun K hK => ?_)
         refine goes_ Try.func78 (by kernel_rfl) rfl #[.slice (some QB) mA.length OB, .int .i64 (rd mA BA)] (by rfl) rfl rfl zM ?_
         with_reducible refine (impl_withoutBar.calls k1 _ _ mA (rd mA BA) JB _ ?side1 ?side2 OH.out).mono ?_
         (case side1 => exact zk (Kd.R_reads' qA.out).2.2)
         (case side2 => exact (Kd.R_reads' qA.out).2.1)
         rintro e RH ⟨BG, rfl, GA, hb⟩
         refine ⟨_, rfl, ?_⟩
         have n0_ := zQ (Kd.R_elder' (zR qA.out) (Kd.R_base GA) hb); have n1_ := zQ (Kd.R_elder' (zR LA.out) (Kd.R_base GA) hb); have n2_ := zQ (Kd.R_elder' (zR nA.out) (Kd.R_base GA) hb); have n3_ := zQ (Kd.R_lower (Kd.R_new' (Kd.R_new' (Kd.R_new' GA (Kd.R_lt (zR qA.out))) (Kd.R_lt (zR LA.out))) (Kd.R_lt (zR nA.out))) (below_size (zB2 HB.out pA.out))); have n4_ := zbl dA.out hb; have n5_ := zbs2 HB.out pA.out hb; clear qA; clear LA; clear nA; clear dA; clear HB; have qA := n0_; have LA := n1_; have nA := n2_; have OA := n3_; have dA := n4_; have HB := n5_; clear n0_ n1_ n2_ n3_ n4_ n5_
         (try clear hb)
         (try clear EF)
         (try clear hk)
         (try clear hi)
         (try clear GA)
         obtain ⟨eG, KF, bE⟩ := Kd.R_slice OA.out
         (first | subst bE | (injection bE with f1_ f2_ f3_; have f4_ := f1_.symm; have f5_ := f3_.symm; clear f1_ f2_ f3_; subst f4_; subst f5_))
         refine hK.out _ _ ⟨(blk_cell dA.out 0).trans rfl, (blk_cell dA.out 1).trans rfl⟩ (fun QA => ?_)
         clear hK K
         refine zn 35 ?_
         refine zo 5 (some 36) (fun K hK => ?_)
         refine goes_ Try.func108 (by kernel_rfl) rfl #[.agg #[.slice A0_0 l0_0.length c0_0, .slice A0_1 l0_1.length c0_1], .slice A1 l1.length c1, .slice eG JB.length KF] (by rfl) rfl rfl zM ?_
         with_reducible refine (impl_looseWind.calls k1 _ _ l0_0 _ _ l0_1 _ _ l1 _ _ JB wD _ ?side1 ?side2 ?side3 ?side4 ?side5 ?side6 ?side7 ?side8 NH.out).mono ?_
         (case side1 => exact zC yA.out HB.out)
         (case side2 => exact AA.out)
         (case side3 => exact zC xA.out HB.out)
         (case side4 => exact zA.out)
         (case side5 => exact zC eC.out HB.out)
         (case side6 => exact gC.out)
         (case side7 => exact zk (Kd.R_reads' OA.out).2.2)
         (case side8 => exact (Kd.R_reads' OA.out).2.1)
         rintro e QH ⟨rfl, hb⟩
         refine ⟨_, rfl, ?_⟩
         have n0_ := zRb qA.out hb; have n1_ := zRb LA.out hb; have n2_ := zRb nA.out hb; have n3_ := zRb OA.out hb; have n4_ := zbl dA.out hb; have n5_ := zbs2 HB.out pA.out hb; clear qA; clear LA; clear nA; clear OA; clear dA; clear HB; have qA := n0_; have LA := n1_; have nA := n2_; have OA := n3_; have dA := n4_; have HB := n5_; clear n0_ n1_ n2_ n3_ n4_ n5_
         (try clear hb)
         (try clear EF)
         (try clear hk)
         (try clear hi)
         refine hK.out _ _ ⟨(blk_cell dA.out 0).trans rfl, (blk_cell dA.out 1).trans rfl⟩ (fun QA => ?_)
         clear hK K
         refine zn 36 ?_
         refine zp 6 37 ?_
         refine done_ (by kernel_rfl) ?_
         try go_wp2
         go_roundg k1
         case measure => have := hE.out; omega
         case rel => exact ⟨(MC), (wrap64 (BA + 1)), (zF), H', ⟨by have := hE.out; omega⟩, ⟨by (with_reducible repeat (first | apply Kd.R_alloc | apply Kd.R_drewN | apply Kd.R_drew)); exact Kd.R_mono qA.out (fun _ hk => hk.1)⟩, ⟨by (with_reducible repeat (first | apply Kd.R_alloc | apply Kd.R_drewN | apply Kd.R_drew)); exact Kd.R_mono LA.out (fun _ hk => ⟨hk.1.1, hk.1.2⟩)⟩, ⟨by (with_reducible repeat (first | apply Kd.R_alloc | apply Kd.R_drewN | apply Kd.R_drew)); exact Kd.R_mono nA.out (fun _ hk => hk.1)⟩, ⟨zb dA.out⟩, ⟨zB2 HB.out pA.out⟩⟩
       ·rw [if_neg fE] at H
        exact absurd H (by simp)
      ·rw [if_neg yG] at H
       exact absurd H (by simp)
     ·rw [if_neg FD] at H
      have vE := decide_eq_false FD; clear FD
      simp only [Option.some.injEq, Prod.mk.injEq] at H
      obtain ⟨rfl, rfl⟩ := H
      go_wp2
      go_ret2
      exact ⟨_, zE, by (with_reducible repeat (first | apply Kd.R_alloc | apply Kd.R_drewN | apply Kd.R_drew)); exact Kd.R_mono LA.out (fun _ hk => trivial), zB2 HB.out pA.out⟩
 ·rw [if_neg c4] at H
  have YB : (KB == 0) = false := beq_eq_false_iff_ne.mpr c4; have ED : (KB != 0) = true := bne_iff_ne.mpr c4
  simp only [Option.some.injEq, Prod.mk.injEq] at H
  obtain ⟨rfl, rfl⟩ := H
  go_enter Try.func62, Try.ntmps62
  go_wp2_with (first | ((with_reducible refine zd 2 ?_); refine zbx (N := 2) (cs := #[.slice A0_0 l0_0.length c0_0, .slice A0_1 l0_1.length c0_1]) (t := 27) ?_; intro zB hg PH JA hb; have dA := zQ (JA); have JC := zgz hg HB.out; have pA := JC; replace HB := zbs HB.out hb; clear hb JA hg; obtain ⟨pG, oG, hG, gG⟩ := zy2 dA.out) | ((with_reducible refine zgc 107 ?_); refine zgo (some 13) Try.func107 #[.agg #[.slice A0_0 l0_0.length c0_0, .slice A0_1 l0_1.length c0_1], .slice A1 l1.length c1, .slice none 0 0] ?_; (refine (impl_windsCode.calls k _ _ l0_0 _ _ l0_1 _ _ l1 _ _ ([] : List Int) KB _ ?side1 ?side2 ?side3 ?side4 ?side5 ?side6 ?side7 ?side8 A3.out).mono ?_); (case side1 => exact zC yA.out HB.out); (case side2 => exact AA.out); (case side3 => exact zC xA.out HB.out); (case side4 => exact zA.out); (case side5 => exact zC eC.out HB.out); (case side6 => exact gC.out); (case side7 => exact Kd.C_nil _ _); (case side8 => exact Nat.le_refl _); rintro e qJ ⟨rfl, hb⟩; refine ⟨_, rfl, ?_⟩; replace dA := zbl dA.out hb; replace HB := zbs2 HB.out pA.out hb; (try clear hb)))
  go_ret2
  exact ⟨_, zE, by first | exact Kd.R_nil _ _ _ _ _ | exact Kd.N_nil _ _ _ _ _ | exact Kd.V_nil _ _ _ _ _ | exact Kd.Q_nil _ _ _ _ _ | exact Kd.S_nil _ _ _ _ _, zB2 HB.out pA.out⟩

mutual
def laws_FnExactNeededStays.j0 : Nat → List (List (S122)) → List Int → Int → List (List (S113)) → List Int → Int → Bool → List (S166) → List (S168) → List (S164) → List (S115) → Option (Bool)
 | 0, _, _, _, _, _, _, _, _, _, _, _ => none
 | k + 1, x1, x6, x7, x9, x10, x11, x53, ZA, YA, bD, aD => if x53 = true then (some false) else ((laws_toFrame.f k ZA YA).bind fun yE => ((laws_eqFrame.f k bD aD yE.1 yE.2).bind fun KE => (if KE = true then ((laws_toPullSS.f k x1).bind fun dB => ((laws_eqPullSS.f k x9 dB).bind fun JE => (if JE = true then ((laws_markFrame.f k bD aD 1).bind fun TF => ((laws_markPullSS.f k x9 TF.1).bind fun SF => (if SF.1 < 0 then (laws_FnExactNeededStays.j1 k x1 x6 x7 x10 true ZA YA) else ((laws_eqInt64S.f k x10 x6).bind fun HE => (if HE = true then (laws_FnExactNeededStays.j1 k x1 x6 x7 x10 (x11 != x7) ZA YA) else (laws_FnExactNeededStays.j1 k x1 x6 x7 x10 true ZA YA)))))) else (some false)))) else (some false))))
def laws_FnExactNeededStays.j1 : Nat → List (List (S122)) → List Int → Int → List Int → Bool → List (S166) → List (S168) → Option (Bool)
 | 0, _, _, _, _, _, _, _ => none
 | k + 1, x1, x6, x7, x10, x82, ZA, YA => if x82 = true then (some false) else ((laws_markInt64S.f k x10 1).bind fun ZB => ((laws_heldInt64S.f k ZB.2 1).bind fun WB => (if WB < 0 then (some false) else (if WB = ZB.1 then ((laws_toFrame.f k ZA YA).bind fun xE => ((laws_toPullSS.f k x1).bind fun rD => ((impl_NeededStays.f k xE.1 xE.2 rD).bind fun wE => ((laws_eqInt64S.f k wE.1 x6).bind fun DE => (if DE = true then (laws_FnExactNeededStays.j2 k ZB.2 ZB.1 (wE.2 != x7)) else (laws_FnExactNeededStays.j2 k ZB.2 ZB.1 true)))))) else (some false)))))
def laws_FnExactNeededStays.j2 : Nat → List Int → Int → Bool → Option (Bool)
 | 0, _, _, _ => none
 | k + 1, x10, x13, AG => if AG = true then (some false) else ((laws_heldInt64S.f k x10 1).bind fun VB => (if VB < 0 then (some false) else (if VB = x13 then (some true) else (some false))))
end
def laws_FnExactNeededStays.f (k : Nat) (l0_0 : List (S166)) (l0_1 : List (S168)) (l1 : List (List (S122))) : Option (Bool) := (laws_szFrame.f l0_0 l0_1 1048576).bind fun IB => (if IB < 0 then (some true) else ((laws_szPullSS.f k l1 IB).bind fun vD => (if vD < 0 then (some true) else ((laws_toFrame.f k l0_0 l0_1).bind fun AE => ((laws_toPullSS.f k l1).bind fun uD => ((spec_NeededStays.f k AE.1 AE.2 uD).bind fun cC => ((laws_toFrame.f k l0_0 l0_1).bind fun bC => ((laws_toPullSS.f k l1).bind fun fB => ((impl_NeededStays.f k bC.1 bC.2 fB).bind fun aC => ((laws_eqInt64S.f k aC.1 cC.1).bind fun LE => (if LE = true then (laws_FnExactNeededStays.j0 k l1 cC.1 cC.2 fB aC.1 aC.2 (aC.2 != cC.2) l0_0 l0_1 bC.1 bC.2) else (laws_FnExactNeededStays.j0 k l1 cC.1 cC.2 fB aC.1 aC.2 true l0_0 l0_1 bC.1 bC.2))))))))))))
theorem laws_FnExactNeededStays.j0_cut (k : Nat) (x0_ : List (List (S122))) (x1_ : List Int) (x2_ : Int) (x3_ : List (List (S113))) (x4_ : List Int) (x5_ : Int) (x7_ : List (S166)) (x8_ : List (S168)) (x9_ : List (S164)) (x10_ : List (S115)) (r : Bool) (h : laws_FnExactNeededStays.j0 k x0_ x1_ x2_ x3_ x4_ x5_ true x7_ x8_ x9_ x10_ = some r) (hr : r = true) : False := by
 cases k with
 | zero => simp only [laws_FnExactNeededStays.j0] at h; cases h
 | succ k =>
  have h2 : some false = some r := h
  cases h2
  cases hr
theorem laws_FnExactNeededStays.j1_cut (k : Nat) (x0_ : List (List (S122))) (x1_ : List Int) (x2_ : Int) (x3_ : List Int) (x5_ : List (S166)) (x6_ : List (S168)) (r : Bool) (h : laws_FnExactNeededStays.j1 k x0_ x1_ x2_ x3_ true x5_ x6_ = some r) (hr : r = true) : False := by
 cases k with
 | zero => simp only [laws_FnExactNeededStays.j1] at h; cases h
 | succ k =>
  have h2 : some false = some r := h
  cases h2
  cases hr
theorem laws_FnExactNeededStays.j2_cut (k : Nat) (x0_ : List Int) (x1_ : Int) (r : Bool) (h : laws_FnExactNeededStays.j2 k x0_ x1_ true = some r) (hr : r = true) : False := by
 cases k with
 | zero => simp only [laws_FnExactNeededStays.j2] at h; cases h
 | succ k =>
  have h2 : some false = some r := h
  cases h2
  cases hr
theorem laws_FnExactNeededStays.calls (k : Nat) (A0_0 : Option Addr) (c0_0 : Nat) (l0_0 : List (S166)) (A0_1 : Option Addr) (c0_1 : Nat) (l0_1 : List (S168)) (A1 : Option Addr) (c1 : Nat) (l1 : List (List (S122))) (r : Bool) (w : World) (hr0_0 : Kd.C k166 w A0_0 l0_0.length l0_0) (hc0_0 : l0_0.length ≤ c0_0) (hr0_1 : Kd.C k168 w A0_1 l0_1.length l0_1) (hc0_1 : l0_1.length ≤ c0_1) (hr1 : Kd.C (Kd.slice 122 k122) w A1 l1.length l1) (hc1 : l1.length ≤ c1) (h : laws_FnExactNeededStays.f k l0_0 l0_1 l1 = some r) (hrt : r = true) :
  Calls Try.prog 13 #[.agg #[.slice A0_0 l0_0.length c0_0, .slice A0_1 l0_1.length c0_1], .slice A1 l1.length c1] w fun e w' => e = .returned (.bool r) ∧ Below w.heap.size w w' := by
 have HRT := zQ hrt
 clear hrt
 have xI := Try.underlying54
 have DF := Try.underlying27
 have yA := zQ hr0_0
 have AA := zQ hc0_0
 clear hr0_0 hc0_0
 have xA := zQ hr0_1
 have zA := zQ hc0_1
 clear hr0_1 hc0_1
 have eC := zQ hr1
 have gC := zQ hc1
 clear hr1 hc1
 have HB := zQ (Below.refl w.heap.size w)
 have H := h; unfold laws_FnExactNeededStays.f at H
 clear h
 replace H := zob H; obtain ⟨IB, A3, H⟩ := H
 by_cases c4 : IB < 0
 ·rw [if_pos c4] at H
  have YB := decide_eq_true c4; clear c4; obtain rfl := Option.some.inj H
  go_enter Try.func13, Try.ntmps13
  go_wp2_with (first | ((with_reducible refine zd 2 ?_); refine zbx (N := 2) (cs := #[.slice A0_0 l0_0.length c0_0, .slice A0_1 l0_1.length c0_1]) (t := 54) ?_; intro IA hg w5 JA hb; have cA := zQ (JA); have IC := zgz hg HB.out; have gA := IC; replace HB := zbs HB.out hb; clear hb JA hg; obtain ⟨WC, VC, UC, TC⟩ := zy2 cA.out) | ((with_reducible refine zgc 34 ?_); refine zgo (some 19) Try.func34 #[.agg #[.slice A0_0 l0_0.length c0_0, .slice A0_1 l0_1.length c0_1], .int .i64 1048576] ?_; (with_reducible refine (laws_szFrame.calls _ _ l0_0 _ _ l0_1 1048576 IB _ (zC yA.out HB.out) AA.out (zC xA.out HB.out) zA.out A3.out).mono ?_); rintro e w7 ⟨rfl, hb⟩; refine ⟨_, rfl, ?_⟩; replace cA := zbl cA.out hb; replace HB := zbs2 HB.out gA.out hb; (try clear hb)))
  go_ret
  exact ⟨zE, zB2 HB.out gA.out⟩
 ·rw [if_neg c4] at H
  have YB := decide_eq_false c4; clear c4; replace H := zob H; obtain ⟨vD, A8, H⟩ := H
  by_cases c9 : vD < 0
  ·rw [if_pos c9] at H
   have dE := decide_eq_true c9; clear c9; obtain rfl := Option.some.inj H
   go_enter Try.func13, Try.ntmps13
   go_wp2_with (first | ((with_reducible refine zd 2 ?_); refine zbx (N := 2) (cs := #[.slice A0_0 l0_0.length c0_0, .slice A0_1 l0_1.length c0_1]) (t := 54) ?_; intro IA hg bI JA hb; have cA := zQ (JA); have IC := zgz hg HB.out; have gA := IC; replace HB := zbs HB.out hb; clear hb JA hg; obtain ⟨uB, tB, qB, pB⟩ := zy2 cA.out) | ((with_reducible refine zgc 34 ?_); refine zgo (some 19) Try.func34 #[.agg #[.slice A0_0 l0_0.length c0_0, .slice A0_1 l0_1.length c0_1], .int .i64 1048576] ?_; (with_reducible refine (laws_szFrame.calls _ _ l0_0 _ _ l0_1 1048576 IB _ (zC yA.out HB.out) AA.out (zC xA.out HB.out) zA.out A3.out).mono ?_); rintro e vH ⟨rfl, hb⟩; refine ⟨_, rfl, ?_⟩; replace cA := zbl cA.out hb; replace HB := zbs2 HB.out gA.out hb; (try clear hb)) | ((with_reducible refine zgc 46 ?_); refine zgo (some 24) Try.func46 #[.slice A1 l1.length c1, .int .i64 IB] ?_; (with_reducible refine (laws_szPullSS.calls k _ _ l1 IB vD _ (zC eC.out HB.out) gC.out A8.out).mono ?_); rintro e w' ⟨rfl, ⟨nd, rfl⟩⟩; refine ⟨_, rfl, ?_⟩))
   go_ret
   exact ⟨zE, zB2 HB.out gA.out⟩
  ·rw [if_neg c9] at H
   have dE := decide_eq_false c9; clear c9; replace H := zob H; obtain ⟨⟨NE, ME⟩, dJ, H⟩ := H; replace H := zob H; obtain ⟨uD, cJ, H⟩ := H; replace H := zob H; obtain ⟨⟨XB, lD⟩, bJ, H⟩ := H; replace H := zob H; obtain ⟨⟨tA, vA⟩, aJ, H⟩ := H; replace H := zob H; obtain ⟨fB, ZI, H⟩ := H
   replace H := zob H; obtain ⟨⟨eB, JD⟩, YI, H⟩ := H; have jF := zQ H; clear H
   go_enter Try.func13, Try.ntmps13
   go_upto_region 12 with (first | ((with_reducible refine zd 2 ?_); refine zbx (N := 2) (cs := #[.slice A0_0 l0_0.length c0_0, .slice A0_1 l0_1.length c0_1]) (t := 54) ?_; intro IA hg XH JA hb; have cA := zQ (JA); have IC := zgz hg HB.out; have gA := IC; replace HB := zbs HB.out hb; clear hb JA hg; obtain ⟨sB, rB, oB, nB⟩ := zy2 cA.out) | ((with_reducible refine zgc 34 ?_); refine zgo (some 19) Try.func34 #[.agg #[.slice A0_0 l0_0.length c0_0, .slice A0_1 l0_1.length c0_1], .int .i64 1048576] ?_; (with_reducible refine (laws_szFrame.calls _ _ l0_0 _ _ l0_1 1048576 IB _ (zC yA.out HB.out) AA.out (zC xA.out HB.out) zA.out A3.out).mono ?_); rintro e yF ⟨rfl, hb⟩; refine ⟨_, rfl, ?_⟩; replace cA := zbl cA.out hb; replace HB := zbs2 HB.out gA.out hb; (try clear hb)) | ((with_reducible refine zgc 46 ?_); refine zgo (some 24) Try.func46 #[.slice A1 l1.length c1, .int .i64 IB] ?_; (with_reducible refine (laws_szPullSS.calls k _ _ l1 IB vD _ (zC eC.out HB.out) gC.out A8.out).mono ?_); rintro e w' ⟨rfl, ⟨nd, rfl⟩⟩; refine ⟨_, rfl, ?_⟩; (try (rw [drewN_self yF]; generalize hq_ : World.drewN yF _ = yF; have n0_ : Aside0 (yF.heap[IA]? = some (.cells #[.slice A0_0 l0_0.length c0_0, .slice A0_1 l0_1.length c0_1] 54 (0, 0))) := ⟨by rw [← hq_]; exact (zb cA.out)⟩; have n1_ : Aside0 (Below w.heap.size w yF) := ⟨by rw [← hq_]; exact (zB2 HB.out gA.out)⟩; clear cA HB hq_; have cA := n0_; have HB := n1_; clear n0_ n1_)); (try (have hczrw22_gb393_0 := zc0 cA.out)); (try (have hfzrw22_gb393_0 := zfz cA.out 0)); (try (have hczrw22_gb393_1 := zc1 cA.out)); (try (have hfzrw22_gb393_1 := zfz cA.out 1)); obtain ⟨DC, CC, uC, tC⟩ := zy2 cA.out) | ((with_reducible refine zgc 36 ?_); refine zgo (some 29) Try.func36 #[.agg #[.slice A0_0 l0_0.length c0_0, .slice A0_1 l0_1.length c0_1]] ?_; (with_reducible refine (laws_toFrame.calls k _ _ l0_0 _ _ l0_1 NE ME _ (zC yA.out HB.out) AA.out (zC xA.out HB.out) zA.out dJ.out).mono ?_); rintro e WH ⟨qI, pI, rfl, GA, dD, hb⟩; refine ⟨_, rfl, ?_⟩; have NA := zQ (Kd.R_lower GA (below_size (zB2 HB.out gA.out))); have MA := zQ (Kd.R_lower dD (below_size (zB2 HB.out gA.out))); replace cA := zbl cA.out hb; replace HB := zbs2 HB.out gA.out hb; (try clear hb); (try clear GA); (try clear dD)) | ((with_reducible refine zgc 48 ?_); refine zgo (some 31) Try.func48 #[.slice A1 l1.length c1] ?_; (with_reducible refine (laws_toPullSS.calls k _ _ l1 uD _ (zC eC.out HB.out) gC.out cJ.out).mono ?_); rintro e xJ ⟨oI, rfl, GA, hb⟩; refine ⟨_, rfl, ?_⟩; have UA := zQ (Kd.S_lower GA (below_size (zB2 HB.out gA.out))); replace NA := zRb NA.out hb; replace MA := zRb MA.out hb; replace cA := zbl cA.out hb; replace HB := zbs2 HB.out gA.out hb; (try clear hb); (try clear GA); obtain ⟨tH, hH, WG⟩ := Kd.R_slice NA.out; subst WG; obtain ⟨sH, gH, VG⟩ := Kd.R_slice MA.out; subst VG; obtain ⟨rH, fH, UG⟩ := Kd.S_slice UA.out; subst UG) | ((with_reducible refine zgc 61 ?_); refine zgo (some 32) Try.func61 #[.agg #[.slice tH NE.length hH, .slice sH ME.length gH], .slice rH uD.length fH] ?_; (with_reducible refine (spec_NeededStays.calls k _ _ NE _ _ ME _ _ uD XB lD _ ?side1 ((Kd.R_reads' NA.out).2.1) ?side3 ((Kd.R_reads' MA.out).2.1) ?side5 ((Kd.S_reads' UA.out).2.1) bJ.out).mono ?_); (case side1 => exact zk (Kd.R_reads' NA.out).2.2); (case side3 => exact zk (Kd.R_reads' MA.out).2.2); (case side5 => repeat (first | exact (Kd.S_reads' UA.out).2.2 | (with_reducible refine Kd.C_alloc ?_ _) | (with_reducible refine Kd.C_drewN ?_ _) | (with_reducible refine Kd.C_drew ?_))); rintro e wJ ⟨jB, rfl, GA, hb⟩; refine ⟨_, rfl, ?_⟩; have WA := zQ (Kd.R_lower GA (below_size (zB2 HB.out gA.out))); replace NA := zRb NA.out hb; replace MA := zRb MA.out hb; replace UA := zQ (Kd.S_below (zS UA.out) hb); replace cA := zbl cA.out hb; replace HB := zbs2 HB.out gA.out hb; (try clear hb); (try clear GA); obtain ⟨BC, AC, sC, rC⟩ := zy2 cA.out) | ((with_reducible refine zgc 36 ?_); refine zgo (some 36) Try.func36 #[.agg #[.slice A0_0 l0_0.length c0_0, .slice A0_1 l0_1.length c0_1]] ?_; (with_reducible refine (laws_toFrame.calls k _ _ l0_0 _ _ l0_1 tA vA _ (zC yA.out HB.out) AA.out (zC xA.out HB.out) zA.out aJ.out).mono ?_); rintro e vJ ⟨nI, mI, rfl, GA, dD, hb⟩; refine ⟨_, rfl, ?_⟩; have hB := zQ (Kd.R_lower (Kd.R_new' GA (Kd.R_lt (zR NA.out))) (below_size (zB2 HB.out gA.out))); have gB := zQ (Kd.R_lower (Kd.R_new' dD (Kd.R_lt (zR MA.out))) (below_size (zB2 HB.out gA.out))); replace NA := zQ (Kd.R_elder' (zR NA.out) (Kd.R_base GA) hb); replace MA := zQ (Kd.R_elder' (zR MA.out) (Kd.R_base dD) hb); replace UA := zQ (Kd.S_below (zS UA.out) hb); replace WA := zRb WA.out hb; replace cA := zbl cA.out hb; replace HB := zbs2 HB.out gA.out hb; (try clear hb); (try clear GA); (try clear dD)) | ((with_reducible refine zd 8 ?_); refine zbx (N := 8) (cs := #[.slice none 0 0, .slice none 0 0]) (t := 27) ?_; intro lA hg VH JA hb; have eA := zQ (JA); have dG := zgz2 hg HB.out gA.out; have oA := dG; have VA := zn1 hg cA.out; have yB := zn2 hg cA.out; replace NA := zRb NA.out hb; replace MA := zRb MA.out hb; replace UA := zQ (Kd.S_below (zS UA.out) hb); replace WA := zRb WA.out hb; replace hB := zRb hB.out hb; replace gB := zRb gB.out hb; replace cA := zbl cA.out hb; replace HB := zbs2 HB.out gA.out hb; clear hb JA hg; obtain ⟨DA, CA, TG⟩ := Kd.R_slice hB.out; subst TG; have CH := yB.out; have zH := VA.out; obtain ⟨yC, xC, qC, pC⟩ := zy2 eA.out; obtain ⟨FA, EA, SG⟩ := Kd.R_slice gB.out; subst SG) | ((with_reducible refine zgc 48 ?_); refine zgo (some 38) Try.func48 #[.slice A1 l1.length c1] ?_; (with_reducible refine (laws_toPullSS.calls k _ _ l1 fB _ (Kd.C_below eC.out (zB3 HB.out gA.out oA.out)) gC.out ZI.out).mono ?_); rintro e TH ⟨lI, rfl, GA, hb⟩; refine ⟨_, rfl, ?_⟩; have fC := zQ (Kd.S_lower (Kd.S_new' GA (Kd.S_lt (by (with_reducible repeat (first | apply Kd.S_alloc | apply Kd.S_drewN | apply Kd.S_drew)); exact (Kd.S_mono (Kd.S_far (p := ⟨lA, 1, none⟩) (Kd.S_far (p := ⟨lA, 0, none⟩) (Kd.S_types UA.out eA.out (by decide)) (fun _ hk => hk.2) (.slice DA tA.length CA)) (fun _ hk => hk.2) (.slice FA vA.length EA)) (fun _ h_ => h_.1))))) (below_size (zB3 HB.out gA.out oA.out))); replace NA := zQ (Kd.R_below (by (with_reducible repeat (first | apply Kd.R_alloc | apply Kd.R_drewN | apply Kd.R_drew)); exact (Kd.R_mono (Kd.R_far (p := ⟨lA, 1, none⟩) (Kd.R_far (p := ⟨lA, 0, none⟩) (Kd.R_types NA.out eA.out (by decide)) (fun _ hk => hk.2) (.slice DA tA.length CA)) (fun _ hk => hk.2) (.slice FA vA.length EA)) (fun _ h_ => h_.1))) hb); replace MA := zQ (Kd.R_below (by (with_reducible repeat (first | apply Kd.R_alloc | apply Kd.R_drewN | apply Kd.R_drew)); exact (Kd.R_mono (Kd.R_far (p := ⟨lA, 1, none⟩) (Kd.R_far (p := ⟨lA, 0, none⟩) (Kd.R_types MA.out eA.out (by decide)) (fun _ hk => hk.2) (.slice DA tA.length CA)) (fun _ hk => hk.2) (.slice FA vA.length EA)) (fun _ h_ => h_.1))) hb); replace UA := zQ (Kd.S_elder' (by (with_reducible repeat (first | apply Kd.S_alloc | apply Kd.S_drewN | apply Kd.S_drew)); exact (Kd.S_mono (Kd.S_far (p := ⟨lA, 1, none⟩) (Kd.S_far (p := ⟨lA, 0, none⟩) (Kd.S_types UA.out eA.out (by decide)) (fun _ hk => hk.2) (.slice DA tA.length CA)) (fun _ hk => hk.2) (.slice FA vA.length EA)) (fun _ h_ => h_.1))) (Kd.S_base GA) hb); replace WA := zQ (Kd.R_below (by (with_reducible repeat (first | apply Kd.R_alloc | apply Kd.R_drewN | apply Kd.R_drew)); exact (Kd.R_mono (Kd.R_far (p := ⟨lA, 1, none⟩) (Kd.R_far (p := ⟨lA, 0, none⟩) (Kd.R_types WA.out eA.out (by decide)) (fun _ hk => hk.2) (.slice DA tA.length CA)) (fun _ hk => hk.2) (.slice FA vA.length EA)) (fun _ h_ => h_.1))) hb); replace hB := zQ (Kd.R_below (by (with_reducible repeat (first | apply Kd.R_alloc | apply Kd.R_drewN | apply Kd.R_drew)); exact (Kd.R_mono (Kd.R_far (p := ⟨lA, 1, none⟩) (Kd.R_far (p := ⟨lA, 0, none⟩) (Kd.R_types hB.out eA.out (by decide)) (fun _ hk => hk.2) (.slice DA tA.length CA)) (fun _ hk => hk.2) (.slice FA vA.length EA)) (fun _ h_ => h_.1))) hb); replace gB := zQ (Kd.R_below (by (with_reducible repeat (first | apply Kd.R_alloc | apply Kd.R_drewN | apply Kd.R_drew)); exact (Kd.R_mono (Kd.R_far (p := ⟨lA, 1, none⟩) (Kd.R_far (p := ⟨lA, 0, none⟩) (Kd.R_types gB.out eA.out (by decide)) (fun _ hk => hk.2) (.slice DA tA.length CA)) (fun _ hk => hk.2) (.slice FA vA.length EA)) (fun _ h_ => h_.1))) hb); replace cA := zQ (blk_below (g := IA) (o := .cells #[.slice A0_0 l0_0.length c0_0, .slice A0_1 l0_1.length c0_1] 54 (0, 0)) (by refine zb ?_; refine blk_far ?_ VA.out _; refine zb ?_; refine blk_far ?_ VA.out _; refine zb ?_; exact cA.out) hb); replace eA := zQ (blk_below (g := lA) (o := .cells #[.slice DA tA.length CA, .slice FA vA.length EA] 27 (0, 0)) (by refine zb ?_; refine blk_put (cs := #[.slice DA tA.length CA, .slice none 0 0]) ?_ 1 _ rfl; refine zb ?_; refine blk_put (cs := #[.slice none 0 0, .slice none 0 0]) ?_ 0 _ rfl; refine zb ?_; exact eA.out) hb); replace HB := zQ (below_step (zB3 HB.out gA.out oA.out) hb); (try clear hb); (try clear GA); obtain ⟨wC, vC, oC, nC⟩ := zy2 eA.out; obtain ⟨qD, oD, QG⟩ := Kd.S_slice fC.out; subst QG) | ((with_reducible refine zgc 62 ?_); refine zgo (some 42) Try.func62 #[.agg #[.slice DA tA.length CA, .slice FA vA.length EA], .slice qD fB.length oD] ?_; (with_reducible refine (impl_NeededStays.calls k _ _ tA _ _ vA _ _ fB eB JD _ ?side1 ((Kd.R_reads' hB.out).2.1) ?side3 ((Kd.R_reads' gB.out).2.1) ?side5 ((Kd.S_reads' fC.out).2.1) YI.out).mono ?_); (case side1 => exact zk (Kd.R_reads' hB.out).2.2); (case side3 => exact zk (Kd.R_reads' gB.out).2.2); (case side5 => repeat (first | exact (Kd.S_reads' fC.out).2.2 | (with_reducible refine Kd.C_alloc ?_ _) | (with_reducible refine Kd.C_drewN ?_ _) | (with_reducible refine Kd.C_drew ?_))); rintro e rJ ⟨iB, rfl, GA, hb⟩; refine ⟨_, rfl, ?_⟩; have kD := zQ (Kd.R_lower (Kd.R_new' GA (Kd.R_lt (zR WA.out))) (below_size (zB3 HB.out gA.out oA.out))); replace NA := zRb NA.out hb; replace MA := zRb MA.out hb; replace UA := zQ (Kd.S_below (zS UA.out) hb); replace WA := zQ (Kd.R_elder' (zR WA.out) (Kd.R_base GA) hb); replace hB := zRb hB.out hb; replace gB := zRb gB.out hb; replace fC := zQ (Kd.S_below (zS fC.out) hb); replace cA := zbl cA.out hb; replace eA := zbl eA.out hb; replace HB := zQ (below_step (zB3 HB.out gA.out oA.out) hb); (try clear hb); (try clear GA)))
   (try simp only [Act.put, List.setIfInBounds_toArray, List.set_cons_zero, List.set_cons_succ])
   go_cut [53] (fun dI wc => ∃ (kq : Nat) (iC : Bool), dI = .bool iC ∧ Aside0 (laws_FnExactNeededStays.j0 kq l1 XB lD fB eB JD iC l0_0 l0_1 tA vA = some r) ∧ Aside0 (kq ≤ k) ∧ Aside0 (Kd.R (Kd.int .i64) 2 wc w.heap.size (fun k_ => some k_ ≠ (iB : Value).ownBlock) jB XB) ∧ Aside0 (Kd.S (Kd.slice 113 k113) 28 wc w.heap.size (fun _ => True) (.slice qD fB.length oD) fB) ∧ Aside0 (Kd.R (Kd.int .i64) 2 wc w.heap.size (fun k_ => some k_ ≠ (jB : Value).ownBlock) iB eB) ∧ Aside0 (Kd.R k164 164 wc w.heap.size (fun _ => True) (.slice DA tA.length CA) tA) ∧ Aside0 (Kd.R k115 115 wc w.heap.size (fun _ => True) (.slice FA vA.length EA) vA) ∧ Aside0 (wc.heap[IA]? = some (.cells #[(.slice A0_0 l0_0.length c0_0), (.slice A0_1 l0_1.length c0_1)] 54 (0, 0))) ∧ Aside0 (wc.heap[lA]? = some (.cells #[(.slice DA tA.length CA), (.slice FA vA.length EA)] 27 (0, 0))) ∧ Aside0 (Below w.heap.size w wc))
   case first =>
    have H := jF.out; clear jF; replace H := zob H; obtain ⟨LE, XI, H⟩ := H
    by_cases cF : LE = true
    ·subst cF
     rw [if_pos rfl] at H; have H' := zQ H; clear H; obtain ⟨pH, dH, PG⟩ := Kd.R_slice kD.out; subst PG; obtain ⟨kF, YE, TE⟩ := Kd.R_slice WA.out; subst TE
     go_wp2_with (first | ((with_reducible refine zgc 41 ?_); refine zgo (some 47) Try.func41 #[.slice pH eB.length dH, .slice kF XB.length YE] ?_; (with_reducible refine (laws_eqInt64S.calls k _ _ eB _ _ XB true _ ?side1 ((Kd.R_reads' kD.out).2.1) ?side3 ((Kd.R_reads' WA.out).2.1) XI.out).mono ?_); (case side1 => exact zk (Kd.R_reads' kD.out).2.2); (case side3 => exact zk (Kd.R_reads' WA.out).2.2); rintro e w' ⟨rfl, ⟨nd, rfl⟩⟩; refine ⟨_, rfl, ?_⟩))
     go_meet
     case rel => exact ⟨_, ((JD != lD)), (zF), H', ⟨by first | omega | exact Nat.le_refl _⟩, ⟨by (with_reducible repeat (first | apply Kd.R_alloc | apply Kd.R_drewN | apply Kd.R_drew)); exact Kd.R_mono WA.out (fun _ hk => hk.2)⟩, ⟨by (with_reducible repeat (first | apply Kd.S_alloc | apply Kd.S_drewN | apply Kd.S_drew)); exact Kd.S_mono fC.out (fun _ hk => trivial)⟩, ⟨by (with_reducible repeat (first | apply Kd.R_alloc | apply Kd.R_drewN | apply Kd.R_drew)); exact Kd.R_mono kD.out (fun _ hk => hk.2)⟩, ⟨by (with_reducible repeat (first | apply Kd.R_alloc | apply Kd.R_drewN | apply Kd.R_drew)); exact Kd.R_mono hB.out (fun _ hk => trivial)⟩, ⟨by (with_reducible repeat (first | apply Kd.R_alloc | apply Kd.R_drewN | apply Kd.R_drew)); exact Kd.R_mono gB.out (fun _ hk => trivial)⟩, ⟨zb cA.out⟩, ⟨zb eA.out⟩, ⟨zB3 HB.out gA.out oA.out⟩⟩
    ·replace cF := Bool.eq_false_iff.mpr cF
     subst cF
     rw [if_neg Bool.false_ne_true] at H
     exact (laws_FnExactNeededStays.j0_cut _ _ _ _ _ _ _ _ _ _ _ _ H HRT.out).elim
   case rest =>
    clear jF; (try clear c1); (try clear p2); (try clear c3); (try clear c4); (try clear YB); (try clear c6); (try clear c9); (try clear dE); (try clear MH); (try clear GH); (try clear FH); (try clear EH); (try clear cF); (try clear DH); (try clear uB tB qB pB); (try clear sB rB oB nB); (try clear DC CC uC tC); (try clear BC AC sC rC); (try clear yC xC qC pC); (try clear wC vC oC nC); (try clear WC VC UC TC); obtain ⟨kq, iC, rfl, HA, cG, rA, KA, fA, bA, aA, cA, eA, HB⟩ := hcut
    cases kq with
    | zero => exact absurd HA.out (by simp [laws_FnExactNeededStays.j0])
    | succ GC =>
     have H := HA.out; clear HA
     simp only [laws_FnExactNeededStays.j0] at H
     by_cases qF : iC = true
     ·subst qF
      rw [if_pos rfl] at H; obtain rfl := Option.some.inj H
      exact absurd HRT.out (by decide)
     ·replace qF := Bool.eq_false_iff.mpr qF
      subst qF
      rw [if_neg Bool.false_ne_true] at H; replace H := zob H; obtain ⟨⟨wB, vB⟩, WI, H⟩ := H; replace H := zob H; obtain ⟨KE, VI, H⟩ := H
      by_cases pF : KE = true
      ·subst pF
       rw [if_pos rfl] at H; replace H := zob H; obtain ⟨dB, UI, H⟩ := H; replace H := zob H; obtain ⟨JE, TI, H⟩ := H
       by_cases nF : JE = true
       ·subst nF
        rw [if_pos rfl] at H; replace H := zob H; obtain ⟨⟨IE, tD, sD⟩, SI, H⟩ := H; replace H := zob H; obtain ⟨⟨CF, FG⟩, RI, H⟩ := H; have hF := zQ H; clear H
        try go_wp2
        have n0_ := zQ (Kd.R_drew rA.out); have n1_ := zQ (Kd.S_drew KA.out); have n2_ := zQ (Kd.R_drew fA.out); have n3_ := zQ (Kd.R_drew bA.out); have n4_ := zQ (Kd.R_drew aA.out); have n5_ := zQ (blk_drew cA.out); have n6_ := zQ (blk_drew eA.out); have n7_ := zQ (below_drew1 HB.out); clear rA; clear KA; clear fA; clear bA; clear aA; clear cA; clear eA; clear HB; have rA := n0_; have KA := n1_; have fA := n2_; have bA := n3_; have aA := n4_; have cA := n5_; have eA := n6_; have HB := n7_; clear n0_ n1_ n2_ n3_ n4_ n5_ n6_ n7_
        refine zs (fun w' => w'.cell? ⟨lA, 0, none⟩ = some (.slice DA tA.length CA) ∧ w'.cell? ⟨lA, 1, none⟩ = some (.slice FA vA.length EA) ∧ w'.cell? ⟨IA, 0, none⟩ = some (.slice A0_0 l0_0.length c0_0) ∧ w'.cell? ⟨IA, 1, none⟩ = some (.slice A0_1 l0_1.length c0_1)) [] 5 ⟨(blk_cell eA.out 0).trans rfl, (blk_cell eA.out 1).trans rfl, (blk_cell cA.out 0).trans rfl, (blk_cell cA.out 1).trans rfl⟩ (fun QA => ?_)
        generalize wc.drew = oJ at rA KA fA bA aA cA eA HB QA ⊢
        refine zt 0 54 QA ?_
        refine zt 1 55 QA ?_
        refine zo 2 (some 56) (fun K hK => ?_)
        refine goes_ Try.func36 (by kernel_rfl) rfl #[.agg #[.slice A0_0 l0_0.length c0_0, .slice A0_1 l0_1.length c0_1]] (by rfl) rfl rfl zM ?_
        with_reducible refine (laws_toFrame.calls GC _ _ l0_0 _ _ l0_1 wB vB _ ?side1 ?side2 ?side3 ?side4 WI.out).mono ?_
        (case side1 => exact zC yA.out HB.out)
        (case side2 => exact AA.out)
        (case side3 => exact zC xA.out HB.out)
        (case side4 => exact zA.out)
        rintro e nJ ⟨kI, jI, rfl, GA, dD, hb⟩
        refine ⟨_, rfl, ?_⟩
        have n0_ := zRb rA.out hb; have n1_ := zQ (Kd.S_below (zS KA.out) hb); have n2_ := zRb fA.out hb; have n3_ := zQ (Kd.R_elder' (zR bA.out) (Kd.R_base GA) hb); have n4_ := zQ (Kd.R_elder' (zR aA.out) (Kd.R_base dD) hb); have n5_ := zQ (Kd.R_lower (Kd.R_new' GA (Kd.R_lt (zR bA.out))) (below_size (zB3 HB.out gA.out oA.out))); have n6_ := zQ (Kd.R_lower (Kd.R_new' dD (Kd.R_lt (zR aA.out))) (below_size (zB3 HB.out gA.out oA.out))); have n7_ := zbl cA.out hb; have n8_ := zbl eA.out hb; have n9_ := zQ (below_step (zB3 HB.out gA.out oA.out) hb); clear rA; clear KA; clear fA; clear bA; clear aA; clear cA; clear eA; clear HB; have rA := n0_; have KA := n1_; have fA := n2_; have bA := n3_; have aA := n4_; have SA := n5_; have RA := n6_; have cA := n7_; have eA := n8_; have HB := n9_; clear n0_ n1_ n2_ n3_ n4_ n5_ n6_ n7_ n8_ n9_
        (try clear hb)
        (try clear EF)
        (try clear hk)
        (try clear hi)
        (try clear GA)
        (try clear dD)
        obtain ⟨UB, NB, GF⟩ := Kd.R_slice SA.out
        (first | subst GF | (injection GF with f1_ f2_ f3_; have f4_ := f1_.symm; have f5_ := f3_.symm; clear f1_ f2_ f3_; subst f4_; subst f5_))
        obtain ⟨TB, MB, FF⟩ := Kd.R_slice RA.out
        (first | subst FF | (injection FF with f1_ f2_ f3_; have f4_ := f1_.symm; have f5_ := f3_.symm; clear f1_ f2_ f3_; subst f4_; subst f5_))
        refine hK.out _ _ ⟨(blk_cell eA.out 0).trans rfl, (blk_cell eA.out 1).trans rfl, (blk_cell cA.out 0).trans rfl, (blk_cell cA.out 1).trans rfl⟩ (fun QA => ?_)
        clear hK K
        refine zn 56 ?_
        refine zo 3 (some 57) (fun K hK => ?_)
        refine goes_ Try.func39 (by kernel_rfl) rfl #[.agg #[.slice DA tA.length CA, .slice FA vA.length EA], .agg #[.slice UB wB.length NB, .slice TB vB.length MB]] (by rfl) rfl rfl zM ?_
        with_reducible refine (laws_eqFrame.calls GC _ _ tA _ _ vA _ _ wB _ _ vB true _ ?side1 ?side2 ?side3 ?side4 ?side5 ?side6 ?side7 ?side8 VI.out).mono ?_
        (case side1 => exact zk (Kd.R_reads' bA.out).2.2)
        (case side2 => exact (Kd.R_reads' bA.out).2.1)
        (case side3 => exact zk (Kd.R_reads' aA.out).2.2)
        (case side4 => exact (Kd.R_reads' aA.out).2.1)
        (case side5 => exact zk (Kd.R_reads' SA.out).2.2)
        (case side6 => exact (Kd.R_reads' SA.out).2.1)
        (case side7 => exact zk (Kd.R_reads' RA.out).2.2)
        (case side8 => exact (Kd.R_reads' RA.out).2.1)
        rintro e mJ ⟨rfl, hb⟩
        refine ⟨_, rfl, ?_⟩
        have n0_ := zRb rA.out hb; have n1_ := zQ (Kd.S_below (zS KA.out) hb); have n2_ := zRb fA.out hb; have n3_ := zRb bA.out hb; have n4_ := zRb aA.out hb; have n5_ := zRb SA.out hb; have n6_ := zRb RA.out hb; have n7_ := zbl cA.out hb; have n8_ := zbl eA.out hb; have n9_ := zQ (below_step (zB3 HB.out gA.out oA.out) hb); clear rA; clear KA; clear fA; clear bA; clear aA; clear SA; clear RA; clear cA; clear eA; clear HB; have rA := n0_; have KA := n1_; have fA := n2_; have bA := n3_; have aA := n4_; have SA := n5_; have RA := n6_; have cA := n7_; have eA := n8_; have HB := n9_; clear n0_ n1_ n2_ n3_ n4_ n5_ n6_ n7_ n8_ n9_
        (try clear hb)
        (try clear EF)
        (try clear hk)
        (try clear hi)
        refine hK.out _ _ ⟨(blk_cell eA.out 0).trans rfl, (blk_cell eA.out 1).trans rfl, (blk_cell cA.out 0).trans rfl, (blk_cell cA.out 1).trans rfl⟩ (fun QA => ?_)
        clear hK K
        refine zn 57 ?_
        refine zp 4 58 ?_
        refine done_ (by kernel_rfl) ?_
        go_upto_region 21 with (first | ((with_reducible refine zgc 48 ?_); refine zgo (some 61) Try.func48 #[.slice A1 l1.length c1] ?_; (with_reducible refine (laws_toPullSS.calls GC _ _ l1 dB _ (zC eC.out HB.out) gC.out UI.out).mono ?_); rintro e lJ ⟨iI, rfl, GA, hb⟩; refine ⟨_, rfl, ?_⟩; have AB := zQ (Kd.S_lower (Kd.S_new' GA (Kd.S_lt (zS KA.out))) (below_size (zB3 HB.out gA.out oA.out))); replace rA := zRb rA.out hb; replace KA := zQ (Kd.S_elder' (zS KA.out) (Kd.S_base GA) hb); replace fA := zRb fA.out hb; replace bA := zRb bA.out hb; replace aA := zRb aA.out hb; replace SA := zRb SA.out hb; replace RA := zRb RA.out hb; replace cA := zbl cA.out hb; replace eA := zbl eA.out hb; replace HB := zQ (below_step (zB3 HB.out gA.out oA.out) hb); (try clear hb); (try clear GA); obtain ⟨EB, DB, OG⟩ := Kd.S_slice AB.out; subst OG) | ((with_reducible refine zgc 50 ?_); refine zgo (some 62) Try.func50 #[.slice qD fB.length oD, .slice EB dB.length DB] ?_; (with_reducible refine (laws_eqPullSS.calls GC _ _ fB _ _ dB true _ ?side1 ((Kd.S_reads' KA.out).2.1) ?side3 ((Kd.S_reads' AB.out).2.1) TI.out).mono ?_); (case side1 => repeat (first | exact (Kd.S_reads' KA.out).2.2 | (with_reducible refine Kd.C_alloc ?_ _) | (with_reducible refine Kd.C_drewN ?_ _) | (with_reducible refine Kd.C_drew ?_))); (case side3 => repeat (first | exact (Kd.S_reads' AB.out).2.2 | (with_reducible refine Kd.C_alloc ?_ _) | (with_reducible refine Kd.C_drewN ?_ _) | (with_reducible refine Kd.C_drew ?_))); rintro e kJ ⟨rfl, hb⟩; refine ⟨_, rfl, ?_⟩; replace rA := zRb rA.out hb; replace KA := zQ (Kd.S_below (zS KA.out) hb); replace fA := zRb fA.out hb; replace bA := zRb bA.out hb; replace aA := zRb aA.out hb; replace SA := zRb SA.out hb; replace RA := zRb RA.out hb; replace AB := zQ (Kd.S_below (zS AB.out) hb); replace cA := zbl cA.out hb; replace eA := zbl eA.out hb; replace HB := zQ (below_step (zB3 HB.out gA.out oA.out) hb); (try clear hb); have BH := yB.out; have yH := VA.out; obtain ⟨iD, hD, gD, fD⟩ := zy2 eA.out) | ((with_reducible refine zgc 42 ?_); refine zgo (some 66) Try.func42 #[.agg #[.slice DA tA.length CA, .slice FA vA.length EA], .int .i64 1] ?_; (with_reducible refine (laws_markFrame.calls GC (fun k_ => some k_ = (.slice DA tA.length CA : Value).ownBlock) (.slice DA tA.length CA) tA (fun k_ => some k_ = (.slice FA vA.length EA : Value).ownBlock) (.slice FA vA.length EA) vA 1 IE tD sD w _ ?side1 (Kd.R_tight rfl bA.out) (Kd.R_tight rfl aA.out) SI.out).mono ?_); (case side1 => exact zB3 HB.out gA.out oA.out); rintro e jJ ⟨rfl, oE, wH, hb, hkp⟩; refine ⟨_, rfl, ?_⟩; replace rA := zQ (Kd.R_mono (ok' := fun k_ => some k_ ≠ (iB : Value).ownBlock) (Kd.R_keptB ((Kd.R_apart' (Kd.R_apart' rA.out (Kd.R_typed bA.out) (by decide)) (Kd.R_typed aA.out) (by decide))) hkp (fun k_ hk_ hs_ => Or.elim hs_ (fun e_ => (hk_.1.2) e_) (fun e_ => (hk_.2) e_))) (fun k_ hk_ => hk_.1.1.1)); replace KA := zQ (Kd.S_mono (ok' := fun k_ => some k_ ≠ (.slice EB dB.length DB : Value).ownBlock) (Kd.S_keptB ((Kd.S_apart' (Kd.S_apart' KA.out (Kd.R_typed bA.out) (by decide)) (Kd.R_typed aA.out) (by decide))) hkp (fun k_ hk_ hs_ => Or.elim hs_ (fun e_ => (hk_.1.2) e_) (fun e_ => (hk_.2) e_))) (fun k_ hk_ => hk_.1.1.1.2)); replace fA := zQ (Kd.R_mono (ok' := fun k_ => some k_ ≠ (jB : Value).ownBlock) (Kd.R_keptB ((Kd.R_apart' (Kd.R_apart' fA.out (Kd.R_typed bA.out) (by decide)) (Kd.R_typed aA.out) (by decide))) hkp (fun k_ hk_ hs_ => Or.elim hs_ (fun e_ => (hk_.1.2) e_) (fun e_ => (hk_.2) e_))) (fun k_ hk_ => hk_.1.1.1)); replace cA := zQ (blk_kept (zb cA.out) hkp (fun hs_ => Or.elim hs_ (fun e_ => (fun e_ => (Kd.R_ne bA.out cA.out (by decide)) e_) e_) (fun e_ => (fun e_ => (Kd.R_ne aA.out cA.out (by decide)) e_) e_))); replace eA := zQ (blk_kept (zb eA.out) hkp (fun hs_ => Or.elim hs_ (fun e_ => (fun e_ => (Kd.R_ne bA.out eA.out (by decide)) e_) e_) (fun e_ => (fun e_ => (Kd.R_ne aA.out eA.out (by decide)) e_) e_))); replace SA := zQ (Kd.R_mono (ok' := fun k_ => some k_ ≠ (.slice DA tA.length CA : Value).ownBlock) (Kd.R_keptB ((Kd.R_apart' SA.out (Kd.R_typed aA.out) (by decide))) hkp (fun k_ hk_ hs_ => Or.elim hs_ (fun e_ => (hk_.1.2) e_) (fun e_ => (hk_.2) e_))) (fun k_ hk_ => hk_.1.1.2)); replace RA := zQ (Kd.R_mono (ok' := fun k_ => some k_ ≠ (.slice FA vA.length EA : Value).ownBlock) (Kd.R_keptB ((Kd.R_apart' RA.out (Kd.R_typed bA.out) (by decide))) hkp (fun k_ hk_ hs_ => Or.elim hs_ (fun e_ => (hk_.2) e_) (fun e_ => (hk_.1.2) e_))) (fun k_ hk_ => hk_.1.1.2)); replace AB := zQ (Kd.S_mono (ok' := fun k_ => some k_ ≠ (.slice qD fB.length oD : Value).ownBlock) (Kd.S_keptB ((Kd.S_apart' (Kd.S_apart' AB.out (Kd.R_typed bA.out) (by decide)) (Kd.R_typed aA.out) (by decide))) hkp (fun k_ hk_ hs_ => Or.elim hs_ (fun e_ => (hk_.1.2) e_) (fun e_ => (hk_.2) e_))) (fun k_ hk_ => hk_.1.1.1.2)); replace bA := zQ (Kd.R_reok rfl oE (fun k_ e_ => bA.out.1 k_ e_)); replace aA := zQ (Kd.R_reok rfl wH (fun k_ e_ => aA.out.1 k_ e_)); replace HB := zQ (hb); (try clear hb); (try clear hkp); (try clear oE); (try clear wH)) | ((with_reducible refine zgc 58 ?_); refine zgo (some 69) Try.func58 #[.slice qD fB.length oD, .int .i64 IE] ?_; (with_reducible refine (laws_markPullSS.calls GC (fun k_ => ((((((((some k_ ≠ (.slice EB dB.length DB : Value).ownBlock ∧ some k_ ≠ (jB : Value).ownBlock) ∧ some k_ ≠ (iB : Value).ownBlock) ∧ some k_ ≠ (.slice DA tA.length CA : Value).ownBlock) ∧ some k_ ≠ (.slice FA vA.length EA : Value).ownBlock) ∧ some k_ ≠ (.slice UB wB.length NB : Value).ownBlock) ∧ some k_ ≠ (.slice TB vB.length MB : Value).ownBlock) ∧ k_ ≠ IA) ∧ k_ ≠ lA) ∧ w.heap.size ≤ k_) (.slice qD fB.length oD) fB IE CF FG w _ ?side1 (Kd.S_mono (Kd.S_bound (Kd.S_types (Kd.S_types (Kd.S_apart' (Kd.S_apart' (Kd.S_apart' (Kd.S_apart' (Kd.S_apart' (Kd.S_apart' (KA.out) (Kd.R_typed rA.out) (by decide)) (Kd.R_typed fA.out) (by decide)) (Kd.R_typed bA.out) (by decide)) (Kd.R_typed aA.out) (by decide)) (Kd.R_typed SA.out) (by decide)) (Kd.R_typed RA.out) (by decide)) cA.out (by decide)) eA.out (by decide))) (fun k_ hk => ⟨hk.1, hk.2.1⟩)) RI.out).mono ?_); (case side1 => exact zB3 HB.out gA.out oA.out); rintro e iJ ⟨rfl, oE, hb, hkp⟩; refine ⟨_, rfl, ?_⟩; replace rA := zQ (Kd.R_mono (ok' := fun k_ => some k_ ≠ (iB : Value).ownBlock) (Kd.R_keptB ((Kd.R_mono (Kd.R_tight2 rfl rA.out) (fun k_ hk => (⟨hk.2, fun e_ => (e_.1.1.1.1.1.1.1.1.2) hk.1⟩ : _ ∧ ¬ ((fun k_ => ((((((((some k_ ≠ (.slice EB dB.length DB : Value).ownBlock ∧ some k_ ≠ (jB : Value).ownBlock) ∧ some k_ ≠ (iB : Value).ownBlock) ∧ some k_ ≠ (.slice DA tA.length CA : Value).ownBlock) ∧ some k_ ≠ (.slice FA vA.length EA : Value).ownBlock) ∧ some k_ ≠ (.slice UB wB.length NB : Value).ownBlock) ∧ some k_ ≠ (.slice TB vB.length MB : Value).ownBlock) ∧ k_ ≠ IA) ∧ k_ ≠ lA) ∧ w.heap.size ≤ k_)) k_)))) hkp (fun k_ hk_ hs_ => (hk_.2) hs_)) (fun k_ hk_ => hk_.1.1)); replace KA := zQ (Kd.S_mono (ok' := (fun k_ => some k_ ≠ (.slice EB dB.length DB : Value).ownBlock)) oE (fun k_ hk_ => hk_.1.1.1.1.1.1.1.1.1)); replace fA := zQ (Kd.R_mono (ok' := fun k_ => some k_ ≠ (jB : Value).ownBlock) (Kd.R_keptB ((Kd.R_mono (Kd.R_tight2 rfl fA.out) (fun k_ hk => (⟨hk.2, fun e_ => (e_.1.1.1.1.1.1.1.2) hk.1⟩ : _ ∧ ¬ ((fun k_ => ((((((((some k_ ≠ (.slice EB dB.length DB : Value).ownBlock ∧ some k_ ≠ (jB : Value).ownBlock) ∧ some k_ ≠ (iB : Value).ownBlock) ∧ some k_ ≠ (.slice DA tA.length CA : Value).ownBlock) ∧ some k_ ≠ (.slice FA vA.length EA : Value).ownBlock) ∧ some k_ ≠ (.slice UB wB.length NB : Value).ownBlock) ∧ some k_ ≠ (.slice TB vB.length MB : Value).ownBlock) ∧ k_ ≠ IA) ∧ k_ ≠ lA) ∧ w.heap.size ≤ k_)) k_)))) hkp (fun k_ hk_ hs_ => (hk_.2) hs_)) (fun k_ hk_ => hk_.1.1)); replace bA := zQ (Kd.R_mono (ok' := fun k_ => some k_ ≠ (.slice UB wB.length NB : Value).ownBlock) (Kd.R_keptB ((Kd.R_mono (Kd.R_tight2 rfl bA.out) (fun k_ hk => (⟨hk.2, fun e_ => (e_.1.1.1.1.1.1.2) hk.1⟩ : _ ∧ ¬ ((fun k_ => ((((((((some k_ ≠ (.slice EB dB.length DB : Value).ownBlock ∧ some k_ ≠ (jB : Value).ownBlock) ∧ some k_ ≠ (iB : Value).ownBlock) ∧ some k_ ≠ (.slice DA tA.length CA : Value).ownBlock) ∧ some k_ ≠ (.slice FA vA.length EA : Value).ownBlock) ∧ some k_ ≠ (.slice UB wB.length NB : Value).ownBlock) ∧ some k_ ≠ (.slice TB vB.length MB : Value).ownBlock) ∧ k_ ≠ IA) ∧ k_ ≠ lA) ∧ w.heap.size ≤ k_)) k_)))) hkp (fun k_ hk_ hs_ => (hk_.2) hs_)) (fun k_ hk_ => hk_.1.1.2)); replace aA := zQ (Kd.R_mono (ok' := fun k_ => some k_ ≠ (.slice TB vB.length MB : Value).ownBlock) (Kd.R_keptB ((Kd.R_mono (Kd.R_tight2 rfl aA.out) (fun k_ hk => (⟨hk.2, fun e_ => (e_.1.1.1.1.1.2) hk.1⟩ : _ ∧ ¬ ((fun k_ => ((((((((some k_ ≠ (.slice EB dB.length DB : Value).ownBlock ∧ some k_ ≠ (jB : Value).ownBlock) ∧ some k_ ≠ (iB : Value).ownBlock) ∧ some k_ ≠ (.slice DA tA.length CA : Value).ownBlock) ∧ some k_ ≠ (.slice FA vA.length EA : Value).ownBlock) ∧ some k_ ≠ (.slice UB wB.length NB : Value).ownBlock) ∧ some k_ ≠ (.slice TB vB.length MB : Value).ownBlock) ∧ k_ ≠ IA) ∧ k_ ≠ lA) ∧ w.heap.size ≤ k_)) k_)))) hkp (fun k_ hk_ hs_ => (hk_.2) hs_)) (fun k_ hk_ => hk_.1.1.2)); replace cA := zQ (blk_kept (g := IA) (o := .cells #[.slice A0_0 l0_0.length c0_0, .slice A0_1 l0_1.length c0_1] 54 (0, 0)) (zb cA.out) hkp (fun hs_ => (fun (e_ : (fun k_ => ((((((((some k_ ≠ (.slice EB dB.length DB : Value).ownBlock ∧ some k_ ≠ (jB : Value).ownBlock) ∧ some k_ ≠ (iB : Value).ownBlock) ∧ some k_ ≠ (.slice DA tA.length CA : Value).ownBlock) ∧ some k_ ≠ (.slice FA vA.length EA : Value).ownBlock) ∧ some k_ ≠ (.slice UB wB.length NB : Value).ownBlock) ∧ some k_ ≠ (.slice TB vB.length MB : Value).ownBlock) ∧ k_ ≠ IA) ∧ k_ ≠ lA) ∧ w.heap.size ≤ k_) IA) => (e_.1.1.2) rfl) hs_)); replace eA := zQ (blk_kept (g := lA) (o := .cells #[.slice DA tA.length CA, .slice FA vA.length EA] 27 (0, 0)) (zb eA.out) hkp (fun hs_ => (fun (e_ : (fun k_ => ((((((((some k_ ≠ (.slice EB dB.length DB : Value).ownBlock ∧ some k_ ≠ (jB : Value).ownBlock) ∧ some k_ ≠ (iB : Value).ownBlock) ∧ some k_ ≠ (.slice DA tA.length CA : Value).ownBlock) ∧ some k_ ≠ (.slice FA vA.length EA : Value).ownBlock) ∧ some k_ ≠ (.slice UB wB.length NB : Value).ownBlock) ∧ some k_ ≠ (.slice TB vB.length MB : Value).ownBlock) ∧ k_ ≠ IA) ∧ k_ ≠ lA) ∧ w.heap.size ≤ k_) lA) => (e_.1.2) rfl) hs_)); replace SA := zQ (Kd.R_mono (ok' := fun k_ => some k_ ≠ (.slice DA tA.length CA : Value).ownBlock) (Kd.R_keptB ((Kd.R_mono (Kd.R_tight2 rfl SA.out) (fun k_ hk => (⟨hk.2, fun e_ => (e_.1.1.1.1.2) hk.1⟩ : _ ∧ ¬ ((fun k_ => ((((((((some k_ ≠ (.slice EB dB.length DB : Value).ownBlock ∧ some k_ ≠ (jB : Value).ownBlock) ∧ some k_ ≠ (iB : Value).ownBlock) ∧ some k_ ≠ (.slice DA tA.length CA : Value).ownBlock) ∧ some k_ ≠ (.slice FA vA.length EA : Value).ownBlock) ∧ some k_ ≠ (.slice UB wB.length NB : Value).ownBlock) ∧ some k_ ≠ (.slice TB vB.length MB : Value).ownBlock) ∧ k_ ≠ IA) ∧ k_ ≠ lA) ∧ w.heap.size ≤ k_)) k_)))) hkp (fun k_ hk_ hs_ => (hk_.2) hs_)) (fun k_ hk_ => hk_.1.1)); replace RA := zQ (Kd.R_mono (ok' := fun k_ => some k_ ≠ (.slice FA vA.length EA : Value).ownBlock) (Kd.R_keptB ((Kd.R_mono (Kd.R_tight2 rfl RA.out) (fun k_ hk => (⟨hk.2, fun e_ => (e_.1.1.1.2) hk.1⟩ : _ ∧ ¬ ((fun k_ => ((((((((some k_ ≠ (.slice EB dB.length DB : Value).ownBlock ∧ some k_ ≠ (jB : Value).ownBlock) ∧ some k_ ≠ (iB : Value).ownBlock) ∧ some k_ ≠ (.slice DA tA.length CA : Value).ownBlock) ∧ some k_ ≠ (.slice FA vA.length EA : Value).ownBlock) ∧ some k_ ≠ (.slice UB wB.length NB : Value).ownBlock) ∧ some k_ ≠ (.slice TB vB.length MB : Value).ownBlock) ∧ k_ ≠ IA) ∧ k_ ≠ lA) ∧ w.heap.size ≤ k_)) k_)))) hkp (fun k_ hk_ hs_ => (hk_.2) hs_)) (fun k_ hk_ => hk_.1.1)); replace HB := zQ (hb); clear AB; (try clear hb); (try clear hkp); (try clear oE)))
        (try simp only [Act.put, List.setIfInBounds_toArray, List.set_cons_zero, List.set_cons_succ])
        go_cut [82] (fun cI wc => ∃ (kq : Nat) (hC : Bool), cI = .bool hC ∧ Aside0 (laws_FnExactNeededStays.j1 kq l1 XB lD eB hC l0_0 l0_1 = some r) ∧ Aside0 (kq ≤ GC) ∧ Aside0 (Kd.R (Kd.int .i64) 2 wc w.heap.size (fun k_ => some k_ ≠ (iB : Value).ownBlock) jB XB) ∧ Aside0 (Kd.R (Kd.int .i64) 2 wc w.heap.size (fun k_ => some k_ ≠ (jB : Value).ownBlock) iB eB) ∧ Aside0 (Kd.R k164 164 wc w.heap.size (fun _ => True) (.slice DA tA.length CA) tD) ∧ Aside0 (Kd.R k115 115 wc w.heap.size (fun _ => True) (.slice FA vA.length EA) sD) ∧ Aside0 (wc.heap[IA]? = some (.cells #[(.slice A0_0 l0_0.length c0_0), (.slice A0_1 l0_1.length c0_1)] 54 (0, 0))) ∧ Aside0 (wc.heap[lA]? = some (.cells #[(.slice DA tA.length CA), (.slice FA vA.length EA)] 27 (0, 0))) ∧ Aside0 (Below w.heap.size w wc))
        case first =>
         have H := hF.out; clear hF
         by_cases uE : CF < 0
         ·rw [if_pos uE] at H
          have PB := decide_eq_true uE; clear uE
          (first | rw [PB] | (simp only [i64_w, i32_w]; rw [PB]) | skip)
          exact (laws_FnExactNeededStays.j1_cut _ _ _ _ _ _ _ _ H HRT.out).elim
         ·rw [if_neg uE] at H
          have PB := decide_eq_false uE; clear uE
          (first | rw [PB] | (simp only [i64_w, i32_w]; rw [PB]) | skip)
          replace H := zob H; obtain ⟨HE, QI, H⟩ := H
          by_cases mF : HE = true
          ·subst mF
           rw [if_pos rfl] at H; have H' := zQ H; clear H; obtain ⟨II, zI, NG⟩ := Kd.R_slice fA.out; subst NG; obtain ⟨HI, yI, MG⟩ := Kd.R_slice rA.out; subst MG
           go_wp2_with (first | (go_at_call 41; (with_reducible refine (laws_eqInt64S.calls GC _ _ eB _ _ XB true _ ?side1 ((Kd.R_reads' fA.out).2.1) ?side3 ((Kd.R_reads' rA.out).2.1) QI.out).mono ?_); (case side1 => exact zk (Kd.R_reads' fA.out).2.2); (case side3 => exact zk (Kd.R_reads' rA.out).2.2); rintro e w' ⟨rfl, ⟨nd, rfl⟩⟩))
           go_meet
           case rel => exact ⟨_, ((JD != lD)), (zF), H', ⟨by have := cG.out; first | omega | exact Nat.le_refl _⟩, ⟨zR rA.out⟩, ⟨zR fA.out⟩, ⟨by (with_reducible repeat (first | apply Kd.R_alloc | apply Kd.R_drewN | apply Kd.R_drew)); exact Kd.R_mono bA.out (fun _ hk => trivial)⟩, ⟨by (with_reducible repeat (first | apply Kd.R_alloc | apply Kd.R_drewN | apply Kd.R_drew)); exact Kd.R_mono aA.out (fun _ hk => trivial)⟩, ⟨zb cA.out⟩, ⟨zb eA.out⟩, ⟨zB3 HB.out gA.out oA.out⟩⟩
          ·replace mF := Bool.eq_false_iff.mpr mF
           subst mF
           rw [if_neg Bool.false_ne_true] at H
           exact (laws_FnExactNeededStays.j1_cut _ _ _ _ _ _ _ _ H HRT.out).elim
        case rest =>
         clear hF; (try clear c1); (try clear p2); (try clear c3); (try clear c4); (try clear YB); (try clear c5); (try clear c6); (try clear c7); (try clear c9); (try clear dE); (try clear MH); (try clear GH); (try clear FH); (try clear FI); (try clear EH); (try clear cF); (try clear DH); (try clear qF); (try clear EI); (try clear pF); (try clear nF); (try clear DI); (try clear CI); (try clear BI); (try clear AI); (try clear uE); (try clear PB); (try clear mF); (try clear uB tB qB pB); (try clear sB rB oB nB); (try clear DC CC uC tC); (try clear BC AC sC rC); (try clear yC xC qC pC); (try clear wC vC oC nC); (try clear iD hD gD fD); (try clear WC VC UC TC); (try clear p2); obtain ⟨kq, hC, rfl, HA, kH, rA, fA, bA, aA, cA, eA, HB⟩ := hcut; have iA := (Kd.R_reads' bA.out).1; rw [iA] at bA
         (try simp only [iA])
         (try simp only [iA] at cA)
         (try simp only [iA] at eA)
         (try simp only [iA] at rA)
         (try simp only [iA] at fA)
         (try simp only [iA] at aA)
         have hA := (Kd.R_reads' aA.out).1; rw [hA] at aA
         (try simp only [hA])
         (try simp only [hA] at cA)
         (try simp only [hA] at eA)
         (try simp only [hA] at rA)
         (try simp only [hA] at fA)
         (try simp only [hA] at bA)
         cases kq with
         | zero => exact absurd HA.out (by simp [laws_FnExactNeededStays.j1])
         | succ RC =>
          have H := HA.out; clear HA
          simp only [laws_FnExactNeededStays.j1] at H
          by_cases NF : hC = true
          ·subst NF
           rw [if_pos rfl] at H; obtain rfl := Option.some.inj H
           exact absurd HRT.out (by decide)
          ·replace NF := Bool.eq_false_iff.mpr NF
           subst NF
           rw [if_neg Bool.false_ne_true] at H; replace H := zob H; obtain ⟨⟨CB, mC⟩, PI, H⟩ := H; replace H := zob H; obtain ⟨WB, OI, H⟩ := H
           by_cases bF : WB < 0
           ·rw [if_pos bF] at H
            have tE := decide_eq_true bF; clear bF; obtain rfl := Option.some.inj H
            exact absurd HRT.out (by decide)
           ·rw [if_neg bF] at H
            have tE := decide_eq_false bF; clear bF
            by_cases sE : WB = CB
            ·rw [if_pos sE] at H
             have rE : (WB == CB) = true := beq_iff_eq.mpr sE; have qE : (WB != CB) = false := bne_eq_false_iff_eq.mpr sE; clear sE; replace H := zob H; obtain ⟨⟨GE, FE⟩, NI, H⟩ := H; replace H := zob H; obtain ⟨rD, MI, H⟩ := H; replace H := zob H; obtain ⟨⟨EE, BF⟩, LI, H⟩ := H; have gF := zQ H; clear H; obtain ⟨ZC, XC, LG⟩ := Kd.R_slice fA.out; subst LG
             go_upto_region 32 with (first | ((with_reducible refine zgc 44 ?_); refine zgo (some 85) Try.func44 #[.slice ZC eB.length XC, .int .i64 1] ?_; (with_reducible refine (laws_markInt64S.calls RC (fun k_ => some k_ = (.slice ZC eB.length XC : Value).ownBlock) (.slice ZC eB.length XC) eB 1 CB mC w _ ?side1 (Kd.R_tight rfl fA.out) PI.out).mono ?_); (case side1 => exact zB3 HB.out gA.out oA.out); rintro e hJ ⟨rfl, oE, hb, hkp⟩; refine ⟨_, rfl, ?_⟩; replace rA := zQ (Kd.R_mono (ok' := fun k_ => some k_ ≠ (.slice ZC eB.length XC : Value).ownBlock) (Kd.R_keptB (rA.out) hkp (fun k_ hk_ hs_ => (hk_) hs_)) (fun k_ hk_ => hk_.1)); replace bA := zQ (Kd.R_mono (ok' := fun k_ => True) (Kd.R_keptB ((Kd.R_apart' bA.out (Kd.R_typed fA.out) (by decide))) hkp (fun k_ hk_ hs_ => (hk_.2) hs_)) (fun k_ hk_ => trivial)); replace aA := zQ (Kd.R_mono (ok' := fun k_ => True) (Kd.R_keptB ((Kd.R_apart' aA.out (Kd.R_typed fA.out) (by decide))) hkp (fun k_ hk_ hs_ => (hk_.2) hs_)) (fun k_ hk_ => trivial)); replace cA := zQ (blk_kept (zb cA.out) hkp (fun hs_ => (fun e_ => (Kd.R_ne fA.out cA.out (by decide)) e_) hs_)); replace eA := zQ (blk_kept (zb eA.out) hkp (fun hs_ => (fun e_ => (Kd.R_ne fA.out eA.out (by decide)) e_) hs_)); replace fA := zQ (Kd.R_reok rfl oE (fun k_ e_ => fA.out.1 k_ e_)); replace HB := zQ (hb); (try clear hb); (try clear hkp); (try clear oE)) | ((with_reducible refine zgc 45 ?_); refine goesL_ (some 88) rfl rfl Try.func45 (by kernel_rfl) rfl #[.slice ZC mC.length XC, .int .i64 1] rfl (by (try simp only [List.map_toArray, List.map_cons, List.map_nil]); first | done | (rw [show mC.length = eB.length from (Kd.R_reads' fA.out).1.symm] <;> rfl) | rfl | (simp only [List.length_drop, List.length_take]; rfl)) ?_; (with_reducible refine (laws_heldInt64S.calls RC _ _ mC 1 WB _ ?side1 ?side2 OI.out).mono ?_); (case side1 => exact zk (Kd.R_reads' fA.out).2.2); (case side2 => rw [show mC.length = eB.length from (Kd.R_reads' fA.out).1.symm]; exact (Kd.R_reads' fA.out).2.1); rintro e w' ⟨rfl, ⟨nd, rfl⟩⟩; refine ⟨_, rfl, ?_⟩; have AH := VA.out; have xH := yB.out; obtain ⟨UD, TD, MD, LD⟩ := zy2 cA.out) | ((with_reducible refine zgc 36 ?_); refine zgo (some 96) Try.func36 #[.agg #[.slice A0_0 l0_0.length c0_0, .slice A0_1 l0_1.length c0_1]] ?_; (with_reducible refine (laws_toFrame.calls RC _ _ l0_0 _ _ l0_1 GE FE _ ?side1 AA.out ?side3 zA.out NI.out).mono ?_); (case side1 => repeat (first | exact (Kd.C_below yA.out (zB3 HB.out gA.out oA.out)) | (with_reducible refine Kd.C_alloc ?_ _) | (with_reducible refine Kd.C_drewN ?_ _) | (with_reducible refine Kd.C_drew ?_))); (case side3 => repeat (first | exact (Kd.C_below xA.out (zB3 HB.out gA.out oA.out)) | (with_reducible refine Kd.C_alloc ?_ _) | (with_reducible refine Kd.C_drewN ?_ _) | (with_reducible refine Kd.C_drew ?_))); rintro e gJ ⟨hI, gI, rfl, GA, dD, hb⟩; refine ⟨_, rfl, ?_⟩; have SB := zQ (Kd.R_lower (Kd.R_new' GA (Kd.R_lt (zR bA.out))) (below_size (zB3 HB.out gA.out oA.out))); have RB := zQ (Kd.R_lower (Kd.R_new' dD (Kd.R_lt (zR aA.out))) (below_size (zB3 HB.out gA.out oA.out))); replace rA := zRb rA.out hb; replace fA := zRb fA.out hb; replace bA := zQ (Kd.R_elder' (zR bA.out) (Kd.R_base GA) hb); replace aA := zQ (Kd.R_elder' (zR aA.out) (Kd.R_base dD) hb); replace cA := zbl cA.out hb; replace eA := zbl eA.out hb; replace HB := zQ (below_step (zB3 HB.out gA.out oA.out) hb); (try clear hb); (try clear GA); (try clear dD)) | ((with_reducible refine zgc 48 ?_); refine zgo (some 98) Try.func48 #[.slice A1 l1.length c1] ?_; (with_reducible refine (laws_toPullSS.calls RC _ _ l1 rD _ (zC eC.out HB.out) gC.out MI.out).mono ?_); rintro e fJ ⟨fI, rfl, GA, hb⟩; refine ⟨_, rfl, ?_⟩; have HC := zQ (Kd.S_lower GA (below_size (zB3 HB.out gA.out oA.out))); replace rA := zRb rA.out hb; replace fA := zRb fA.out hb; replace bA := zRb bA.out hb; replace aA := zRb aA.out hb; replace SB := zRb SB.out hb; replace RB := zRb RB.out hb; replace cA := zbl cA.out hb; replace eA := zbl eA.out hb; replace HB := zQ (below_step (zB3 HB.out gA.out oA.out) hb); (try clear hb); (try clear GA); obtain ⟨oH, cH, KG⟩ := Kd.R_slice SB.out; subst KG; obtain ⟨nH, bH, JG⟩ := Kd.R_slice RB.out; subst JG; obtain ⟨mH, aH, IG⟩ := Kd.S_slice HC.out; subst IG) | ((with_reducible refine zgc 62 ?_); refine zgo (some 99) Try.func62 #[.agg #[.slice oH GE.length cH, .slice nH FE.length bH], .slice mH rD.length aH] ?_; (with_reducible refine (impl_NeededStays.calls RC _ _ GE _ _ FE _ _ rD EE BF _ ?side1 ((Kd.R_reads' SB.out).2.1) ?side3 ((Kd.R_reads' RB.out).2.1) ?side5 ((Kd.S_reads' HC.out).2.1) LI.out).mono ?_); (case side1 => exact zk (Kd.R_reads' SB.out).2.2); (case side3 => exact zk (Kd.R_reads' RB.out).2.2); (case side5 => repeat (first | exact (Kd.S_reads' HC.out).2.2 | (with_reducible refine Kd.C_alloc ?_ _) | (with_reducible refine Kd.C_drewN ?_ _) | (with_reducible refine Kd.C_drew ?_))); rintro e eJ ⟨eI, rfl, GA, hb⟩; refine ⟨_, rfl, ?_⟩; have HD := zQ (Kd.R_lower (Kd.R_new' (Kd.R_new' GA (Kd.R_lt (zR rA.out))) (Kd.R_lt (zR fA.out))) (below_size (zB3 HB.out gA.out oA.out))); replace rA := zQ (Kd.R_elder' (zR rA.out) (Kd.R_base GA) hb); replace fA := zQ (Kd.R_elder' (zR fA.out) (Kd.R_base GA) hb); replace bA := zRb bA.out hb; replace aA := zRb aA.out hb; replace SB := zRb SB.out hb; replace RB := zRb RB.out hb; replace HC := zQ (Kd.S_below (zS HC.out) hb); replace cA := zbl cA.out hb; replace eA := zbl eA.out hb; replace HB := zQ (below_step (zB3 HB.out gA.out oA.out) hb); (try clear hb); (try clear GA)))
             (try simp only [Act.put, List.setIfInBounds_toArray, List.set_cons_zero, List.set_cons_succ])
             go_cut [110] (fun EG wc => ∃ (kq : Nat) (FB : Bool), EG = .bool FB ∧ Aside0 (laws_FnExactNeededStays.j2 kq mC CB FB = some r) ∧ Aside0 (kq ≤ RC) ∧ Aside0 (Kd.R (Kd.int .i64) 2 wc w.heap.size (fun _ => True) (.slice ZC eB.length XC) mC) ∧ Aside0 (Kd.R k164 164 wc w.heap.size (fun _ => True) (.slice DA tD.length CA) tD) ∧ Aside0 (Kd.R k115 115 wc w.heap.size (fun _ => True) (.slice FA sD.length EA) sD) ∧ Aside0 (wc.heap[IA]? = some (.cells #[(.slice A0_0 l0_0.length c0_0), (.slice A0_1 l0_1.length c0_1)] 54 (0, 0))) ∧ Aside0 (wc.heap[lA]? = some (.cells #[(.slice DA tD.length CA), (.slice FA sD.length EA)] 27 (0, 0))) ∧ Aside0 (Below w.heap.size w wc))
             case first =>
              have H := gF.out; clear gF; replace H := zob H; obtain ⟨DE, KI, H⟩ := H
              by_cases MF : DE = true
              ·subst MF
               rw [if_pos rfl] at H; have H' := zQ H; clear H; obtain ⟨lH, ZG, HG⟩ := Kd.R_slice HD.out; subst HG; obtain ⟨fG, LF, JF⟩ := Kd.R_slice rA.out; subst JF
               go_wp2_with (first | ((with_reducible refine zgc 41 ?_); refine zgo (some 104) Try.func41 #[.slice lH EE.length ZG, .slice fG XB.length LF] ?_; (with_reducible refine (laws_eqInt64S.calls RC _ _ EE _ _ XB true _ ?side1 ((Kd.R_reads' HD.out).2.1) ?side3 ((Kd.R_reads' rA.out).2.1) KI.out).mono ?_); (case side1 => exact zk (Kd.R_reads' HD.out).2.2); (case side3 => exact zk (Kd.R_reads' rA.out).2.2); rintro e w' ⟨rfl, ⟨nd, rfl⟩⟩; refine ⟨_, rfl, ?_⟩))
               go_meet
               case rel => exact ⟨_, ((BF != lD)), (zF), H', ⟨by have := cG.out; have := kH.out; first | omega | exact Nat.le_refl _⟩, ⟨by (try simp only [iA]); (try simp only [hA]); (with_reducible repeat (first | apply Kd.R_alloc | apply Kd.R_drewN | apply Kd.R_drew)); exact Kd.R_mono fA.out (fun _ hk => trivial)⟩, ⟨by (try simp only [iA]); (try simp only [hA]); (with_reducible repeat (first | apply Kd.R_alloc | apply Kd.R_drewN | apply Kd.R_drew)); exact Kd.R_mono bA.out (fun _ hk => trivial)⟩, ⟨by (try simp only [iA]); (try simp only [hA]); (with_reducible repeat (first | apply Kd.R_alloc | apply Kd.R_drewN | apply Kd.R_drew)); exact Kd.R_mono aA.out (fun _ hk => trivial)⟩, ⟨by (try simp only [iA]); (try simp only [hA]); refine zb ?_; exact cA.out⟩, ⟨by (try simp only [iA]); (try simp only [hA]); refine zb ?_; exact eA.out⟩, ⟨zB3 HB.out gA.out oA.out⟩⟩
              ·replace MF := Bool.eq_false_iff.mpr MF
               subst MF
               rw [if_neg Bool.false_ne_true] at H
               exact (laws_FnExactNeededStays.j2_cut _ _ _ _ H HRT.out).elim
             case rest =>
              clear gF; (try clear c1); (try clear p2); (try clear c3); (try clear c4); (try clear YB); (try clear c5); (try clear c6); (try clear c7); (try clear c8); (try clear c9); (try clear dE); (try clear MH); (try clear GH); (try clear FH); (try clear FI); (try clear EH); (try clear cF); (try clear DJ); (try clear CJ); (try clear DH); (try clear qF); (try clear EI); (try clear pF); (try clear nF); (try clear DI); (try clear CI); (try clear BI); (try clear AI); (try clear uE); (try clear PB); (try clear mF); (try clear NF); (try clear bF); (try clear tE); (try clear sE); (try clear rE); (try clear qE); (try clear BJ); (try clear MF); (try clear uB tB qB pB); (try clear sB rB oB nB); (try clear DC CC uC tC); (try clear BC AC sC rC); (try clear yC xC qC pC); (try clear wC vC oC nC); (try clear iD hD gD fD); (try clear WC VC UC TC); (try clear UD TD MD LD); (try clear p2)
              obtain ⟨kq, FB, rfl, HA, GI, fA, bA, aA, cA, eA, HB⟩ := hcut; have cB := (Kd.R_reads' fA.out).1; rw [cB] at fA
              (try simp only [cB])
              (try simp only [cB] at cA)
              (try simp only [cB] at eA)
              (try simp only [cB] at bA)
              (try simp only [cB] at aA)
              cases kq with
              | zero => exact absurd HA.out (by simp [laws_FnExactNeededStays.j2])
              | succ GG =>
               have H := HA.out; clear HA
               simp only [laws_FnExactNeededStays.j2] at H
               by_cases gE : FB = true
               ·subst gE
                rw [if_pos rfl] at H; obtain rfl := Option.some.inj H
                exact absurd HRT.out (by decide)
               ·replace gE := Bool.eq_false_iff.mpr gE
                subst gE
                rw [if_neg Bool.false_ne_true] at H; replace H := zob H; obtain ⟨VB, uH, H⟩ := H
                by_cases pD : VB < 0
                ·rw [if_pos pD] at H
                 have fF := decide_eq_true pD; clear pD; obtain rfl := Option.some.inj H
                 exact absurd HRT.out (by decide)
                ·rw [if_neg pD] at H
                 have fF := decide_eq_false pD; clear pD
                 by_cases YC : VB = CB
                 ·rw [if_pos YC] at H
                  have eF : (VB == CB) = true := beq_iff_eq.mpr YC; have dF : (VB != CB) = false := bne_eq_false_iff_eq.mpr YC; clear YC; obtain rfl := Option.some.inj H
                  go_wp2_with (first | ((with_reducible refine zgc 45 ?_); refine zgo (some 113) Try.func45 #[.slice ZC mC.length XC, .int .i64 1] ?_; (with_reducible refine (laws_heldInt64S.calls GG _ _ mC 1 VB _ ?side1 ((Kd.R_reads' fA.out).2.1) uH.out).mono ?_); (case side1 => exact zk (Kd.R_reads' fA.out).2.2); rintro e w' ⟨rfl, ⟨nd, rfl⟩⟩; refine ⟨_, rfl, ?_⟩))
                  go_ret
                  exact ⟨zE, zB3 HB.out gA.out oA.out⟩
                 ·rw [if_neg YC] at H
                  have eF : (VB == CB) = false := beq_eq_false_iff_ne.mpr YC; have dF : (VB != CB) = true := bne_iff_ne.mpr YC; obtain rfl := Option.some.inj H
                  exact absurd HRT.out (by decide)
            ·rw [if_neg sE] at H
             have rE : (WB == CB) = false := beq_eq_false_iff_ne.mpr sE; have qE : (WB != CB) = true := bne_iff_ne.mpr sE; obtain rfl := Option.some.inj H
             exact absurd HRT.out (by decide)
       ·replace nF := Bool.eq_false_iff.mpr nF
        subst nF
        rw [if_neg Bool.false_ne_true] at H; obtain rfl := Option.some.inj H
        exact absurd HRT.out (by decide)
      ·replace pF := Bool.eq_false_iff.mpr pF
       subst pF
       rw [if_neg Bool.false_ne_true] at H; obtain rfl := Option.some.inj H
       exact absurd HRT.out (by decide)

end
end Go.Proofs.Ytimjblgepbhoaaa.PStays

