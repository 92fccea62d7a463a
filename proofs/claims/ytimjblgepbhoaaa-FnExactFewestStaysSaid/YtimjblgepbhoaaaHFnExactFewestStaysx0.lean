import Derived.Test.YtimjblgepbhoaaaHStays0
import Derived.Test.YtimjblgepbhoaaaHStaysa
import Derived.Test.YtimjblgepbhoaaaHStaysb
import Derived.Test.YtimjblgepbhoaaaHStayse
import Derived.Test.YtimjblgepbhoaaaHStaysn
import Derived.Test.YtimjblgepbhoaaaHStayss
import Derived.Test.YtimjblgepbhoaaaHStaysu
import Derived.Test.YtimjblgepbhoaaaHStaysus
import Derived.Test.YtimjblgepbhoaaaHStaysw
import Derived.Test.YtimjblgepbhoaaaHStayswl
import Derived.Test.YtimjblgepbhoaaaHStayszt
namespace Go.Proofs.Ytimjblgepbhoaaa.PStays
noncomputable section
open Go.RowKit Go.Proofs.YtimjblgepbhoaaaW.PrintWords Go.Proofs.YtimjblgepbhoaaaW.PrintLast Go.Proofs.YtimjblgepbhoaaaW.PrintMore
attribute [local go_sem] max2_int min2_int max_two min_two max_three min_three max_four min_four   -- for this text's walks alone
set_option linter.unusedVariables false
set_option linter.unusedSimpArgs false
set_option maxHeartbeats 8000000
set_option maxRecDepth 100000

def spec_FewestStays.l0 : Nat → List Int → List Bool → List Int → Bool → Int → Option (List Int × Int)
 | 0, _, _, _, _, _ => none
 | k + 1, x7, x8, x9, x10, x11 => if x11 < (x8.length : Int) then ((spec_l11Part.f k x7 x11).bind fun kB => (if 0 ≤ x11 then (if rdOf false x8 x11 = true then (if x10 = true then ((spec_l11Less.f k kB x9).bind fun qD => (if qD = true then (spec_FewestStays.l0 k x7 x8 kB true (wrap64 (x11 + 1))) else (spec_FewestStays.l0 k x7 x8 x9 x10 (wrap64 (x11 + 1))))) else (spec_FewestStays.l0 k x7 x8 kB true (wrap64 (x11 + 1)))) else (spec_FewestStays.l0 k x7 x8 x9 x10 (wrap64 (x11 + 1)))) else (none))) else (if x10 = true then (some (x9, 0)) else (some (([] : List Int), 10)))
def spec_FewestStays.f (k : Nat) (l0_0 : List (S164)) (l0_1 : List (S115)) (l1 : List (List (S113))) : Option (List Int × Int) := (spec_l11Winds.f k l0_0 l0_1 l1 (([] : List Int))).bind fun sB => (if sB = 0 then ((spec_l11All.f k l0_0 l0_1).bind fun PA => ((spec_l11Table.f k l0_0 l0_1 l1).bind fun VA => (spec_FewestStays.l0 k PA VA (([] : List Int)) false 0))) else (some (([] : List Int), sB)))
theorem spec_FewestStays.calls (k : Nat) (A0_0 : Option Addr) (c0_0 : Nat) (l0_0 : List (S164)) (A0_1 : Option Addr) (c0_1 : Nat) (l0_1 : List (S115)) (A1 : Option Addr) (c1 : Nat) (l1 : List (List (S113))) (r1 : List Int) (r2 : Int) (w : World) (hr0_0 : Kd.C k164 w A0_0 l0_0.length l0_0) (hc0_0 : l0_0.length ≤ c0_0) (hr0_1 : Kd.C k115 w A0_1 l0_1.length l0_1) (hc0_1 : l0_1.length ≤ c0_1) (hr1 : Kd.C (Kd.slice 113 k113) w A1 l1.length l1) (hc1 : l1.length ≤ c1) (h : spec_FewestStays.f k l0_0 l0_1 l1 = some (r1, r2)) :
  Calls Try.prog 59 #[.agg #[.slice A0_0 l0_0.length c0_0, .slice A0_1 l0_1.length c0_1], .slice A1 l1.length c1] w fun e w' => ∃ v0_ : Value, e = .returned (.tuple #[v0_, .int .i64 r2]) ∧ Kd.R (Kd.int .i64) 2 w' w.heap.size (fun _ => True) v0_ r1 ∧ Below w.heap.size w w' := by
 have SE := Try.underlying27
 have DA := zQ hr0_0
 have FA := zQ hc0_0
 clear hr0_0 hc0_0
 have CA := zQ hr0_1
 have EA := zQ hc0_1
 clear hr0_1 hc0_1
 have QC := zQ hr1
 have RC := zQ hc1
 clear hr1 hc1
 have HB := zQ (Below.refl w.heap.size w)
 have H := h; unfold spec_FewestStays.f at H
 clear h
 obtain ⟨iD, OD⟩ : ∃ y_ : List Int, y_ = (([] : List Int)) := ⟨_, rfl⟩
 replace H : ((spec_l11Winds.f k l0_0 l0_1 l1 iD).bind fun sB => (if sB = 0 then ((spec_l11All.f k l0_0 l0_1).bind fun PA => ((spec_l11Table.f k l0_0 l0_1 l1).bind fun VA => (spec_FewestStays.l0 k PA VA (([] : List Int)) false 0))) else (some (([] : List Int), sB)))) = some (r1, r2) := zh H
 have cD := zQ OD
 clear OD
 replace H := zob H; obtain ⟨sB, A3, H⟩ := H
 by_cases c4 : sB = 0
 ·rw [if_pos c4] at H
  have OB : (sB == 0) = true := beq_iff_eq.mpr c4; have tD : (sB != 0) = false := bne_eq_false_iff_eq.mpr c4; clear c4; replace H := zob H; obtain ⟨PA, A5, H⟩ := H; replace H := zob H; obtain ⟨VA, A6, H⟩ := H; obtain ⟨NE, ND⟩ : ∃ y_ : List Int, y_ = (([] : List Int)) := ⟨_, rfl⟩; replace H : (spec_FewestStays.l0 k PA VA NE false 0) = some (r1, r2) := zh H; have bE := zQ ND; clear ND; have H' := zQ H; clear H
  go_enter Try.func59, Try.ntmps59
  go_wp2_with (first | ((with_reducible refine zd 2 ?_); refine zbx (N := 2) (cs := #[.slice A0_0 l0_0.length c0_0, .slice A0_1 l0_1.length c0_1]) (t := 27) ?_; intro fB hg w7 JA hb; have jA := zQ (JA); have BD := zgz hg HB.out; have lA := BD; replace HB := zbs HB.out hb; clear hb JA hg) | ((with_reducible refine zd 14 ?_); refine Kd.R_lit (Kd.int .i64) _ 2 ?hg (N := 14) ?hd (xs := ([] : List Int)) (inner := []) (ok := fun _ => True) (okp := fun _ => True) ?hr ?hp (fun _ hk => hk) trivial (Below.refl _ _) (Nat.le_refl _) (by simp) ?_; (case hd => rfl); (case hg => rfl); (case hr => first | (go_simp; done) | (go_simp; rfl)); (case hp => exact (Reps.none _ _)); intro MF w8 TE hb hg_ hnew_; clear hg_ hnew_; (first | rw [← cD.out] at TE | (simp only [Int.reduceToNat] at TE; rw [← cD.out] at TE)); have AA := zQ (Kd.R_lower TE (below_size (zB2 HB.out lA.out))); replace jA := zbl jA.out hb; replace HB := zbs2 HB.out lA.out hb; clear hb TE; obtain ⟨XG, HG, sG⟩ := Kd.R_slice AA.out; subst sG) | ((with_reducible refine zgc 105 ?_); refine zgo (some 15) Try.func105 #[.pointer (some ⟨fB, 0, none⟩), .slice A1 l1.length c1, .slice XG iD.length HG] ?_; (with_reducible refine (spec_l11Winds.calls k fB A0_0 c0_0 l0_0 A0_1 c0_1 l0_1 _ _ l1 _ _ iD sB _ (zb jA.out) (zC DA.out HB.out) FA.out (zC CA.out HB.out) EA.out (zC QC.out HB.out) RC.out ?side8 ((Kd.R_reads' AA.out).2.1) A3.out).mono ?_); (case side8 => exact zk (Kd.R_reads' AA.out).2.2); rintro e tH ⟨rfl, hb⟩; refine ⟨_, rfl, ?_⟩; replace AA := zRb AA.out hb; replace jA := zbl jA.out hb; replace HB := zbs2 HB.out lA.out hb; (try clear hb)) | ((with_reducible refine zgc 109 ?_); refine zgo (some 19) Try.func109 #[.pointer (some ⟨fB, 0, none⟩)] ?_; (with_reducible refine (spec_l11All.calls k fB A0_0 c0_0 l0_0 A0_1 c0_1 l0_1 PA _ (zb jA.out) (zC DA.out HB.out) FA.out (zC CA.out HB.out) EA.out A5.out).mono ?_); rintro e sH ⟨PE, rfl, rA, hb⟩; refine ⟨_, rfl, ?_⟩; have VB := zQ (Kd.R_lower (Kd.R_new' rA (Kd.R_lt (zR AA.out))) (below_size (zB2 HB.out lA.out))); replace AA := zQ (Kd.R_elder' (zR AA.out) (Kd.R_base rA) hb); replace jA := zbl jA.out hb; replace HB := zbs2 HB.out lA.out hb; (try clear hb); (try clear rA)) | ((with_reducible refine zgc 110 ?_); refine zgo (some 21) Try.func110 #[.pointer (some ⟨fB, 0, none⟩), .slice A1 l1.length c1] ?_; (with_reducible refine (spec_l11Table.calls k fB A0_0 c0_0 l0_0 A0_1 c0_1 l0_1 _ _ l1 VA _ (zb jA.out) (zC DA.out HB.out) FA.out (zC CA.out HB.out) EA.out (zC QC.out HB.out) RC.out A6.out).mono ?_); rintro e rH ⟨LF, rfl, rA, hb⟩; refine ⟨_, rfl, ?_⟩; have xD := zQ (Kd.R_lower rA (below_size (zB2 HB.out lA.out))); replace AA := zRb AA.out hb; replace VB := zRb VB.out hb; replace jA := zbl jA.out hb; replace HB := zbs2 HB.out lA.out hb; (try clear hb); (try clear rA)) | ((with_reducible refine zd 22 ?_); refine Kd.R_lit (Kd.int .i64) _ 2 ?hg (N := 22) ?hd (xs := ([] : List Int)) (inner := []) (ok := fun _ => True) (okp := fun _ => True) ?hr ?hp (fun _ hk => hk) trivial (Below.refl _ _) (Nat.le_refl _) (by simp) ?_; (case hd => rfl); (case hg => rfl); (case hr => first | (go_simp; done) | (go_simp; rfl)); (case hp => exact (Reps.none _ _)); intro LH hJ HC hb hg_ hnew_; clear hg_ hnew_; (first | rw [← bE.out] at HC | (simp only [Int.reduceToNat] at HC; rw [← bE.out] at HC)); have hF := zQ (Kd.R_lower (Kd.R_new' (Kd.R_new' HC (Kd.R_lt (zR AA.out))) (Kd.R_lt (zR VB.out))) (below_size (zB2 HB.out lA.out))); replace AA := zQ (Kd.R_elder' (zR AA.out) (Kd.R_base HC) hb); replace VB := zQ (Kd.R_elder' (zR VB.out) (Kd.R_base HC) hb); replace xD := zRb xD.out hb; replace jA := zbl jA.out hb; replace HB := zbs2 HB.out lA.out hb; clear hb HC))
  go_loopg [9, 10, 11] k (fun kq v9 OH NH w' => ∃ (JB : List Int) (nB : Bool) (iA : Int), OH = .bool nB ∧ NH = .int .i64 iA ∧ Aside0 (spec_FewestStays.l0 kq PA VA JB nB iA = some (r1, r2)) ∧ Aside0 (kq ≤ k) ∧ Aside0 (Kd.R (Kd.int .i64) 2 w' w.heap.size (fun k_ => some k_ ≠ (v9 : Value).ownBlock) PE PA) ∧ Aside0 (Kd.R Kd.bool 4 w' w.heap.size (fun _ => True) LF VA) ∧ Aside0 (Kd.R (Kd.int .i64) 2 w' w.heap.size (fun k_ => some k_ ≠ (PE : Value).ownBlock) v9 JB) ∧ Aside0 (w'.heap[fB]? = some (.cells #[(.slice A0_0 l0_0.length c0_0), (.slice A0_1 l0_1.length c0_1)] 27 (0, 0))) ∧ Aside0 (Below w.heap.size w w'))
  case atStart => exact ⟨(NE), (false), (0), (zF), (zF), H', ⟨Nat.le_refl _⟩, ⟨by (with_reducible repeat (first | apply Kd.R_alloc | apply Kd.R_drewN | apply Kd.R_drew)); exact Kd.R_mono VB.out (fun _ hk => hk.2)⟩, ⟨zR xD.out⟩, ⟨by (with_reducible repeat (first | apply Kd.R_alloc | apply Kd.R_drewN | apply Kd.R_drew)); exact Kd.R_mono hF.out (fun _ hk => hk.2)⟩, ⟨zb jA.out⟩, ⟨zB2 HB.out lA.out⟩⟩
  case round =>
   clear H'; (try clear c1); (try clear p2); (try clear c4); (try clear OB); (try clear tD); (try clear c5); (try clear gI); (try clear mJ); obtain ⟨JB, nB, iA, rfl, rfl, HA, yD, BA, MA, mA, jA, HB⟩ := hrel
   cases gk with
   | zero => exact absurd HA.out (by simp [spec_FewestStays.l0])
   | succ k1 =>
    have H := HA.out; clear HA
    simp only [spec_FewestStays.l0] at H
    by_cases uD : iA < (VA.length : Int)
    ·rw [if_pos uD] at H
     have WD := decide_eq_true uD; clear uD; replace H := zob H; obtain ⟨kB, ME, H⟩ := H
     by_cases GF : 0 ≤ iA
     ·rw [if_pos GF] at H
      have kH := decide_eq_true GF; clear GF; obtain ⟨bq19, sD⟩ : ∃ b_ : Bool, b_ = (rdOf false VA iA) := ⟨_, rfl⟩
      replace H : (if bq19 = true then (if nB = true then ((spec_l11Less.f k1 kB JB).bind fun qD => (if qD = true then (spec_FewestStays.l0 k1 PA VA kB true (wrap64 (iA + 1))) else (spec_FewestStays.l0 k1 PA VA JB nB (wrap64 (iA + 1))))) else (spec_FewestStays.l0 k1 PA VA kB true (wrap64 (iA + 1)))) else (spec_FewestStays.l0 k1 PA VA JB nB (wrap64 (iA + 1)))) = some (r1, r2) := by rw [← sD] at H; exact H
      have Nbq19 := zQ sD; clear sD
      by_cases FF : bq19 = true
      ·subst FF
       rw [if_pos rfl] at H
       by_cases EF : nB = true
       ·subst EF
        rw [if_pos rfl] at H; replace H := zob H; obtain ⟨qD, nH, H⟩ := H
        by_cases DF : qD = true
        ·subst DF
         rw [if_pos rfl] at H; have H' := zQ H; clear H; obtain ⟨qI, ZH, pG⟩ := Kd.R_slice MA.out; subst pG; obtain ⟨UG, EG, oG⟩ := Kd.R_slice BA.out; subst oG
         go_wp2_with (first | ((with_reducible refine zgc 111 ?_); refine zgo (some 31) Try.func111 #[.slice UG PA.length EG, .int .i64 iA] ?_; (with_reducible refine (spec_l11Part.calls k1 _ _ PA iA kB _ ?side1 ((Kd.R_reads' BA.out).2.1) ME.out).mono ?_); (case side1 => exact zk (Kd.R_reads' BA.out).2.2); rintro e pH ⟨dE, rfl, rA, hb⟩; refine ⟨_, rfl, ?_⟩; have XA := zQ (Kd.R_lower (Kd.R_new' (Kd.R_new' rA (Kd.R_lt (zR BA.out))) (Kd.R_lt (zR mA.out))) (below_size (zB2 HB.out lA.out))); replace BA := zQ (Kd.R_elder' (zR BA.out) (Kd.R_base rA) hb); replace MA := zRb MA.out hb; replace mA := zQ (Kd.R_elder' (zR mA.out) (Kd.R_base rA) hb); replace jA := zbl jA.out hb; replace HB := zbs2 HB.out lA.out hb; (try clear hb); (try clear rA); have mB : 0 ≤ (iA : Int) := zD; have lB : iA < (VA.length : Int) := zD; obtain ⟨vD, NC, SA⟩ := Kd.at_bool (Kd.R_reads' MA.out).2.2 iA mB lB; (try rw [← Nbq19.out] at SA); cases NC; replace mB := eq_true mB; replace lB := eq_true lB; obtain ⟨mF, YE, vE⟩ := Kd.R_slice XA.out; subst vE; obtain ⟨lF, XE, uE⟩ := Kd.R_slice mA.out; subst uE) | (go_at_call 112; (with_reducible refine (spec_l11Less.calls k1 _ _ kB _ _ JB true _ ?side1 ((Kd.R_reads' XA.out).2.1) ?side3 ((Kd.R_reads' mA.out).2.1) nH.out).mono ?_); (case side1 => exact zk (Kd.R_reads' XA.out).2.2); (case side3 => exact zk (Kd.R_reads' mA.out).2.2); rintro e w' ⟨rfl, ⟨nd, rfl⟩⟩))
         go_roundg k1
         case measure => have := yD.out; omega
         case rel => exact ⟨(kB), (true), (wrap64 (iA + 1)), (zF), (zF), H', ⟨by have := yD.out; omega⟩, ⟨by (with_reducible repeat (first | apply Kd.R_alloc | apply Kd.R_drewN | apply Kd.R_drew)); exact Kd.R_mono BA.out (fun _ hk => hk.2)⟩, ⟨zR MA.out⟩, ⟨by (with_reducible repeat (first | apply Kd.R_alloc | apply Kd.R_drewN | apply Kd.R_drew)); exact Kd.R_mono XA.out (fun _ hk => hk.1.2)⟩, ⟨zb jA.out⟩, ⟨zB2 HB.out lA.out⟩⟩
        ·replace DF := Bool.eq_false_iff.mpr DF
         subst DF
         rw [if_neg Bool.false_ne_true] at H; have H' := zQ H; clear H; obtain ⟨pI, YH, mG⟩ := Kd.R_slice MA.out; subst mG; obtain ⟨SG, CG, lG⟩ := Kd.R_slice BA.out; subst lG
         go_wp2_with (first | ((with_reducible refine zgc 111 ?_); refine zgo (some 31) Try.func111 #[.slice SG PA.length CG, .int .i64 iA] ?_; (with_reducible refine (spec_l11Part.calls k1 _ _ PA iA kB _ ?side1 ((Kd.R_reads' BA.out).2.1) ME.out).mono ?_); (case side1 => exact zk (Kd.R_reads' BA.out).2.2); rintro e oH ⟨dE, rfl, rA, hb⟩; refine ⟨_, rfl, ?_⟩; have XA := zQ (Kd.R_lower (Kd.R_new' (Kd.R_new' rA (Kd.R_lt (zR BA.out))) (Kd.R_lt (zR mA.out))) (below_size (zB2 HB.out lA.out))); replace BA := zQ (Kd.R_elder' (zR BA.out) (Kd.R_base rA) hb); replace MA := zRb MA.out hb; replace mA := zQ (Kd.R_elder' (zR mA.out) (Kd.R_base rA) hb); replace jA := zbl jA.out hb; replace HB := zbs2 HB.out lA.out hb; (try clear hb); (try clear rA); have mB : 0 ≤ (iA : Int) := zD; have lB : iA < (VA.length : Int) := zD; obtain ⟨vD, NC, SA⟩ := Kd.at_bool (Kd.R_reads' MA.out).2.2 iA mB lB; (try rw [← Nbq19.out] at SA); cases NC; replace mB := eq_true mB; replace lB := eq_true lB; obtain ⟨oI, XH, kG⟩ := Kd.R_slice XA.out; subst kG; obtain ⟨tA, sA, tE⟩ := Kd.R_slice mA.out; subst tE) | (go_at_call 112; (with_reducible refine (spec_l11Less.calls k1 _ _ kB _ _ JB false _ ?side1 ((Kd.R_reads' XA.out).2.1) ?side3 ((Kd.R_reads' mA.out).2.1) nH.out).mono ?_); (case side1 => exact zk (Kd.R_reads' XA.out).2.2); (case side3 => exact zk (Kd.R_reads' mA.out).2.2); rintro e w' ⟨rfl, ⟨nd, rfl⟩⟩))
         go_roundg k1
         case measure => have := yD.out; omega
         case rel => exact ⟨(JB), (true), (wrap64 (iA + 1)), (zF), (zF), H', ⟨by have := yD.out; omega⟩, ⟨by (with_reducible repeat (first | apply Kd.R_alloc | apply Kd.R_drewN | apply Kd.R_drew)); exact Kd.R_mono BA.out (fun _ hk => hk.1)⟩, ⟨zR MA.out⟩, ⟨by (with_reducible repeat (first | apply Kd.R_alloc | apply Kd.R_drewN | apply Kd.R_drew)); exact Kd.R_mono mA.out (fun _ hk => hk.1)⟩, ⟨zb jA.out⟩, ⟨zB2 HB.out lA.out⟩⟩
       ·replace EF := Bool.eq_false_iff.mpr EF
        subst EF
        rw [if_neg Bool.false_ne_true] at H; have H' := zQ H; clear H; obtain ⟨nI, WH, jG⟩ := Kd.R_slice MA.out; subst jG; obtain ⟨RG, BG, iG⟩ := Kd.R_slice BA.out; subst iG
        go_wp2_with (first | ((with_reducible refine zgc 111 ?_); refine zgo (some 31) Try.func111 #[.slice RG PA.length BG, .int .i64 iA] ?_; (with_reducible refine (spec_l11Part.calls k1 _ _ PA iA kB _ ?side1 ((Kd.R_reads' BA.out).2.1) ME.out).mono ?_); (case side1 => exact zk (Kd.R_reads' BA.out).2.2); rintro e aJ ⟨dE, rfl, rA, hb⟩; refine ⟨_, rfl, ?_⟩; have XA := zQ (Kd.R_lower (Kd.R_new' (Kd.R_new' rA (Kd.R_lt (zR BA.out))) (Kd.R_lt (zR mA.out))) (below_size (zB2 HB.out lA.out))); replace BA := zQ (Kd.R_elder' (zR BA.out) (Kd.R_base rA) hb); replace MA := zRb MA.out hb; replace mA := zQ (Kd.R_elder' (zR mA.out) (Kd.R_base rA) hb); replace jA := zbl jA.out hb; replace HB := zbs2 HB.out lA.out hb; (try clear hb); (try clear rA); have mB : 0 ≤ (iA : Int) := zD; have lB : iA < (VA.length : Int) := zD; obtain ⟨vD, NC, SA⟩ := Kd.at_bool (Kd.R_reads' MA.out).2.2 iA mB lB; (try rw [← Nbq19.out] at SA); cases NC; replace mB := eq_true mB; replace lB := eq_true lB))
        go_roundg k1
        case measure => have := yD.out; omega
        case rel => exact ⟨(kB), (true), (wrap64 (iA + 1)), (zF), (zF), H', ⟨by have := yD.out; omega⟩, ⟨by (with_reducible repeat (first | apply Kd.R_alloc | apply Kd.R_drewN | apply Kd.R_drew)); exact Kd.R_mono BA.out (fun _ hk => hk.2)⟩, ⟨zR MA.out⟩, ⟨by (with_reducible repeat (first | apply Kd.R_alloc | apply Kd.R_drewN | apply Kd.R_drew)); exact Kd.R_mono XA.out (fun _ hk => hk.1.2)⟩, ⟨zb jA.out⟩, ⟨zB2 HB.out lA.out⟩⟩
      ·replace FF := Bool.eq_false_iff.mpr FF
       subst FF
       rw [if_neg Bool.false_ne_true] at H; have H' := zQ H; clear H; obtain ⟨mI, VH, gG⟩ := Kd.R_slice MA.out; subst gG; obtain ⟨QG, AG, fG⟩ := Kd.R_slice BA.out; subst fG
       go_wp2_with (first | ((with_reducible refine zgc 111 ?_); refine zgo (some 31) Try.func111 #[.slice QG PA.length AG, .int .i64 iA] ?_; (with_reducible refine (spec_l11Part.calls k1 _ _ PA iA kB _ ?side1 ((Kd.R_reads' BA.out).2.1) ME.out).mono ?_); (case side1 => exact zk (Kd.R_reads' BA.out).2.2); rintro e YI ⟨dE, rfl, rA, hb⟩; refine ⟨_, rfl, ?_⟩; have XA := zQ (Kd.R_lower (Kd.R_new' (Kd.R_new' rA (Kd.R_lt (zR BA.out))) (Kd.R_lt (zR mA.out))) (below_size (zB2 HB.out lA.out))); replace BA := zQ (Kd.R_elder' (zR BA.out) (Kd.R_base rA) hb); replace MA := zRb MA.out hb; replace mA := zQ (Kd.R_elder' (zR mA.out) (Kd.R_base rA) hb); replace jA := zbl jA.out hb; replace HB := zbs2 HB.out lA.out hb; (try clear hb); (try clear rA); have mB : 0 ≤ (iA : Int) := zD; have lB : iA < (VA.length : Int) := zD; obtain ⟨vD, NC, SA⟩ := Kd.at_bool (Kd.R_reads' MA.out).2.2 iA mB lB; (try rw [← Nbq19.out] at SA); cases NC; replace mB := eq_true mB; replace lB := eq_true lB))
       go_roundg k1
       case measure => have := yD.out; omega
       case rel => exact ⟨(JB), (nB), (wrap64 (iA + 1)), (zF), (zF), H', ⟨by have := yD.out; omega⟩, ⟨by (with_reducible repeat (first | apply Kd.R_alloc | apply Kd.R_drewN | apply Kd.R_drew)); exact Kd.R_mono BA.out (fun _ hk => hk.1)⟩, ⟨zR MA.out⟩, ⟨by (with_reducible repeat (first | apply Kd.R_alloc | apply Kd.R_drewN | apply Kd.R_drew)); exact Kd.R_mono mA.out (fun _ hk => hk.1)⟩, ⟨zb jA.out⟩, ⟨zB2 HB.out lA.out⟩⟩
     ·rw [if_neg GF] at H
      exact absurd H (by simp)
    ·rw [if_neg uD] at H
     have WD := decide_eq_false uD; clear uD
     by_cases CF : nB = true
     ·subst CF
      rw [if_pos rfl] at H
      simp only [Option.some.injEq, Prod.mk.injEq] at H
      obtain ⟨rfl, rfl⟩ := H; obtain ⟨lI, UH, dG⟩ := Kd.R_slice MA.out; subst dG
      go_wp2
      go_ret2
      exact ⟨_, zE, by (with_reducible repeat (first | apply Kd.R_alloc | apply Kd.R_drewN | apply Kd.R_drew)); exact Kd.R_mono mA.out (fun _ hk => trivial), zB2 HB.out lA.out⟩
     ·replace CF := Bool.eq_false_iff.mpr CF
      subst CF
      rw [if_neg Bool.false_ne_true] at H
      simp only [Option.some.injEq, Prod.mk.injEq] at H
      obtain ⟨rfl, rfl⟩ := H; obtain ⟨kI, TH, cG⟩ := Kd.R_slice MA.out; subst cG
      go_wp2
      go_ret2
      exact ⟨_, zE, by first | exact Kd.R_nil _ _ _ _ _ | exact Kd.N_nil _ _ _ _ _ | exact Kd.V_nil _ _ _ _ _ | exact Kd.Q_nil _ _ _ _ _ | exact Kd.S_nil _ _ _ _ _, zB2 HB.out lA.out⟩
 ·rw [if_neg c4] at H
  have OB : (sB == 0) = false := beq_eq_false_iff_ne.mpr c4; have tD : (sB != 0) = true := bne_iff_ne.mpr c4
  simp only [Option.some.injEq, Prod.mk.injEq] at H
  obtain ⟨rfl, rfl⟩ := H
  go_enter Try.func59, Try.ntmps59
  go_wp2_with (first | ((with_reducible refine zd 2 ?_); refine zbx (N := 2) (cs := #[.slice A0_0 l0_0.length c0_0, .slice A0_1 l0_1.length c0_1]) (t := 27) ?_; intro fB hg WI JA hb; have jA := zQ (JA); have BD := zgz hg HB.out; have lA := BD; replace HB := zbs HB.out hb; clear hb JA hg) | ((with_reducible refine zd 14 ?_); refine Kd.R_lit (Kd.int .i64) _ 2 ?hg (N := 14) ?hd (xs := ([] : List Int)) (inner := []) (ok := fun _ => True) (okp := fun _ => True) ?hr ?hp (fun _ hk => hk) trivial (Below.refl _ _) (Nat.le_refl _) (by simp) ?_; (case hd => rfl); (case hg => rfl); (case hr => first | (go_simp; done) | (go_simp; rfl)); (case hp => exact (Reps.none _ _)); intro MF VI rD hb hg_ hnew_; clear hg_ hnew_; (first | rw [← cD.out] at rD | (simp only [Int.reduceToNat] at rD; rw [← cD.out] at rD)); have AA := zQ (Kd.R_lower rD (below_size (zB2 HB.out lA.out))); replace jA := zbl jA.out hb; replace HB := zbs2 HB.out lA.out hb; clear hb rD; obtain ⟨NG, xG, ZF⟩ := Kd.R_slice AA.out; subst ZF) | ((with_reducible refine zgc 105 ?_); refine zgo (some 15) Try.func105 #[.pointer (some ⟨fB, 0, none⟩), .slice A1 l1.length c1, .slice NG iD.length xG] ?_; (with_reducible refine (spec_l11Winds.calls k fB A0_0 c0_0 l0_0 A0_1 c0_1 l0_1 _ _ l1 _ _ iD sB _ (zb jA.out) (zC DA.out HB.out) FA.out (zC CA.out HB.out) EA.out (zC QC.out HB.out) RC.out ?side8 ((Kd.R_reads' AA.out).2.1) A3.out).mono ?_); (case side8 => exact zk (Kd.R_reads' AA.out).2.2); rintro e UI ⟨rfl, hb⟩; refine ⟨_, rfl, ?_⟩; replace AA := zRb AA.out hb; replace jA := zbl jA.out hb; replace HB := zbs2 HB.out lA.out hb; (try clear hb)))
  go_ret2
  exact ⟨_, zE, by first | exact Kd.R_nil _ _ _ _ _ | exact Kd.N_nil _ _ _ _ _ | exact Kd.V_nil _ _ _ _ _ | exact Kd.Q_nil _ _ _ _ _ | exact Kd.S_nil _ _ _ _ _, zB2 HB.out lA.out⟩

def impl_FewestStays.l0 : Nat → List (List (S113)) → List (List Int) → Int → Int → List (S164) → List (S115) → Option (List Int × Int)
 | 0, _, _, _, _, _, _ => none
 | k + 1, x1, x17, x18, x19, WC, VC => if x19 < x18 then (if 0 ≤ x19 then (if x19 < (x17.length : Int) then ((impl_looseWind.f k WC VC x1 (rd_L10 x17 x19)).bind fun oD => (if oD < 0 then (some (rd_L10 x17 x19, 0)) else (impl_FewestStays.l0 k x1 x17 x18 (wrap64 (x19 + 1)) WC VC))) else (none)) else (none)) else (some (([] : List Int), 10))
def impl_FewestStays.f (k : Nat) (l0_0 : List (S164)) (l0_1 : List (S115)) (l1 : List (List (S113))) : Option (List Int × Int) := (impl_windsCode.f k l0_0 l0_1 l1 ([] : List Int)).bind fun NB => (if NB = 0 then ((impl_allBars.f k l0_0 l0_1).bind fun pD => ((impl_barLists.f k pD).bind fun UA => (impl_FewestStays.l0 k l1 UA (UA.length : Int) 0 l0_0 l0_1))) else (some (([] : List Int), NB)))
theorem impl_FewestStays.calls (k : Nat) (A0_0 : Option Addr) (c0_0 : Nat) (l0_0 : List (S164)) (A0_1 : Option Addr) (c0_1 : Nat) (l0_1 : List (S115)) (A1 : Option Addr) (c1 : Nat) (l1 : List (List (S113))) (r1 : List Int) (r2 : Int) (w : World) (hr0_0 : Kd.C k164 w A0_0 l0_0.length l0_0) (hc0_0 : l0_0.length ≤ c0_0) (hr0_1 : Kd.C k115 w A0_1 l0_1.length l0_1) (hc0_1 : l0_1.length ≤ c0_1) (hr1 : Kd.C (Kd.slice 113 k113) w A1 l1.length l1) (hc1 : l1.length ≤ c1) (h : impl_FewestStays.f k l0_0 l0_1 l1 = some (r1, r2)) :
  Calls Try.prog 60 #[.agg #[.slice A0_0 l0_0.length c0_0, .slice A0_1 l0_1.length c0_1], .slice A1 l1.length c1] w fun e w' => ∃ v0_ : Value, e = .returned (.tuple #[v0_, .int .i64 r2]) ∧ Kd.R (Kd.int .i64) 2 w' w.heap.size (fun _ => True) v0_ r1 ∧ Below w.heap.size w w' := by
 have SE := Try.underlying27
 have DA := zQ hr0_0
 have FA := zQ hc0_0
 clear hr0_0 hc0_0
 have CA := zQ hr0_1
 have EA := zQ hc0_1
 clear hr0_1 hc0_1
 have QC := zQ hr1
 have RC := zQ hc1
 clear hr1 hc1
 have HB := zQ (Below.refl w.heap.size w)
 have H := h; unfold impl_FewestStays.f at H
 clear h
 replace H := zob H; obtain ⟨NB, A3, H⟩ := H
 by_cases c4 : NB = 0
 ·rw [if_pos c4] at H
  have OB : (NB == 0) = true := beq_iff_eq.mpr c4; have tD : (NB != 0) = false := bne_eq_false_iff_eq.mpr c4; clear c4; replace H := zob H; obtain ⟨pD, A5, H⟩ := H; replace H := zob H; obtain ⟨UA, A6, H⟩ := H; have H' := zQ H; clear H
  go_enter Try.func60, Try.ntmps60
  go_wp2_with (first | ((with_reducible refine zd 2 ?_); refine zbx (N := 2) (cs := #[.slice A0_0 l0_0.length c0_0, .slice A0_1 l0_1.length c0_1]) (t := 27) ?_; intro QD hg w7 JA hb; have wA := zQ (JA); have AD := zgz hg HB.out; have OA := AD; replace HB := zbs HB.out hb; clear hb JA hg; obtain ⟨sE, rE, qE, pE⟩ := zy2 wA.out) | ((with_reducible refine zgc 107 ?_); refine zgo (some 11) Try.func107 #[.agg #[.slice A0_0 l0_0.length c0_0, .slice A0_1 l0_1.length c0_1], .slice A1 l1.length c1, .slice none 0 0] ?_; (refine (impl_windsCode.calls k _ _ l0_0 _ _ l0_1 _ _ l1 _ _ ([] : List Int) NB _ ?side1 ?side2 ?side3 ?side4 ?side5 ?side6 ?side7 ?side8 A3.out).mono ?_); (case side1 => exact zC DA.out HB.out); (case side2 => exact FA.out); (case side3 => exact zC CA.out HB.out); (case side4 => exact EA.out); (case side5 => exact zC QC.out HB.out); (case side6 => exact RC.out); (case side7 => exact Kd.C_nil _ _); (case side8 => exact Nat.le_refl _); rintro e w9 ⟨rfl, hb⟩; refine ⟨_, rfl, ?_⟩; replace wA := zbl wA.out hb; replace HB := zbs2 HB.out OA.out hb; (try clear hb); obtain ⟨KD, JD, GD, FD⟩ := zy2 wA.out) | ((with_reducible refine zgc 69 ?_); refine zgo (some 16) Try.func69 #[.agg #[.slice A0_0 l0_0.length c0_0, .slice A0_1 l0_1.length c0_1]] ?_; (with_reducible refine (impl_allBars.calls k _ _ l0_0 _ _ l0_1 pD _ (zC DA.out HB.out) FA.out (zC CA.out HB.out) EA.out A5.out).mono ?_); rintro e tH ⟨KH, rfl, rA, hb⟩; refine ⟨_, rfl, ?_⟩; have UB := zQ (Kd.R_lower rA (below_size (zB2 HB.out OA.out))); replace wA := zbl wA.out hb; replace HB := zbs2 HB.out OA.out hb; (try clear hb); (try clear rA); obtain ⟨WG, GG, rG⟩ := Kd.R_slice UB.out; subst rG) | ((with_reducible refine zgc 68 ?_); refine zgo (some 17) Try.func68 #[.slice WG pD.length GG] ?_; (with_reducible refine (impl_barLists.calls k _ _ pD UA _ ?side1 ((Kd.R_reads' UB.out).2.1) A6.out).mono ?_); (case side1 => exact zk (Kd.R_reads' UB.out).2.2); rintro e rH ⟨JH, rfl, rA, hb⟩; refine ⟨_, rfl, ?_⟩; have cE := zQ (Kd.S_lower (Kd.S_new' rA (Kd.R_lt (zR UB.out))) (below_size (zB2 HB.out OA.out))); replace UB := zRb UB.out hb; replace wA := zbl wA.out hb; replace HB := zbs2 HB.out OA.out hb; (try clear hb); (try clear rA); obtain ⟨VG, FG, qG⟩ := Kd.S_slice cE.out; subst qG))
  go_loopg [19] k (fun kq MH w' => ∃ (uA : Int), MH = .int .i64 uA ∧ Aside0 (impl_FewestStays.l0 kq l1 UA (UA.length : Int) uA l0_0 l0_1 = some (r1, r2)) ∧ Aside0 (kq ≤ k) ∧ Aside0 (Kd.S (Kd.slice 2 (Kd.int .i64)) 31 w' w.heap.size (fun _ => True) (.slice VG UA.length FG) UA) ∧ Aside0 (w'.heap[QD]? = some (.cells #[(.slice A0_0 l0_0.length c0_0), (.slice A0_1 l0_1.length c0_1)] 27 (0, 0))) ∧ Aside0 (Below w.heap.size w w'))
  case atStart => exact ⟨(0), (zF), H', ⟨Nat.le_refl _⟩, ⟨by (with_reducible repeat (first | apply Kd.S_alloc | apply Kd.S_drewN | apply Kd.S_drew)); exact Kd.S_mono cE.out (fun _ hk => trivial)⟩, ⟨zb wA.out⟩, ⟨zB2 HB.out OA.out⟩⟩
  case round =>
   clear H'; (try clear c1); (try clear p2); (try clear c4); (try clear OB); (try clear tD); (try clear c6); (try clear gI); (try clear KD JD GD FD); (try clear sE rE qE pE); obtain ⟨uA, rfl, HA, yD, WA, wA, HB⟩ := hrel
   cases gk with
   | zero => exact absurd HA.out (by simp [impl_FewestStays.l0])
   | succ k1 =>
    have H := HA.out; clear HA
    simp only [impl_FewestStays.l0] at H
    by_cases LE : uA < (UA.length : Int)
    ·rw [if_pos LE] at H
     have dF := decide_eq_true LE; clear LE
     by_cases uD : 0 ≤ uA
     ·rw [if_pos uD] at H
      have WD := decide_eq_true uD; clear uD
      by_cases HF : uA < (UA.length : Int)
      ·rw [if_pos HF] at H
       have lH := decide_eq_true HF; clear HF; replace H := zob H; obtain ⟨oD, JF, H⟩ := H
       by_cases KE : oD < 0
       ·rw [if_pos KE] at H
        have cF := decide_eq_true KE; clear KE
        simp only [Option.some.injEq, Prod.mk.injEq] at H
        obtain ⟨rfl, rfl⟩ := H; have aC : 0 ≤ (uA : Int) := zD; have ZB : uA < (UA.length : Int) := zD; obtain ⟨gF, A384_0, c384_0, wE, bC, oB, pB⟩ := at_L10 (Kd.S_reads' WA.out).2.2 uA aC ZB
        cases wE
        obtain ⟨ce384, MC, hMe384, AB⟩ := Kd.S_get WA.out [] uA aC (by first | exact ZB | exact zD | (have e_ := (Kd.S_reads' WA.out).1; omega)); obtain ⟨ve384_0, rfl, ge384_0⟩ := hMe384; have zA := AB 0 _ rfl; rw [Nat.add_zero, show ((Kd.slice 2 (Kd.int .i64))).sz = 1 from rfl, Nat.mul_one] at zA; replace zA := Option.some.inj (zA.symm.trans bC); rw [zA] at ge384_0; have bB := zQ (show Kd.R (Kd.int .i64) 2 _ _ _ _ (rd_L10 UA uA) from ge384_0); clear zA ge384_0; clear AB MC; have TA := zQ pB; have BC := zQ oB; clear pB oB; replace aC := eq_true aC; replace ZB := eq_true ZB; obtain ⟨BF, AF, uF, tF⟩ := zy2 wA.out
        go_wp2_with (first | ((with_reducible refine zgc 108 ?_); refine zgo (some 26) Try.func108 #[.agg #[.slice A0_0 l0_0.length c0_0, .slice A0_1 l0_1.length c0_1], .slice A1 l1.length c1, .slice A384_0 (rd_L10 UA uA).length c384_0] ?_; (with_reducible refine (impl_looseWind.calls k1 _ _ l0_0 _ _ l0_1 _ _ l1 _ _ (rd_L10 UA uA) oD _ (zC DA.out HB.out) FA.out (zC CA.out HB.out) EA.out (zC QC.out HB.out) RC.out ?side7 BC.out JF.out).mono ?_); (case side7 => repeat (first | exact (zk TA.out) | (with_reducible refine Kd.C_alloc ?_ _) | (with_reducible refine Kd.C_drewN ?_ _) | (with_reducible refine Kd.C_drew ?_))); rintro e fJ ⟨rfl, hb⟩; refine ⟨_, rfl, ?_⟩; replace WA := zQ (Kd.S_below (zS WA.out) hb); replace bB := zRb bB.out hb; replace wA := zbl wA.out hb; replace TA := zCb TA.out hb; replace HB := zbs2 HB.out OA.out hb; (try clear hb)))
        go_ret2
        exact ⟨_, zE, by (with_reducible repeat (first | apply Kd.R_alloc | apply Kd.R_drewN | apply Kd.R_drew)); exact Kd.R_mono bB.out (fun _ hk => trivial), zB2 HB.out OA.out⟩
       ·rw [if_neg KE] at H
        have cF := decide_eq_false KE; clear KE; have H' := zQ H; clear H; have aC : 0 ≤ (uA : Int) := zD; have ZB : uA < (UA.length : Int) := zD; obtain ⟨gF, A384_0, c384_0, wE, bC, oB, pB⟩ := at_L10 (Kd.S_reads' WA.out).2.2 uA aC ZB
        cases wE
        obtain ⟨ce384, MC, hMe384, AB⟩ := Kd.S_get WA.out [] uA aC (by first | exact ZB | exact zD | (have e_ := (Kd.S_reads' WA.out).1; omega)); obtain ⟨ve384_0, rfl, ge384_0⟩ := hMe384; have zA := AB 0 _ rfl; rw [Nat.add_zero, show ((Kd.slice 2 (Kd.int .i64))).sz = 1 from rfl, Nat.mul_one] at zA; replace zA := Option.some.inj (zA.symm.trans bC); rw [zA] at ge384_0; have bB := zQ (show Kd.R (Kd.int .i64) 2 _ _ _ _ (rd_L10 UA uA) from ge384_0); clear zA ge384_0; clear AB MC; have TA := zQ pB; have BC := zQ oB; clear pB oB; replace aC := eq_true aC; replace ZB := eq_true ZB; obtain ⟨yF, xF, sF, rF⟩ := zy2 wA.out
        go_wp2_with (first | ((with_reducible refine zgc 108 ?_); refine zgo (some 26) Try.func108 #[.agg #[.slice A0_0 l0_0.length c0_0, .slice A0_1 l0_1.length c0_1], .slice A1 l1.length c1, .slice A384_0 (rd_L10 UA uA).length c384_0] ?_; (with_reducible refine (impl_looseWind.calls k1 _ _ l0_0 _ _ l0_1 _ _ l1 _ _ (rd_L10 UA uA) oD _ (zC DA.out HB.out) FA.out (zC CA.out HB.out) EA.out (zC QC.out HB.out) RC.out ?side7 BC.out JF.out).mono ?_); (case side7 => repeat (first | exact (zk TA.out) | (with_reducible refine Kd.C_alloc ?_ _) | (with_reducible refine Kd.C_drewN ?_ _) | (with_reducible refine Kd.C_drew ?_))); rintro e eJ ⟨rfl, hb⟩; refine ⟨_, rfl, ?_⟩; replace WA := zQ (Kd.S_below (zS WA.out) hb); replace bB := zRb bB.out hb; replace wA := zbl wA.out hb; replace TA := zCb TA.out hb; replace HB := zbs2 HB.out OA.out hb; (try clear hb)))
        go_roundg k1
        case measure => have := yD.out; omega
        case rel => exact ⟨(wrap64 (uA + 1)), (zF), H', ⟨by have := yD.out; omega⟩, ⟨zS WA.out⟩, ⟨zb wA.out⟩, ⟨zB2 HB.out OA.out⟩⟩
      ·rw [if_neg HF] at H
       exact absurd H (by simp)
     ·rw [if_neg uD] at H
      exact absurd H (by simp)
    ·rw [if_neg LE] at H
     have dF := decide_eq_false LE; clear LE
     simp only [Option.some.injEq, Prod.mk.injEq] at H
     obtain ⟨rfl, rfl⟩ := H
     go_wp2
     go_ret2
     exact ⟨_, zE, by first | exact Kd.R_nil _ _ _ _ _ | exact Kd.N_nil _ _ _ _ _ | exact Kd.V_nil _ _ _ _ _ | exact Kd.Q_nil _ _ _ _ _ | exact Kd.S_nil _ _ _ _ _, zB2 HB.out OA.out⟩
 ·rw [if_neg c4] at H
  have OB : (NB == 0) = false := beq_eq_false_iff_ne.mpr c4; have tD : (NB != 0) = true := bne_iff_ne.mpr c4
  simp only [Option.some.injEq, Prod.mk.injEq] at H
  obtain ⟨rfl, rfl⟩ := H
  go_enter Try.func60, Try.ntmps60
  go_wp2_with (first | ((with_reducible refine zd 2 ?_); refine zbx (N := 2) (cs := #[.slice A0_0 l0_0.length c0_0, .slice A0_1 l0_1.length c0_1]) (t := 27) ?_; intro QD hg qH JA hb; have wA := zQ (JA); have AD := zgz hg HB.out; have OA := AD; replace HB := zbs HB.out hb; clear hb JA hg; obtain ⟨wF, vF, qF, pF⟩ := zy2 wA.out) | ((with_reducible refine zgc 107 ?_); refine zgo (some 11) Try.func107 #[.agg #[.slice A0_0 l0_0.length c0_0, .slice A0_1 l0_1.length c0_1], .slice A1 l1.length c1, .slice none 0 0] ?_; (refine (impl_windsCode.calls k _ _ l0_0 _ _ l0_1 _ _ l1 _ _ ([] : List Int) NB _ ?side1 ?side2 ?side3 ?side4 ?side5 ?side6 ?side7 ?side8 A3.out).mono ?_); (case side1 => exact zC DA.out HB.out); (case side2 => exact FA.out); (case side3 => exact zC CA.out HB.out); (case side4 => exact EA.out); (case side5 => exact zC QC.out HB.out); (case side6 => exact RC.out); (case side7 => exact Kd.C_nil _ _); (case side8 => exact Nat.le_refl _); rintro e pH ⟨rfl, hb⟩; refine ⟨_, rfl, ?_⟩; replace wA := zbl wA.out hb; replace HB := zbs2 HB.out OA.out hb; (try clear hb)))
  go_ret2
  exact ⟨_, zE, by first | exact Kd.R_nil _ _ _ _ _ | exact Kd.N_nil _ _ _ _ _ | exact Kd.V_nil _ _ _ _ _ | exact Kd.Q_nil _ _ _ _ _ | exact Kd.S_nil _ _ _ _ _, zB2 HB.out OA.out⟩

mutual
def laws_FnExactFewestStays.j0 : Nat → List (List (S122)) → List Int → Int → List (List (S113)) → List Int → Int → Bool → List (S166) → List (S168) → List (S164) → List (S115) → Option (Bool)
 | 0, _, _, _, _, _, _, _, _, _, _, _ => none
 | k + 1, x1, x6, x7, x9, x10, x11, x53, ZA, YA, UC, TC => if x53 = true then (some false) else ((laws_toFrame.f k ZA YA).bind fun ZD => ((laws_eqFrame.f k UC TC ZD.1 ZD.2).bind fun lE => (if lE = true then ((laws_toPullSS.f k x1).bind fun cB => ((laws_eqPullSS.f k x9 cB).bind fun kE => (if kE = true then ((laws_markFrame.f k UC TC 1).bind fun fF => ((laws_markPullSS.f k x9 fF.1).bind fun eF => (if eF.1 < 0 then (laws_FnExactFewestStays.j1 k x1 x6 x7 x10 true ZA YA) else ((laws_eqInt64S.f k x10 x6).bind fun iE => (if iE = true then (laws_FnExactFewestStays.j1 k x1 x6 x7 x10 (x11 != x7) ZA YA) else (laws_FnExactFewestStays.j1 k x1 x6 x7 x10 true ZA YA)))))) else (some false)))) else (some false))))
def laws_FnExactFewestStays.j1 : Nat → List (List (S122)) → List Int → Int → List Int → Bool → List (S166) → List (S168) → Option (Bool)
 | 0, _, _, _, _, _, _, _ => none
 | k + 1, x1, x6, x7, x10, x82, ZA, YA => if x82 = true then (some false) else ((laws_markInt64S.f k x10 1).bind fun PB => ((laws_heldInt64S.f k PB.2 1).bind fun LB => (if LB < 0 then (some false) else (if LB = PB.1 then ((laws_toFrame.f k ZA YA).bind fun YD => ((laws_toPullSS.f k x1).bind fun jD => ((impl_FewestStays.f k YD.1 YD.2 jD).bind fun XD => ((laws_eqInt64S.f k XD.1 x6).bind fun eE => (if eE = true then (laws_FnExactFewestStays.j2 k PB.2 PB.1 (XD.2 != x7)) else (laws_FnExactFewestStays.j2 k PB.2 PB.1 true)))))) else (some false)))))
def laws_FnExactFewestStays.j2 : Nat → List Int → Int → Bool → Option (Bool)
 | 0, _, _, _ => none
 | k + 1, x10, x13, KF => if KF = true then (some false) else ((laws_heldInt64S.f k x10 1).bind fun KB => (if KB < 0 then (some false) else (if KB = x13 then (some true) else (some false))))
end
def laws_FnExactFewestStays.f (k : Nat) (l0_0 : List (S166)) (l0_1 : List (S168)) (l1 : List (List (S122))) : Option (Bool) := (laws_szFrame.f l0_0 l0_1 1048576).bind fun zB => (if zB < 0 then (some true) else ((laws_szPullSS.f k l1 zB).bind fun nD => (if nD < 0 then (some true) else ((laws_toFrame.f k l0_0 l0_1).bind fun aE => ((laws_toPullSS.f k l1).bind fun mD => ((spec_FewestStays.f k aE.1 aE.2 mD).bind fun SB => ((laws_toFrame.f k l0_0 l0_1).bind fun RB => ((laws_toPullSS.f k l1).bind fun eB => ((impl_FewestStays.f k RB.1 RB.2 eB).bind fun QB => ((laws_eqInt64S.f k QB.1 SB.1).bind fun mE => (if mE = true then (laws_FnExactFewestStays.j0 k l1 SB.1 SB.2 eB QB.1 QB.2 (QB.2 != SB.2) l0_0 l0_1 RB.1 RB.2) else (laws_FnExactFewestStays.j0 k l1 SB.1 SB.2 eB QB.1 QB.2 true l0_0 l0_1 RB.1 RB.2))))))))))))
theorem laws_FnExactFewestStays.j0_cut (k : Nat) (x0_ : List (List (S122))) (x1_ : List Int) (x2_ : Int) (x3_ : List (List (S113))) (x4_ : List Int) (x5_ : Int) (x7_ : List (S166)) (x8_ : List (S168)) (x9_ : List (S164)) (x10_ : List (S115)) (r : Bool) (h : laws_FnExactFewestStays.j0 k x0_ x1_ x2_ x3_ x4_ x5_ true x7_ x8_ x9_ x10_ = some r) (hr : r = true) : False := by
 cases k with
 | zero => simp only [laws_FnExactFewestStays.j0] at h; cases h
 | succ k =>
  have h2 : some false = some r := h
  cases h2
  cases hr
theorem laws_FnExactFewestStays.j1_cut (k : Nat) (x0_ : List (List (S122))) (x1_ : List Int) (x2_ : Int) (x3_ : List Int) (x5_ : List (S166)) (x6_ : List (S168)) (r : Bool) (h : laws_FnExactFewestStays.j1 k x0_ x1_ x2_ x3_ true x5_ x6_ = some r) (hr : r = true) : False := by
 cases k with
 | zero => simp only [laws_FnExactFewestStays.j1] at h; cases h
 | succ k =>
  have h2 : some false = some r := h
  cases h2
  cases hr
theorem laws_FnExactFewestStays.j2_cut (k : Nat) (x0_ : List Int) (x1_ : Int) (r : Bool) (h : laws_FnExactFewestStays.j2 k x0_ x1_ true = some r) (hr : r = true) : False := by
 cases k with
 | zero => simp only [laws_FnExactFewestStays.j2] at h; cases h
 | succ k =>
  have h2 : some false = some r := h
  cases h2
  cases hr
theorem laws_FnExactFewestStays.calls (k : Nat) (A0_0 : Option Addr) (c0_0 : Nat) (l0_0 : List (S166)) (A0_1 : Option Addr) (c0_1 : Nat) (l0_1 : List (S168)) (A1 : Option Addr) (c1 : Nat) (l1 : List (List (S122))) (r : Bool) (w : World) (hr0_0 : Kd.C k166 w A0_0 l0_0.length l0_0) (hc0_0 : l0_0.length ≤ c0_0) (hr0_1 : Kd.C k168 w A0_1 l0_1.length l0_1) (hc0_1 : l0_1.length ≤ c0_1) (hr1 : Kd.C (Kd.slice 122 k122) w A1 l1.length l1) (hc1 : l1.length ≤ c1) (h : laws_FnExactFewestStays.f k l0_0 l0_1 l1 = some r) (hrt : r = true) :
  Calls Try.prog 12 #[.agg #[.slice A0_0 l0_0.length c0_0, .slice A0_1 l0_1.length c0_1], .slice A1 l1.length c1] w fun e w' => e = .returned (.bool r) ∧ Below w.heap.size w w' := by
 have HRT := zQ hrt
 clear hrt
 have PH := Try.underlying54
 have SE := Try.underlying27
 have DA := zQ hr0_0
 have FA := zQ hc0_0
 clear hr0_0 hc0_0
 have CA := zQ hr0_1
 have EA := zQ hc0_1
 clear hr0_1 hc0_1
 have QC := zQ hr1
 have RC := zQ hc1
 clear hr1 hc1
 have HB := zQ (Below.refl w.heap.size w)
 have H := h; unfold laws_FnExactFewestStays.f at H
 clear h
 replace H := zob H; obtain ⟨zB, A3, H⟩ := H
 by_cases c4 : zB < 0
 ·rw [if_pos c4] at H
  have OB := decide_eq_true c4; clear c4; obtain rfl := Option.some.inj H
  go_enter Try.func12, Try.ntmps12
  go_wp2_with (first | ((with_reducible refine zd 2 ?_); refine zbx (N := 2) (cs := #[.slice A0_0 l0_0.length c0_0, .slice A0_1 l0_1.length c0_1]) (t := 54) ?_; intro yA hg w5 JA hb; have cA := zQ (JA); have FC := zgz hg HB.out; have fA := FC; replace HB := zbs HB.out hb; clear hb JA hg; obtain ⟨LC, KC, JC, IC⟩ := zy2 cA.out) | ((with_reducible refine zgc 34 ?_); refine zgo (some 19) Try.func34 #[.agg #[.slice A0_0 l0_0.length c0_0, .slice A0_1 l0_1.length c0_1], .int .i64 1048576] ?_; (with_reducible refine (laws_szFrame.calls _ _ l0_0 _ _ l0_1 1048576 zB _ (zC DA.out HB.out) FA.out (zC CA.out HB.out) EA.out A3.out).mono ?_); rintro e w7 ⟨rfl, hb⟩; refine ⟨_, rfl, ?_⟩; replace cA := zbl cA.out hb; replace HB := zbs2 HB.out fA.out hb; (try clear hb)))
  go_ret
  exact ⟨zE, zB2 HB.out fA.out⟩
 ·rw [if_neg c4] at H
  have OB := decide_eq_false c4; clear c4; replace H := zob H; obtain ⟨nD, A8, H⟩ := H
  by_cases c9 : nD < 0
  ·rw [if_pos c9] at H
   have LD := decide_eq_true c9; clear c9; obtain rfl := Option.some.inj H
   go_enter Try.func12, Try.ntmps12
   go_wp2_with (first | ((with_reducible refine zd 2 ?_); refine zbx (N := 2) (cs := #[.slice A0_0 l0_0.length c0_0, .slice A0_1 l0_1.length c0_1]) (t := 54) ?_; intro yA hg iJ JA hb; have cA := zQ (JA); have FC := zgz hg HB.out; have fA := FC; replace HB := zbs HB.out hb; clear hb JA hg; obtain ⟨AC, yC, nC, mC⟩ := zy2 cA.out) | ((with_reducible refine zgc 34 ?_); refine zgo (some 19) Try.func34 #[.agg #[.slice A0_0 l0_0.length c0_0, .slice A0_1 l0_1.length c0_1], .int .i64 1048576] ?_; (with_reducible refine (laws_szFrame.calls _ _ l0_0 _ _ l0_1 1048576 zB _ (zC DA.out HB.out) FA.out (zC CA.out HB.out) EA.out A3.out).mono ?_); rintro e sH ⟨rfl, hb⟩; refine ⟨_, rfl, ?_⟩; replace cA := zbl cA.out hb; replace HB := zbs2 HB.out fA.out hb; (try clear hb)) | ((with_reducible refine zgc 46 ?_); refine zgo (some 24) Try.func46 #[.slice A1 l1.length c1, .int .i64 zB] ?_; (with_reducible refine (laws_szPullSS.calls k _ _ l1 zB nD _ (zC QC.out HB.out) RC.out A8.out).mono ?_); rintro e w' ⟨rfl, ⟨nd, rfl⟩⟩; refine ⟨_, rfl, ?_⟩))
   go_ret
   exact ⟨zE, zB2 HB.out fA.out⟩
  ·rw [if_neg c9] at H
   have LD := decide_eq_false c9; clear c9; replace H := zob H; obtain ⟨⟨oE, nE⟩, II, H⟩ := H; replace H := zob H; obtain ⟨mD, HI, H⟩ := H; replace H := zob H; obtain ⟨⟨MB, eD⟩, GI, H⟩ := H; replace H := zob H; obtain ⟨⟨pA, qA⟩, FI, H⟩ := H; replace H := zob H; obtain ⟨eB, ME, H⟩ := H
   replace H := zob H; obtain ⟨⟨dB, CD⟩, JF, H⟩ := H; have FE := zQ H; clear H
   go_enter Try.func12, Try.ntmps12
   go_upto_region 12 with (first | ((with_reducible refine zd 2 ?_); refine zbx (N := 2) (cs := #[.slice A0_0 l0_0.length c0_0, .slice A0_1 l0_1.length c0_1]) (t := 54) ?_; intro yA hg gJ JA hb; have cA := zQ (JA); have FC := zgz hg HB.out; have fA := FC; replace HB := zbs HB.out hb; clear hb JA hg; obtain ⟨xC, wC, lC, kC⟩ := zy2 cA.out) | ((with_reducible refine zgc 34 ?_); refine zgo (some 19) Try.func34 #[.agg #[.slice A0_0 l0_0.length c0_0, .slice A0_1 l0_1.length c0_1], .int .i64 1048576] ?_; (with_reducible refine (laws_szFrame.calls _ _ l0_0 _ _ l0_1 1048576 zB _ (zC DA.out HB.out) FA.out (zC CA.out HB.out) EA.out A3.out).mono ?_); rintro e OE ⟨rfl, hb⟩; refine ⟨_, rfl, ?_⟩; replace cA := zbl cA.out hb; replace HB := zbs2 HB.out fA.out hb; (try clear hb)) | ((with_reducible refine zgc 46 ?_); refine zgo (some 24) Try.func46 #[.slice A1 l1.length c1, .int .i64 zB] ?_; (with_reducible refine (laws_szPullSS.calls k _ _ l1 zB nD _ (zC QC.out HB.out) RC.out A8.out).mono ?_); rintro e w' ⟨rfl, ⟨nd, rfl⟩⟩; refine ⟨_, rfl, ?_⟩; (try (rw [drewN_self OE]; generalize hq_ : World.drewN OE _ = OE; have n0_ : Aside0 (OE.heap[yA]? = some (.cells #[.slice A0_0 l0_0.length c0_0, .slice A0_1 l0_1.length c0_1] 54 (0, 0))) := ⟨by rw [← hq_]; exact (zb cA.out)⟩; have n1_ : Aside0 (Below w.heap.size w OE) := ⟨by rw [← hq_]; exact (zB2 HB.out fA.out)⟩; clear cA HB hq_; have cA := n0_; have HB := n1_; clear n0_ n1_)); (try (have hczrw22_gb386_0 := zc0 cA.out)); (try (have hfzrw22_gb386_0 := zfz cA.out 0)); (try (have hczrw22_gb386_1 := zc1 cA.out)); (try (have hfzrw22_gb386_1 := zfz cA.out 1)); obtain ⟨vC, uC, jC, iC⟩ := zy2 cA.out) | ((with_reducible refine zgc 36 ?_); refine zgo (some 29) Try.func36 #[.agg #[.slice A0_0 l0_0.length c0_0, .slice A0_1 l0_1.length c0_1]] ?_; (with_reducible refine (laws_toFrame.calls k _ _ l0_0 _ _ l0_1 oE nE _ (zC DA.out HB.out) FA.out (zC CA.out HB.out) EA.out II.out).mono ?_); rintro e qH ⟨IH, HH, rfl, rA, XC, hb⟩; refine ⟨_, rfl, ?_⟩; have IA := zQ (Kd.R_lower rA (below_size (zB2 HB.out fA.out))); have GA := zQ (Kd.R_lower XC (below_size (zB2 HB.out fA.out))); replace cA := zbl cA.out hb; replace HB := zbs2 HB.out fA.out hb; (try clear hb); (try clear rA); (try clear XC)) | ((with_reducible refine zgc 48 ?_); refine zgo (some 31) Try.func48 #[.slice A1 l1.length c1] ?_; (with_reducible refine (laws_toPullSS.calls k _ _ l1 mD _ (zC QC.out HB.out) RC.out HI.out).mono ?_); rintro e dJ ⟨GH, rfl, rA, hb⟩; refine ⟨_, rfl, ?_⟩; have NA := zQ (Kd.S_lower rA (below_size (zB2 HB.out fA.out))); replace IA := zRb IA.out hb; replace GA := zRb GA.out hb; replace cA := zbl cA.out hb; replace HB := zbs2 HB.out fA.out hb; (try clear hb); (try clear rA); obtain ⟨TG, DG, nG⟩ := Kd.R_slice IA.out; subst nG; obtain ⟨mF, YE, vE⟩ := Kd.R_slice GA.out; subst vE; obtain ⟨lF, XE, uE⟩ := Kd.S_slice NA.out; subst uE) | ((with_reducible refine zgc 59 ?_); refine zgo (some 32) Try.func59 #[.agg #[.slice TG oE.length DG, .slice mF nE.length YE], .slice lF mD.length XE] ?_; (with_reducible refine (spec_FewestStays.calls k _ _ oE _ _ nE _ _ mD MB eD _ ?side1 ((Kd.R_reads' IA.out).2.1) ?side3 ((Kd.R_reads' GA.out).2.1) ?side5 ((Kd.S_reads' NA.out).2.1) GI.out).mono ?_); (case side1 => exact zk (Kd.R_reads' IA.out).2.2); (case side3 => exact zk (Kd.R_reads' GA.out).2.2); (case side5 => repeat (first | exact (Kd.S_reads' NA.out).2.2 | (with_reducible refine Kd.C_alloc ?_ _) | (with_reducible refine Kd.C_drewN ?_ _) | (with_reducible refine Kd.C_drew ?_))); rintro e cJ ⟨jB, rfl, rA, hb⟩; refine ⟨_, rfl, ?_⟩; have RA := zQ (Kd.R_lower rA (below_size (zB2 HB.out fA.out))); replace IA := zRb IA.out hb; replace GA := zRb GA.out hb; replace NA := zQ (Kd.S_below (zS NA.out) hb); replace cA := zbl cA.out hb; replace HB := zbs2 HB.out fA.out hb; (try clear hb); (try clear rA); obtain ⟨tC, sC, hC, gC⟩ := zy2 cA.out) | ((with_reducible refine zgc 36 ?_); refine zgo (some 36) Try.func36 #[.agg #[.slice A0_0 l0_0.length c0_0, .slice A0_1 l0_1.length c0_1]] ?_; (with_reducible refine (laws_toFrame.calls k _ _ l0_0 _ _ l0_1 pA qA _ (zC DA.out HB.out) FA.out (zC CA.out HB.out) EA.out FI.out).mono ?_); rintro e oH ⟨FH, EH, rfl, rA, XC, hb⟩; refine ⟨_, rfl, ?_⟩; have hB := zQ (Kd.R_lower (Kd.R_new' rA (Kd.R_lt (zR IA.out))) (below_size (zB2 HB.out fA.out))); have gB := zQ (Kd.R_lower (Kd.R_new' XC (Kd.R_lt (zR GA.out))) (below_size (zB2 HB.out fA.out))); replace IA := zQ (Kd.R_elder' (zR IA.out) (Kd.R_base rA) hb); replace GA := zQ (Kd.R_elder' (zR GA.out) (Kd.R_base XC) hb); replace NA := zQ (Kd.S_below (zS NA.out) hb); replace RA := zRb RA.out hb; replace cA := zbl cA.out hb; replace HB := zbs2 HB.out fA.out hb; (try clear hb); (try clear rA); (try clear XC)) | ((with_reducible refine zd 8 ?_); refine zbx (N := 8) (cs := #[.slice none 0 0, .slice none 0 0]) (t := 27) ?_; intro kA hg bJ JA hb; have dA := zQ (JA); have kF := zgz2 hg HB.out fA.out; have nA := kF; have QA := zn1 hg cA.out; have tB := zn2 hg cA.out; replace IA := zRb IA.out hb; replace GA := zRb GA.out hb; replace NA := zQ (Kd.S_below (zS NA.out) hb); replace RA := zRb RA.out hb; replace hB := zRb hB.out hb; replace gB := zRb gB.out hb; replace cA := zbl cA.out hb; replace HB := zbs2 HB.out fA.out hb; clear hb JA hg; obtain ⟨tA, sA, tE⟩ := Kd.R_slice hB.out; subst tE; have fH := tB.out; have cH := QA.out; obtain ⟨rC, qC, fC, eC⟩ := zy2 dA.out; obtain ⟨xA, vA, hG⟩ := Kd.R_slice gB.out; subst hG) | ((with_reducible refine zgc 48 ?_); refine zgo (some 38) Try.func48 #[.slice A1 l1.length c1] ?_; (with_reducible refine (laws_toPullSS.calls k _ _ l1 eB _ (Kd.C_below QC.out (zB3 HB.out fA.out nA.out)) RC.out ME.out).mono ?_); rintro e ZI ⟨DH, rfl, rA, hb⟩; refine ⟨_, rfl, ?_⟩; have TB := zQ (Kd.S_lower (Kd.S_new' rA (Kd.S_lt (by (with_reducible repeat (first | apply Kd.S_alloc | apply Kd.S_drewN | apply Kd.S_drew)); exact (Kd.S_mono (Kd.S_far (p := ⟨kA, 1, none⟩) (Kd.S_far (p := ⟨kA, 0, none⟩) (Kd.S_types NA.out dA.out (by decide)) (fun _ hk => hk.2) (.slice tA pA.length sA)) (fun _ hk => hk.2) (.slice xA qA.length vA)) (fun _ h_ => h_.1))))) (below_size (zB3 HB.out fA.out nA.out))); replace IA := zQ (Kd.R_below (by (with_reducible repeat (first | apply Kd.R_alloc | apply Kd.R_drewN | apply Kd.R_drew)); exact (Kd.R_mono (Kd.R_far (p := ⟨kA, 1, none⟩) (Kd.R_far (p := ⟨kA, 0, none⟩) (Kd.R_types IA.out dA.out (by decide)) (fun _ hk => hk.2) (.slice tA pA.length sA)) (fun _ hk => hk.2) (.slice xA qA.length vA)) (fun _ h_ => h_.1))) hb); replace GA := zQ (Kd.R_below (by (with_reducible repeat (first | apply Kd.R_alloc | apply Kd.R_drewN | apply Kd.R_drew)); exact (Kd.R_mono (Kd.R_far (p := ⟨kA, 1, none⟩) (Kd.R_far (p := ⟨kA, 0, none⟩) (Kd.R_types GA.out dA.out (by decide)) (fun _ hk => hk.2) (.slice tA pA.length sA)) (fun _ hk => hk.2) (.slice xA qA.length vA)) (fun _ h_ => h_.1))) hb); replace NA := zQ (Kd.S_elder' (by (with_reducible repeat (first | apply Kd.S_alloc | apply Kd.S_drewN | apply Kd.S_drew)); exact (Kd.S_mono (Kd.S_far (p := ⟨kA, 1, none⟩) (Kd.S_far (p := ⟨kA, 0, none⟩) (Kd.S_types NA.out dA.out (by decide)) (fun _ hk => hk.2) (.slice tA pA.length sA)) (fun _ hk => hk.2) (.slice xA qA.length vA)) (fun _ h_ => h_.1))) (Kd.S_base rA) hb); replace RA := zQ (Kd.R_below (by (with_reducible repeat (first | apply Kd.R_alloc | apply Kd.R_drewN | apply Kd.R_drew)); exact (Kd.R_mono (Kd.R_far (p := ⟨kA, 1, none⟩) (Kd.R_far (p := ⟨kA, 0, none⟩) (Kd.R_types RA.out dA.out (by decide)) (fun _ hk => hk.2) (.slice tA pA.length sA)) (fun _ hk => hk.2) (.slice xA qA.length vA)) (fun _ h_ => h_.1))) hb); replace hB := zQ (Kd.R_below (by (with_reducible repeat (first | apply Kd.R_alloc | apply Kd.R_drewN | apply Kd.R_drew)); exact (Kd.R_mono (Kd.R_far (p := ⟨kA, 1, none⟩) (Kd.R_far (p := ⟨kA, 0, none⟩) (Kd.R_types hB.out dA.out (by decide)) (fun _ hk => hk.2) (.slice tA pA.length sA)) (fun _ hk => hk.2) (.slice xA qA.length vA)) (fun _ h_ => h_.1))) hb); replace gB := zQ (Kd.R_below (by (with_reducible repeat (first | apply Kd.R_alloc | apply Kd.R_drewN | apply Kd.R_drew)); exact (Kd.R_mono (Kd.R_far (p := ⟨kA, 1, none⟩) (Kd.R_far (p := ⟨kA, 0, none⟩) (Kd.R_types gB.out dA.out (by decide)) (fun _ hk => hk.2) (.slice tA pA.length sA)) (fun _ hk => hk.2) (.slice xA qA.length vA)) (fun _ h_ => h_.1))) hb); replace cA := zQ (blk_below (g := yA) (o := .cells #[.slice A0_0 l0_0.length c0_0, .slice A0_1 l0_1.length c0_1] 54 (0, 0)) (by refine zb ?_; refine blk_far ?_ QA.out _; refine zb ?_; refine blk_far ?_ QA.out _; refine zb ?_; exact cA.out) hb); replace dA := zQ (blk_below (g := kA) (o := .cells #[.slice tA pA.length sA, .slice xA qA.length vA] 27 (0, 0)) (by refine zb ?_; refine blk_put (cs := #[.slice tA pA.length sA, .slice none 0 0]) ?_ 1 _ rfl; refine zb ?_; refine blk_put (cs := #[.slice none 0 0, .slice none 0 0]) ?_ 0 _ rfl; refine zb ?_; exact dA.out) hb); replace HB := zQ (below_step (zB3 HB.out fA.out nA.out) hb); (try clear hb); (try clear rA); obtain ⟨pC, oC, dC, cC⟩ := zy2 dA.out; obtain ⟨hD, fD, eG⟩ := Kd.S_slice TB.out; subst eG) | ((with_reducible refine zgc 60 ?_); refine zgo (some 42) Try.func60 #[.agg #[.slice tA pA.length sA, .slice xA qA.length vA], .slice hD eB.length fD] ?_; (with_reducible refine (impl_FewestStays.calls k _ _ pA _ _ qA _ _ eB dB CD _ ?side1 ((Kd.R_reads' hB.out).2.1) ?side3 ((Kd.R_reads' gB.out).2.1) ?side5 ((Kd.S_reads' TB.out).2.1) JF.out).mono ?_); (case side1 => exact zk (Kd.R_reads' hB.out).2.2); (case side3 => exact zk (Kd.R_reads' gB.out).2.2); (case side5 => repeat (first | exact (Kd.S_reads' TB.out).2.2 | (with_reducible refine Kd.C_alloc ?_ _) | (with_reducible refine Kd.C_drewN ?_ _) | (with_reducible refine Kd.C_drew ?_))); rintro e XI ⟨iB, rfl, rA, hb⟩; refine ⟨_, rfl, ?_⟩; have dD := zQ (Kd.R_lower (Kd.R_new' rA (Kd.R_lt (zR RA.out))) (below_size (zB3 HB.out fA.out nA.out))); replace IA := zRb IA.out hb; replace GA := zRb GA.out hb; replace NA := zQ (Kd.S_below (zS NA.out) hb); replace RA := zQ (Kd.R_elder' (zR RA.out) (Kd.R_base rA) hb); replace hB := zRb hB.out hb; replace gB := zRb gB.out hb; replace TB := zQ (Kd.S_below (zS TB.out) hb); replace cA := zbl cA.out hb; replace dA := zbl dA.out hb; replace HB := zQ (below_step (zB3 HB.out fA.out nA.out) hb); (try clear hb); (try clear rA)))
   (try simp only [Act.put, List.setIfInBounds_toArray, List.set_cons_zero, List.set_cons_succ])
   go_cut [53] (fun vH wc => ∃ (kq : Nat) (XB : Bool), vH = .bool XB ∧ Aside0 (laws_FnExactFewestStays.j0 kq l1 MB eD eB dB CD XB l0_0 l0_1 pA qA = some r) ∧ Aside0 (kq ≤ k) ∧ Aside0 (Kd.R (Kd.int .i64) 2 wc w.heap.size (fun k_ => some k_ ≠ (iB : Value).ownBlock) jB MB) ∧ Aside0 (Kd.S (Kd.slice 113 k113) 28 wc w.heap.size (fun _ => True) (.slice hD eB.length fD) eB) ∧ Aside0 (Kd.R (Kd.int .i64) 2 wc w.heap.size (fun k_ => some k_ ≠ (jB : Value).ownBlock) iB dB) ∧ Aside0 (Kd.R k164 164 wc w.heap.size (fun _ => True) (.slice tA pA.length sA) pA) ∧ Aside0 (Kd.R k115 115 wc w.heap.size (fun _ => True) (.slice xA qA.length vA) qA) ∧ Aside0 (wc.heap[yA]? = some (.cells #[(.slice A0_0 l0_0.length c0_0), (.slice A0_1 l0_1.length c0_1)] 54 (0, 0))) ∧ Aside0 (wc.heap[kA]? = some (.cells #[(.slice tA pA.length sA), (.slice xA qA.length vA)] 27 (0, 0))) ∧ Aside0 (Below w.heap.size w wc))
   case first =>
    have H := FE.out; clear FE; replace H := zob H; obtain ⟨mE, EI, H⟩ := H
    by_cases yE : mE = true
    ·subst yE
     rw [if_pos rfl] at H; have H' := zQ H; clear H; obtain ⟨PG, zG, bG⟩ := Kd.R_slice dD.out; subst bG; obtain ⟨OG, yG, aG⟩ := Kd.R_slice RA.out; subst aG
     go_wp2_with (first | ((with_reducible refine zgc 41 ?_); refine zgo (some 47) Try.func41 #[.slice PG dB.length zG, .slice OG MB.length yG] ?_; (with_reducible refine (laws_eqInt64S.calls k _ _ dB _ _ MB true _ ?side1 ((Kd.R_reads' dD.out).2.1) ?side3 ((Kd.R_reads' RA.out).2.1) EI.out).mono ?_); (case side1 => exact zk (Kd.R_reads' dD.out).2.2); (case side3 => exact zk (Kd.R_reads' RA.out).2.2); rintro e w' ⟨rfl, ⟨nd, rfl⟩⟩; refine ⟨_, rfl, ?_⟩))
     go_meet
     case rel => exact ⟨_, ((CD != eD)), (zF), H', ⟨by first | omega | exact Nat.le_refl _⟩, ⟨by (with_reducible repeat (first | apply Kd.R_alloc | apply Kd.R_drewN | apply Kd.R_drew)); exact Kd.R_mono RA.out (fun _ hk => hk.2)⟩, ⟨by (with_reducible repeat (first | apply Kd.S_alloc | apply Kd.S_drewN | apply Kd.S_drew)); exact Kd.S_mono TB.out (fun _ hk => trivial)⟩, ⟨by (with_reducible repeat (first | apply Kd.R_alloc | apply Kd.R_drewN | apply Kd.R_drew)); exact Kd.R_mono dD.out (fun _ hk => hk.2)⟩, ⟨by (with_reducible repeat (first | apply Kd.R_alloc | apply Kd.R_drewN | apply Kd.R_drew)); exact Kd.R_mono hB.out (fun _ hk => trivial)⟩, ⟨by (with_reducible repeat (first | apply Kd.R_alloc | apply Kd.R_drewN | apply Kd.R_drew)); exact Kd.R_mono gB.out (fun _ hk => trivial)⟩, ⟨zb cA.out⟩, ⟨zb dA.out⟩, ⟨zB3 HB.out fA.out nA.out⟩⟩
    ·replace yE := Bool.eq_false_iff.mpr yE
     subst yE
     rw [if_neg Bool.false_ne_true] at H
     exact (laws_FnExactFewestStays.j0_cut _ _ _ _ _ _ _ _ _ _ _ _ H HRT.out).elim
   case rest =>
    clear FE; (try clear c1); (try clear p2); (try clear c3); (try clear c4); (try clear OB); (try clear c5); (try clear c6); (try clear c9); (try clear LD); (try clear mH); (try clear jH); (try clear iH); (try clear hH); (try clear yE); (try clear gH); (try clear AC yC nC mC); (try clear xC wC lC kC); (try clear vC uC jC iC); (try clear tC sC hC gC); (try clear rC qC fC eC); (try clear pC oC dC cC); (try clear LC KC JC IC); obtain ⟨kq, XB, rfl, HA, jF, oA, mA, eA, bA, aA, cA, dA, HB⟩ := hcut
    cases kq with
    | zero => exact absurd HA.out (by simp [laws_FnExactFewestStays.j0])
    | succ CC =>
     have H := HA.out; clear HA
     simp only [laws_FnExactFewestStays.j0] at H
     by_cases JE : XB = true
     ·subst JE
      rw [if_pos rfl] at H; obtain rfl := Option.some.inj H
      exact absurd HRT.out (by decide)
     ·replace JE := Bool.eq_false_iff.mpr JE
      subst JE
      rw [if_neg Bool.false_ne_true] at H; replace H := zob H; obtain ⟨⟨rB, qB⟩, DI, H⟩ := H; replace H := zob H; obtain ⟨lE, CI, H⟩ := H
      by_cases IE : lE = true
      ·subst IE
       rw [if_pos rfl] at H; replace H := zob H; obtain ⟨cB, BI, H⟩ := H; replace H := zob H; obtain ⟨kE, AI, H⟩ := H
       by_cases HE : kE = true
       ·subst HE
        rw [if_pos rfl] at H; replace H := zob H; obtain ⟨⟨jE, lD, kD⟩, zI, H⟩ := H; replace H := zob H; obtain ⟨⟨RE, PF⟩, yI, H⟩ := H; have EE := zQ H; clear H
        try go_wp2
        have n0_ := zQ (Kd.R_drew oA.out); have n1_ := zQ (Kd.S_drew mA.out); have n2_ := zQ (Kd.R_drew eA.out); have n3_ := zQ (Kd.R_drew bA.out); have n4_ := zQ (Kd.R_drew aA.out); have n5_ := zQ (blk_drew cA.out); have n6_ := zQ (blk_drew dA.out); have n7_ := zQ (below_drew1 HB.out); clear oA; clear mA; clear eA; clear bA; clear aA; clear cA; clear dA; clear HB; have oA := n0_; have mA := n1_; have eA := n2_; have bA := n3_; have aA := n4_; have cA := n5_; have dA := n6_; have HB := n7_; clear n0_ n1_ n2_ n3_ n4_ n5_ n6_ n7_
        refine zs (fun w' => w'.cell? ⟨kA, 0, none⟩ = some (.slice tA pA.length sA) ∧ w'.cell? ⟨kA, 1, none⟩ = some (.slice xA qA.length vA) ∧ w'.cell? ⟨yA, 0, none⟩ = some (.slice A0_0 l0_0.length c0_0) ∧ w'.cell? ⟨yA, 1, none⟩ = some (.slice A0_1 l0_1.length c0_1)) [] 5 ⟨(blk_cell dA.out 0).trans rfl, (blk_cell dA.out 1).trans rfl, (blk_cell cA.out 0).trans rfl, (blk_cell cA.out 1).trans rfl⟩ (fun DC => ?_)
        generalize wc.drew = TI at oA mA eA bA aA cA dA HB DC ⊢
        refine zt 0 54 DC ?_
        refine zt 1 55 DC ?_
        refine zo 2 (some 56) (fun K hK => ?_)
        refine goes_ Try.func36 (by kernel_rfl) rfl #[.agg #[.slice A0_0 l0_0.length c0_0, .slice A0_1 l0_1.length c0_1]] (by rfl) rfl rfl zM ?_
        with_reducible refine (laws_toFrame.calls CC _ _ l0_0 _ _ l0_1 rB qB _ ?side1 ?side2 ?side3 ?side4 DI.out).mono ?_
        (case side1 => exact zC DA.out HB.out)
        (case side2 => exact FA.out)
        (case side3 => exact zC CA.out HB.out)
        (case side4 => exact EA.out)
        rintro e SI ⟨CH, BH, rfl, rA, XC, hb⟩
        refine ⟨_, rfl, ?_⟩
        have n0_ := zRb oA.out hb; have n1_ := zQ (Kd.S_below (zS mA.out) hb); have n2_ := zRb eA.out hb; have n3_ := zQ (Kd.R_elder' (zR bA.out) (Kd.R_base rA) hb); have n4_ := zQ (Kd.R_elder' (zR aA.out) (Kd.R_base XC) hb); have n5_ := zQ (Kd.R_lower (Kd.R_new' rA (Kd.R_lt (zR bA.out))) (below_size (zB3 HB.out fA.out nA.out))); have n6_ := zQ (Kd.R_lower (Kd.R_new' XC (Kd.R_lt (zR aA.out))) (below_size (zB3 HB.out fA.out nA.out))); have n7_ := zbl cA.out hb; have n8_ := zbl dA.out hb; have n9_ := zQ (below_step (zB3 HB.out fA.out nA.out) hb); clear oA; clear mA; clear eA; clear bA; clear aA; clear cA; clear dA; clear HB; have oA := n0_; have mA := n1_; have eA := n2_; have bA := n3_; have aA := n4_; have LA := n5_; have KA := n6_; have cA := n7_; have dA := n8_; have HB := n9_; clear n0_ n1_ n2_ n3_ n4_ n5_ n6_ n7_ n8_ n9_
        (try clear hb)
        (try clear QH)
        (try clear hk)
        (try clear hi)
        (try clear rA)
        (try clear XC)
        obtain ⟨IB, CB, VE⟩ := Kd.R_slice LA.out
        (first | subst VE | (injection VE with f1_ f2_ f3_; have f4_ := f1_.symm; have f5_ := f3_.symm; clear f1_ f2_ f3_; subst f4_; subst f5_))
        obtain ⟨GB, BB, UE⟩ := Kd.R_slice KA.out
        (first | subst UE | (injection UE with f1_ f2_ f3_; have f4_ := f1_.symm; have f5_ := f3_.symm; clear f1_ f2_ f3_; subst f4_; subst f5_))
        refine hK.out _ _ ⟨(blk_cell dA.out 0).trans rfl, (blk_cell dA.out 1).trans rfl, (blk_cell cA.out 0).trans rfl, (blk_cell cA.out 1).trans rfl⟩ (fun DC => ?_)
        clear hK K
        refine zn 56 ?_
        refine zo 3 (some 57) (fun K hK => ?_)
        refine goes_ Try.func39 (by kernel_rfl) rfl #[.agg #[.slice tA pA.length sA, .slice xA qA.length vA], .agg #[.slice IB rB.length CB, .slice GB qB.length BB]] (by rfl) rfl rfl zM ?_
        with_reducible refine (laws_eqFrame.calls CC _ _ pA _ _ qA _ _ rB _ _ qB true _ ?side1 ?side2 ?side3 ?side4 ?side5 ?side6 ?side7 ?side8 CI.out).mono ?_
        (case side1 => exact zk (Kd.R_reads' bA.out).2.2)
        (case side2 => exact (Kd.R_reads' bA.out).2.1)
        (case side3 => exact zk (Kd.R_reads' aA.out).2.2)
        (case side4 => exact (Kd.R_reads' aA.out).2.1)
        (case side5 => exact zk (Kd.R_reads' LA.out).2.2)
        (case side6 => exact (Kd.R_reads' LA.out).2.1)
        (case side7 => exact zk (Kd.R_reads' KA.out).2.2)
        (case side8 => exact (Kd.R_reads' KA.out).2.1)
        rintro e RI ⟨rfl, hb⟩
        refine ⟨_, rfl, ?_⟩
        have n0_ := zRb oA.out hb; have n1_ := zQ (Kd.S_below (zS mA.out) hb); have n2_ := zRb eA.out hb; have n3_ := zRb bA.out hb; have n4_ := zRb aA.out hb; have n5_ := zRb LA.out hb; have n6_ := zRb KA.out hb; have n7_ := zbl cA.out hb; have n8_ := zbl dA.out hb; have n9_ := zQ (below_step (zB3 HB.out fA.out nA.out) hb); clear oA; clear mA; clear eA; clear bA; clear aA; clear LA; clear KA; clear cA; clear dA; clear HB; have oA := n0_; have mA := n1_; have eA := n2_; have bA := n3_; have aA := n4_; have LA := n5_; have KA := n6_; have cA := n7_; have dA := n8_; have HB := n9_; clear n0_ n1_ n2_ n3_ n4_ n5_ n6_ n7_ n8_ n9_
        (try clear hb)
        (try clear QH)
        (try clear hk)
        (try clear hi)
        refine hK.out _ _ ⟨(blk_cell dA.out 0).trans rfl, (blk_cell dA.out 1).trans rfl, (blk_cell cA.out 0).trans rfl, (blk_cell cA.out 1).trans rfl⟩ (fun DC => ?_)
        clear hK K
        refine zn 57 ?_
        refine zp 4 58 ?_
        refine done_ (by kernel_rfl) ?_
        go_upto_region 21 with (first | ((with_reducible refine zgc 48 ?_); refine zgo (some 61) Try.func48 #[.slice A1 l1.length c1] ?_; (with_reducible refine (laws_toPullSS.calls CC _ _ l1 cB _ (zC QC.out HB.out) RC.out BI.out).mono ?_); rintro e QI ⟨AH, rfl, rA, hb⟩; refine ⟨_, rfl, ?_⟩; have uB := zQ (Kd.S_lower (Kd.S_new' rA (Kd.S_lt (zS mA.out))) (below_size (zB3 HB.out fA.out nA.out))); replace oA := zRb oA.out hb; replace mA := zQ (Kd.S_elder' (zS mA.out) (Kd.S_base rA) hb); replace eA := zRb eA.out hb; replace bA := zRb bA.out hb; replace aA := zRb aA.out hb; replace LA := zRb LA.out hb; replace KA := zRb KA.out hb; replace cA := zbl cA.out hb; replace dA := zbl dA.out hb; replace HB := zQ (below_step (zB3 HB.out fA.out nA.out) hb); (try clear hb); (try clear rA); obtain ⟨xB, wB, YF⟩ := Kd.S_slice uB.out; subst YF) | ((with_reducible refine zgc 50 ?_); refine zgo (some 62) Try.func50 #[.slice hD eB.length fD, .slice xB cB.length wB] ?_; (with_reducible refine (laws_eqPullSS.calls CC _ _ eB _ _ cB true _ ?side1 ((Kd.S_reads' mA.out).2.1) ?side3 ((Kd.S_reads' uB.out).2.1) AI.out).mono ?_); (case side1 => repeat (first | exact (Kd.S_reads' mA.out).2.2 | (with_reducible refine Kd.C_alloc ?_ _) | (with_reducible refine Kd.C_drewN ?_ _) | (with_reducible refine Kd.C_drew ?_))); (case side3 => repeat (first | exact (Kd.S_reads' uB.out).2.2 | (with_reducible refine Kd.C_alloc ?_ _) | (with_reducible refine Kd.C_drewN ?_ _) | (with_reducible refine Kd.C_drew ?_))); rintro e PI ⟨rfl, hb⟩; refine ⟨_, rfl, ?_⟩; replace oA := zRb oA.out hb; replace mA := zQ (Kd.S_below (zS mA.out) hb); replace eA := zRb eA.out hb; replace bA := zRb bA.out hb; replace aA := zRb aA.out hb; replace LA := zRb LA.out hb; replace KA := zRb KA.out hb; replace uB := zQ (Kd.S_below (zS uB.out) hb); replace cA := zbl cA.out hb; replace dA := zbl dA.out hb; replace HB := zQ (below_step (zB3 HB.out fA.out nA.out) hb); (try clear hb); have eH := tB.out; have bH := QA.out; obtain ⟨bD, aD, ZC, YC⟩ := zy2 dA.out) | ((with_reducible refine zgc 42 ?_); refine zgo (some 66) Try.func42 #[.agg #[.slice tA pA.length sA, .slice xA qA.length vA], .int .i64 1] ?_; (with_reducible refine (laws_markFrame.calls CC (fun k_ => some k_ = (.slice tA pA.length sA : Value).ownBlock) (.slice tA pA.length sA) pA (fun k_ => some k_ = (.slice xA qA.length vA : Value).ownBlock) (.slice xA qA.length vA) qA 1 jE lD kD w _ ?side1 (Kd.R_tight rfl bA.out) (Kd.R_tight rfl aA.out) zI.out).mono ?_); (case side1 => exact zB3 HB.out fA.out nA.out); rintro e OI ⟨rfl, PD, ZG, hb, hkp⟩; refine ⟨_, rfl, ?_⟩; replace oA := zQ (Kd.R_mono (ok' := fun k_ => some k_ ≠ (iB : Value).ownBlock) (Kd.R_keptB ((Kd.R_apart' (Kd.R_apart' oA.out (Kd.R_typed bA.out) (by decide)) (Kd.R_typed aA.out) (by decide))) hkp (fun k_ hk_ hs_ => Or.elim hs_ (fun e_ => (hk_.1.2) e_) (fun e_ => (hk_.2) e_))) (fun k_ hk_ => hk_.1.1.1)); replace mA := zQ (Kd.S_mono (ok' := fun k_ => some k_ ≠ (.slice xB cB.length wB : Value).ownBlock) (Kd.S_keptB ((Kd.S_apart' (Kd.S_apart' mA.out (Kd.R_typed bA.out) (by decide)) (Kd.R_typed aA.out) (by decide))) hkp (fun k_ hk_ hs_ => Or.elim hs_ (fun e_ => (hk_.1.2) e_) (fun e_ => (hk_.2) e_))) (fun k_ hk_ => hk_.1.1.1.2)); replace eA := zQ (Kd.R_mono (ok' := fun k_ => some k_ ≠ (jB : Value).ownBlock) (Kd.R_keptB ((Kd.R_apart' (Kd.R_apart' eA.out (Kd.R_typed bA.out) (by decide)) (Kd.R_typed aA.out) (by decide))) hkp (fun k_ hk_ hs_ => Or.elim hs_ (fun e_ => (hk_.1.2) e_) (fun e_ => (hk_.2) e_))) (fun k_ hk_ => hk_.1.1.1)); replace cA := zQ (blk_kept (zb cA.out) hkp (fun hs_ => Or.elim hs_ (fun e_ => (fun e_ => (Kd.R_ne bA.out cA.out (by decide)) e_) e_) (fun e_ => (fun e_ => (Kd.R_ne aA.out cA.out (by decide)) e_) e_))); replace dA := zQ (blk_kept (zb dA.out) hkp (fun hs_ => Or.elim hs_ (fun e_ => (fun e_ => (Kd.R_ne bA.out dA.out (by decide)) e_) e_) (fun e_ => (fun e_ => (Kd.R_ne aA.out dA.out (by decide)) e_) e_))); replace LA := zQ (Kd.R_mono (ok' := fun k_ => some k_ ≠ (.slice tA pA.length sA : Value).ownBlock) (Kd.R_keptB ((Kd.R_apart' LA.out (Kd.R_typed aA.out) (by decide))) hkp (fun k_ hk_ hs_ => Or.elim hs_ (fun e_ => (hk_.1.2) e_) (fun e_ => (hk_.2) e_))) (fun k_ hk_ => hk_.1.1.2)); replace KA := zQ (Kd.R_mono (ok' := fun k_ => some k_ ≠ (.slice xA qA.length vA : Value).ownBlock) (Kd.R_keptB ((Kd.R_apart' KA.out (Kd.R_typed bA.out) (by decide))) hkp (fun k_ hk_ hs_ => Or.elim hs_ (fun e_ => (hk_.2) e_) (fun e_ => (hk_.1.2) e_))) (fun k_ hk_ => hk_.1.1.2)); replace uB := zQ (Kd.S_mono (ok' := fun k_ => some k_ ≠ (.slice hD eB.length fD : Value).ownBlock) (Kd.S_keptB ((Kd.S_apart' (Kd.S_apart' uB.out (Kd.R_typed bA.out) (by decide)) (Kd.R_typed aA.out) (by decide))) hkp (fun k_ hk_ hs_ => Or.elim hs_ (fun e_ => (hk_.1.2) e_) (fun e_ => (hk_.2) e_))) (fun k_ hk_ => hk_.1.1.1.2)); replace bA := zQ (Kd.R_reok rfl PD (fun k_ e_ => bA.out.1 k_ e_)); replace aA := zQ (Kd.R_reok rfl ZG (fun k_ e_ => aA.out.1 k_ e_)); replace HB := zQ (hb); (try clear hb); (try clear hkp); (try clear PD); (try clear ZG)) | ((with_reducible refine zgc 58 ?_); refine zgo (some 69) Try.func58 #[.slice hD eB.length fD, .int .i64 jE] ?_; (with_reducible refine (laws_markPullSS.calls CC (fun k_ => ((((((((some k_ ≠ (.slice xB cB.length wB : Value).ownBlock ∧ some k_ ≠ (jB : Value).ownBlock) ∧ some k_ ≠ (iB : Value).ownBlock) ∧ some k_ ≠ (.slice tA pA.length sA : Value).ownBlock) ∧ some k_ ≠ (.slice xA qA.length vA : Value).ownBlock) ∧ some k_ ≠ (.slice IB rB.length CB : Value).ownBlock) ∧ some k_ ≠ (.slice GB qB.length BB : Value).ownBlock) ∧ k_ ≠ yA) ∧ k_ ≠ kA) ∧ w.heap.size ≤ k_) (.slice hD eB.length fD) eB jE RE PF w _ ?side1 (Kd.S_mono (Kd.S_bound (Kd.S_types (Kd.S_types (Kd.S_apart' (Kd.S_apart' (Kd.S_apart' (Kd.S_apart' (Kd.S_apart' (Kd.S_apart' (mA.out) (Kd.R_typed oA.out) (by decide)) (Kd.R_typed eA.out) (by decide)) (Kd.R_typed bA.out) (by decide)) (Kd.R_typed aA.out) (by decide)) (Kd.R_typed LA.out) (by decide)) (Kd.R_typed KA.out) (by decide)) cA.out (by decide)) dA.out (by decide))) (fun k_ hk => ⟨hk.1, hk.2.1⟩)) yI.out).mono ?_); (case side1 => exact zB3 HB.out fA.out nA.out); rintro e NI ⟨rfl, PD, hb, hkp⟩; refine ⟨_, rfl, ?_⟩; replace oA := zQ (Kd.R_mono (ok' := fun k_ => some k_ ≠ (iB : Value).ownBlock) (Kd.R_keptB ((Kd.R_mono (Kd.R_tight2 rfl oA.out) (fun k_ hk => (⟨hk.2, fun e_ => (e_.1.1.1.1.1.1.1.1.2) hk.1⟩ : _ ∧ ¬ ((fun k_ => ((((((((some k_ ≠ (.slice xB cB.length wB : Value).ownBlock ∧ some k_ ≠ (jB : Value).ownBlock) ∧ some k_ ≠ (iB : Value).ownBlock) ∧ some k_ ≠ (.slice tA pA.length sA : Value).ownBlock) ∧ some k_ ≠ (.slice xA qA.length vA : Value).ownBlock) ∧ some k_ ≠ (.slice IB rB.length CB : Value).ownBlock) ∧ some k_ ≠ (.slice GB qB.length BB : Value).ownBlock) ∧ k_ ≠ yA) ∧ k_ ≠ kA) ∧ w.heap.size ≤ k_)) k_)))) hkp (fun k_ hk_ hs_ => (hk_.2) hs_)) (fun k_ hk_ => hk_.1.1)); replace mA := zQ (Kd.S_mono (ok' := (fun k_ => some k_ ≠ (.slice xB cB.length wB : Value).ownBlock)) PD (fun k_ hk_ => hk_.1.1.1.1.1.1.1.1.1)); replace eA := zQ (Kd.R_mono (ok' := fun k_ => some k_ ≠ (jB : Value).ownBlock) (Kd.R_keptB ((Kd.R_mono (Kd.R_tight2 rfl eA.out) (fun k_ hk => (⟨hk.2, fun e_ => (e_.1.1.1.1.1.1.1.2) hk.1⟩ : _ ∧ ¬ ((fun k_ => ((((((((some k_ ≠ (.slice xB cB.length wB : Value).ownBlock ∧ some k_ ≠ (jB : Value).ownBlock) ∧ some k_ ≠ (iB : Value).ownBlock) ∧ some k_ ≠ (.slice tA pA.length sA : Value).ownBlock) ∧ some k_ ≠ (.slice xA qA.length vA : Value).ownBlock) ∧ some k_ ≠ (.slice IB rB.length CB : Value).ownBlock) ∧ some k_ ≠ (.slice GB qB.length BB : Value).ownBlock) ∧ k_ ≠ yA) ∧ k_ ≠ kA) ∧ w.heap.size ≤ k_)) k_)))) hkp (fun k_ hk_ hs_ => (hk_.2) hs_)) (fun k_ hk_ => hk_.1.1)); replace bA := zQ (Kd.R_mono (ok' := fun k_ => some k_ ≠ (.slice IB rB.length CB : Value).ownBlock) (Kd.R_keptB ((Kd.R_mono (Kd.R_tight2 rfl bA.out) (fun k_ hk => (⟨hk.2, fun e_ => (e_.1.1.1.1.1.1.2) hk.1⟩ : _ ∧ ¬ ((fun k_ => ((((((((some k_ ≠ (.slice xB cB.length wB : Value).ownBlock ∧ some k_ ≠ (jB : Value).ownBlock) ∧ some k_ ≠ (iB : Value).ownBlock) ∧ some k_ ≠ (.slice tA pA.length sA : Value).ownBlock) ∧ some k_ ≠ (.slice xA qA.length vA : Value).ownBlock) ∧ some k_ ≠ (.slice IB rB.length CB : Value).ownBlock) ∧ some k_ ≠ (.slice GB qB.length BB : Value).ownBlock) ∧ k_ ≠ yA) ∧ k_ ≠ kA) ∧ w.heap.size ≤ k_)) k_)))) hkp (fun k_ hk_ hs_ => (hk_.2) hs_)) (fun k_ hk_ => hk_.1.1.2)); replace aA := zQ (Kd.R_mono (ok' := fun k_ => some k_ ≠ (.slice GB qB.length BB : Value).ownBlock) (Kd.R_keptB ((Kd.R_mono (Kd.R_tight2 rfl aA.out) (fun k_ hk => (⟨hk.2, fun e_ => (e_.1.1.1.1.1.2) hk.1⟩ : _ ∧ ¬ ((fun k_ => ((((((((some k_ ≠ (.slice xB cB.length wB : Value).ownBlock ∧ some k_ ≠ (jB : Value).ownBlock) ∧ some k_ ≠ (iB : Value).ownBlock) ∧ some k_ ≠ (.slice tA pA.length sA : Value).ownBlock) ∧ some k_ ≠ (.slice xA qA.length vA : Value).ownBlock) ∧ some k_ ≠ (.slice IB rB.length CB : Value).ownBlock) ∧ some k_ ≠ (.slice GB qB.length BB : Value).ownBlock) ∧ k_ ≠ yA) ∧ k_ ≠ kA) ∧ w.heap.size ≤ k_)) k_)))) hkp (fun k_ hk_ hs_ => (hk_.2) hs_)) (fun k_ hk_ => hk_.1.1.2)); replace cA := zQ (blk_kept (g := yA) (o := .cells #[.slice A0_0 l0_0.length c0_0, .slice A0_1 l0_1.length c0_1] 54 (0, 0)) (zb cA.out) hkp (fun hs_ => (fun (e_ : (fun k_ => ((((((((some k_ ≠ (.slice xB cB.length wB : Value).ownBlock ∧ some k_ ≠ (jB : Value).ownBlock) ∧ some k_ ≠ (iB : Value).ownBlock) ∧ some k_ ≠ (.slice tA pA.length sA : Value).ownBlock) ∧ some k_ ≠ (.slice xA qA.length vA : Value).ownBlock) ∧ some k_ ≠ (.slice IB rB.length CB : Value).ownBlock) ∧ some k_ ≠ (.slice GB qB.length BB : Value).ownBlock) ∧ k_ ≠ yA) ∧ k_ ≠ kA) ∧ w.heap.size ≤ k_) yA) => (e_.1.1.2) rfl) hs_)); replace dA := zQ (blk_kept (g := kA) (o := .cells #[.slice tA pA.length sA, .slice xA qA.length vA] 27 (0, 0)) (zb dA.out) hkp (fun hs_ => (fun (e_ : (fun k_ => ((((((((some k_ ≠ (.slice xB cB.length wB : Value).ownBlock ∧ some k_ ≠ (jB : Value).ownBlock) ∧ some k_ ≠ (iB : Value).ownBlock) ∧ some k_ ≠ (.slice tA pA.length sA : Value).ownBlock) ∧ some k_ ≠ (.slice xA qA.length vA : Value).ownBlock) ∧ some k_ ≠ (.slice IB rB.length CB : Value).ownBlock) ∧ some k_ ≠ (.slice GB qB.length BB : Value).ownBlock) ∧ k_ ≠ yA) ∧ k_ ≠ kA) ∧ w.heap.size ≤ k_) kA) => (e_.1.2) rfl) hs_)); replace LA := zQ (Kd.R_mono (ok' := fun k_ => some k_ ≠ (.slice tA pA.length sA : Value).ownBlock) (Kd.R_keptB ((Kd.R_mono (Kd.R_tight2 rfl LA.out) (fun k_ hk => (⟨hk.2, fun e_ => (e_.1.1.1.1.2) hk.1⟩ : _ ∧ ¬ ((fun k_ => ((((((((some k_ ≠ (.slice xB cB.length wB : Value).ownBlock ∧ some k_ ≠ (jB : Value).ownBlock) ∧ some k_ ≠ (iB : Value).ownBlock) ∧ some k_ ≠ (.slice tA pA.length sA : Value).ownBlock) ∧ some k_ ≠ (.slice xA qA.length vA : Value).ownBlock) ∧ some k_ ≠ (.slice IB rB.length CB : Value).ownBlock) ∧ some k_ ≠ (.slice GB qB.length BB : Value).ownBlock) ∧ k_ ≠ yA) ∧ k_ ≠ kA) ∧ w.heap.size ≤ k_)) k_)))) hkp (fun k_ hk_ hs_ => (hk_.2) hs_)) (fun k_ hk_ => hk_.1.1)); replace KA := zQ (Kd.R_mono (ok' := fun k_ => some k_ ≠ (.slice xA qA.length vA : Value).ownBlock) (Kd.R_keptB ((Kd.R_mono (Kd.R_tight2 rfl KA.out) (fun k_ hk => (⟨hk.2, fun e_ => (e_.1.1.1.2) hk.1⟩ : _ ∧ ¬ ((fun k_ => ((((((((some k_ ≠ (.slice xB cB.length wB : Value).ownBlock ∧ some k_ ≠ (jB : Value).ownBlock) ∧ some k_ ≠ (iB : Value).ownBlock) ∧ some k_ ≠ (.slice tA pA.length sA : Value).ownBlock) ∧ some k_ ≠ (.slice xA qA.length vA : Value).ownBlock) ∧ some k_ ≠ (.slice IB rB.length CB : Value).ownBlock) ∧ some k_ ≠ (.slice GB qB.length BB : Value).ownBlock) ∧ k_ ≠ yA) ∧ k_ ≠ kA) ∧ w.heap.size ≤ k_)) k_)))) hkp (fun k_ hk_ hs_ => (hk_.2) hs_)) (fun k_ hk_ => hk_.1.1)); replace HB := zQ (hb); clear uB; (try clear hb); (try clear hkp); (try clear PD)))
        (try simp only [Act.put, List.setIfInBounds_toArray, List.set_cons_zero, List.set_cons_succ])
        go_cut [82] (fun uH wc => ∃ (kq : Nat) (WB : Bool), uH = .bool WB ∧ Aside0 (laws_FnExactFewestStays.j1 kq l1 MB eD dB WB l0_0 l0_1 = some r) ∧ Aside0 (kq ≤ CC) ∧ Aside0 (Kd.R (Kd.int .i64) 2 wc w.heap.size (fun k_ => some k_ ≠ (iB : Value).ownBlock) jB MB) ∧ Aside0 (Kd.R (Kd.int .i64) 2 wc w.heap.size (fun k_ => some k_ ≠ (jB : Value).ownBlock) iB dB) ∧ Aside0 (Kd.R k164 164 wc w.heap.size (fun _ => True) (.slice tA pA.length sA) lD) ∧ Aside0 (Kd.R k115 115 wc w.heap.size (fun _ => True) (.slice xA qA.length vA) kD) ∧ Aside0 (wc.heap[yA]? = some (.cells #[(.slice A0_0 l0_0.length c0_0), (.slice A0_1 l0_1.length c0_1)] 54 (0, 0))) ∧ Aside0 (wc.heap[kA]? = some (.cells #[(.slice tA pA.length sA), (.slice xA qA.length vA)] 27 (0, 0))) ∧ Aside0 (Below w.heap.size w wc))
        case first =>
         have H := EE.out; clear EE
         by_cases VD : RE < 0
         ·rw [if_pos VD] at H
          have DB := decide_eq_true VD; clear VD
          (first | rw [DB] | (simp only [i64_w, i32_w]; rw [DB]) | skip)
          exact (laws_FnExactFewestStays.j1_cut _ _ _ _ _ _ _ _ H HRT.out).elim
         ·rw [if_neg VD] at H
          have DB := decide_eq_false VD; clear VD
          (first | rw [DB] | (simp only [i64_w, i32_w]; rw [DB]) | skip)
          replace H := zob H; obtain ⟨iE, xI, H⟩ := H
          by_cases GE : iE = true
          ·subst GE
           rw [if_pos rfl] at H; have H' := zQ H; clear H; obtain ⟨jI, SH, XF⟩ := Kd.R_slice eA.out; subst XF; obtain ⟨iI, RH, WF⟩ := Kd.R_slice oA.out; subst WF
           go_wp2_with (first | (go_at_call 41; (with_reducible refine (laws_eqInt64S.calls CC _ _ dB _ _ MB true _ ?side1 ((Kd.R_reads' eA.out).2.1) ?side3 ((Kd.R_reads' oA.out).2.1) xI.out).mono ?_); (case side1 => exact zk (Kd.R_reads' eA.out).2.2); (case side3 => exact zk (Kd.R_reads' oA.out).2.2); rintro e w' ⟨rfl, ⟨nd, rfl⟩⟩))
           go_meet
           case rel => exact ⟨_, ((CD != eD)), (zF), H', ⟨by have := jF.out; first | omega | exact Nat.le_refl _⟩, ⟨zR oA.out⟩, ⟨zR eA.out⟩, ⟨by (with_reducible repeat (first | apply Kd.R_alloc | apply Kd.R_drewN | apply Kd.R_drew)); exact Kd.R_mono bA.out (fun _ hk => trivial)⟩, ⟨by (with_reducible repeat (first | apply Kd.R_alloc | apply Kd.R_drewN | apply Kd.R_drew)); exact Kd.R_mono aA.out (fun _ hk => trivial)⟩, ⟨zb cA.out⟩, ⟨zb dA.out⟩, ⟨zB3 HB.out fA.out nA.out⟩⟩
          ·replace GE := Bool.eq_false_iff.mpr GE
           subst GE
           rw [if_neg Bool.false_ne_true] at H
           exact (laws_FnExactFewestStays.j1_cut _ _ _ _ _ _ _ _ H HRT.out).elim
        case rest =>
         clear EE; (try clear c1); (try clear p2); (try clear c3); (try clear c4); (try clear OB); (try clear c5); (try clear c6); (try clear c7); (try clear c9); (try clear LD); (try clear mH); (try clear jH); (try clear iH); (try clear fI); (try clear hH); (try clear yE); (try clear gH); (try clear JE); (try clear eI); (try clear IE); (try clear HE); (try clear dI); (try clear cI); (try clear bI); (try clear aI); (try clear VD); (try clear DB); (try clear GE); (try clear AC yC nC mC); (try clear xC wC lC kC); (try clear vC uC jC iC); (try clear tC sC hC gC); (try clear rC qC fC eC); (try clear pC oC dC cC); (try clear bD aD ZC YC); (try clear LC KC JC IC); (try clear p2); obtain ⟨kq, WB, rfl, HA, IG, oA, eA, bA, aA, cA, dA, HB⟩ := hcut; have hA := (Kd.R_reads' bA.out).1; rw [hA] at bA
         (try simp only [hA])
         (try simp only [hA] at cA)
         (try simp only [hA] at dA)
         (try simp only [hA] at oA)
         (try simp only [hA] at eA)
         (try simp only [hA] at aA)
         have gA := (Kd.R_reads' aA.out).1; rw [gA] at aA
         (try simp only [gA])
         (try simp only [gA] at cA)
         (try simp only [gA] at dA)
         (try simp only [gA] at oA)
         (try simp only [gA] at eA)
         (try simp only [gA] at bA)
         cases kq with
         | zero => exact absurd HA.out (by simp [laws_FnExactFewestStays.j1])
         | succ GC =>
          have H := HA.out; clear HA
          simp only [laws_FnExactFewestStays.j1] at H
          by_cases bF : WB = true
          ·subst bF
           rw [if_pos rfl] at H; obtain rfl := Option.some.inj H
           exact absurd HRT.out (by decide)
          ·replace bF := Bool.eq_false_iff.mpr bF
           subst bF
           rw [if_neg Bool.false_ne_true] at H; replace H := zob H; obtain ⟨⟨vB, YB⟩, wI, H⟩ := H; replace H := zob H; obtain ⟨LB, vI, H⟩ := H
           by_cases xE : LB < 0
           ·rw [if_pos xE] at H
            have UD := decide_eq_true xE; clear xE; obtain rfl := Option.some.inj H
            exact absurd HRT.out (by decide)
           ·rw [if_neg xE] at H
            have UD := decide_eq_false xE; clear xE
            by_cases TD : LB = vB
            ·rw [if_pos TD] at H
             have SD : (LB == vB) = true := beq_iff_eq.mpr TD; have RD : (LB != vB) = false := bne_eq_false_iff_eq.mpr TD; clear TD; replace H := zob H; obtain ⟨⟨hE, gE⟩, uI, H⟩ := H; replace H := zob H; obtain ⟨jD, tI, H⟩ := H; replace H := zob H; obtain ⟨⟨fE, QE⟩, sI, H⟩ := H; have DE := zQ H; clear H; obtain ⟨SC, OC, VF⟩ := Kd.R_slice eA.out; subst VF
             go_upto_region 32 with (first | ((with_reducible refine zgc 44 ?_); refine zgo (some 85) Try.func44 #[.slice SC dB.length OC, .int .i64 1] ?_; (with_reducible refine (laws_markInt64S.calls GC (fun k_ => some k_ = (.slice SC dB.length OC : Value).ownBlock) (.slice SC dB.length OC) dB 1 vB YB w _ ?side1 (Kd.R_tight rfl eA.out) wI.out).mono ?_); (case side1 => exact zB3 HB.out fA.out nA.out); rintro e MI ⟨rfl, PD, hb, hkp⟩; refine ⟨_, rfl, ?_⟩; replace oA := zQ (Kd.R_mono (ok' := fun k_ => some k_ ≠ (.slice SC dB.length OC : Value).ownBlock) (Kd.R_keptB (oA.out) hkp (fun k_ hk_ hs_ => (hk_) hs_)) (fun k_ hk_ => hk_.1)); replace bA := zQ (Kd.R_mono (ok' := fun k_ => True) (Kd.R_keptB ((Kd.R_apart' bA.out (Kd.R_typed eA.out) (by decide))) hkp (fun k_ hk_ hs_ => (hk_.2) hs_)) (fun k_ hk_ => trivial)); replace aA := zQ (Kd.R_mono (ok' := fun k_ => True) (Kd.R_keptB ((Kd.R_apart' aA.out (Kd.R_typed eA.out) (by decide))) hkp (fun k_ hk_ hs_ => (hk_.2) hs_)) (fun k_ hk_ => trivial)); replace cA := zQ (blk_kept (zb cA.out) hkp (fun hs_ => (fun e_ => (Kd.R_ne eA.out cA.out (by decide)) e_) hs_)); replace dA := zQ (blk_kept (zb dA.out) hkp (fun hs_ => (fun e_ => (Kd.R_ne eA.out dA.out (by decide)) e_) hs_)); replace eA := zQ (Kd.R_reok rfl PD (fun k_ e_ => eA.out.1 k_ e_)); replace HB := zQ (hb); (try clear hb); (try clear hkp); (try clear PD)) | ((with_reducible refine zgc 45 ?_); refine goesL_ (some 88) rfl rfl Try.func45 (by kernel_rfl) rfl #[.slice SC YB.length OC, .int .i64 1] rfl (by (try simp only [List.map_toArray, List.map_cons, List.map_nil]); first | done | (rw [show YB.length = dB.length from (Kd.R_reads' eA.out).1.symm] <;> rfl) | rfl | (simp only [List.length_drop, List.length_take]; rfl)) ?_; (with_reducible refine (laws_heldInt64S.calls GC _ _ YB 1 LB _ ?side1 ?side2 vI.out).mono ?_); (case side1 => exact zk (Kd.R_reads' eA.out).2.2); (case side2 => rw [show YB.length = dB.length from (Kd.R_reads' eA.out).1.symm]; exact (Kd.R_reads' eA.out).2.1); rintro e w' ⟨rfl, ⟨nd, rfl⟩⟩; refine ⟨_, rfl, ?_⟩; have dH := QA.out; have aH := tB.out; obtain ⟨ID, HD, ED, DD⟩ := zy2 cA.out) | ((with_reducible refine zgc 36 ?_); refine zgo (some 96) Try.func36 #[.agg #[.slice A0_0 l0_0.length c0_0, .slice A0_1 l0_1.length c0_1]] ?_; (with_reducible refine (laws_toFrame.calls GC _ _ l0_0 _ _ l0_1 hE gE _ ?side1 FA.out ?side3 EA.out uI.out).mono ?_); (case side1 => repeat (first | exact (Kd.C_below DA.out (zB3 HB.out fA.out nA.out)) | (with_reducible refine Kd.C_alloc ?_ _) | (with_reducible refine Kd.C_drewN ?_ _) | (with_reducible refine Kd.C_drew ?_))); (case side3 => repeat (first | exact (Kd.C_below CA.out (zB3 HB.out fA.out nA.out)) | (with_reducible refine Kd.C_alloc ?_ _) | (with_reducible refine Kd.C_drewN ?_ _) | (with_reducible refine Kd.C_drew ?_))); rintro e LI ⟨zH, yH, rfl, rA, XC, hb⟩; refine ⟨_, rfl, ?_⟩; have FB := zQ (Kd.R_lower (Kd.R_new' rA (Kd.R_lt (zR bA.out))) (below_size (zB3 HB.out fA.out nA.out))); have EB := zQ (Kd.R_lower (Kd.R_new' XC (Kd.R_lt (zR aA.out))) (below_size (zB3 HB.out fA.out nA.out))); replace oA := zRb oA.out hb; replace eA := zRb eA.out hb; replace bA := zQ (Kd.R_elder' (zR bA.out) (Kd.R_base rA) hb); replace aA := zQ (Kd.R_elder' (zR aA.out) (Kd.R_base XC) hb); replace cA := zbl cA.out hb; replace dA := zbl dA.out hb; replace HB := zQ (below_step (zB3 HB.out fA.out nA.out) hb); (try clear hb); (try clear rA); (try clear XC)) | ((with_reducible refine zgc 48 ?_); refine zgo (some 98) Try.func48 #[.slice A1 l1.length c1] ?_; (with_reducible refine (laws_toPullSS.calls GC _ _ l1 jD _ (zC QC.out HB.out) RC.out tI.out).mono ?_); rintro e KI ⟨xH, rfl, rA, hb⟩; refine ⟨_, rfl, ?_⟩; have EC := zQ (Kd.S_lower rA (below_size (zB3 HB.out fA.out nA.out))); replace oA := zRb oA.out hb; replace eA := zRb eA.out hb; replace bA := zRb bA.out hb; replace aA := zRb aA.out hb; replace FB := zRb FB.out hb; replace EB := zRb EB.out hb; replace cA := zbl cA.out hb; replace dA := zbl dA.out hb; replace HB := zQ (below_step (zB3 HB.out fA.out nA.out) hb); (try clear hb); (try clear rA); obtain ⟨MG, wG, UF⟩ := Kd.R_slice FB.out; subst UF; obtain ⟨LG, vG, TF⟩ := Kd.R_slice EB.out; subst TF; obtain ⟨KG, uG, SF⟩ := Kd.S_slice EC.out; subst SF) | ((with_reducible refine zgc 60 ?_); refine zgo (some 99) Try.func60 #[.agg #[.slice MG hE.length wG, .slice LG gE.length vG], .slice KG jD.length uG] ?_; (with_reducible refine (impl_FewestStays.calls GC _ _ hE _ _ gE _ _ jD fE QE _ ?side1 ((Kd.R_reads' FB.out).2.1) ?side3 ((Kd.R_reads' EB.out).2.1) ?side5 ((Kd.S_reads' EC.out).2.1) sI.out).mono ?_); (case side1 => exact zk (Kd.R_reads' FB.out).2.2); (case side3 => exact zk (Kd.R_reads' EB.out).2.2); (case side5 => repeat (first | exact (Kd.S_reads' EC.out).2.2 | (with_reducible refine Kd.C_alloc ?_ _) | (with_reducible refine Kd.C_drewN ?_ _) | (with_reducible refine Kd.C_drew ?_))); rintro e JI ⟨wH, rfl, rA, hb⟩; refine ⟨_, rfl, ?_⟩; have wD := zQ (Kd.R_lower (Kd.R_new' (Kd.R_new' rA (Kd.R_lt (zR oA.out))) (Kd.R_lt (zR eA.out))) (below_size (zB3 HB.out fA.out nA.out))); replace oA := zQ (Kd.R_elder' (zR oA.out) (Kd.R_base rA) hb); replace eA := zQ (Kd.R_elder' (zR eA.out) (Kd.R_base rA) hb); replace bA := zRb bA.out hb; replace aA := zRb aA.out hb; replace FB := zRb FB.out hb; replace EB := zRb EB.out hb; replace EC := zQ (Kd.S_below (zS EC.out) hb); replace cA := zbl cA.out hb; replace dA := zbl dA.out hb; replace HB := zQ (below_step (zB3 HB.out fA.out nA.out) hb); (try clear hb); (try clear rA)))
             (try simp only [Act.put, List.setIfInBounds_toArray, List.set_cons_zero, List.set_cons_succ])
             go_cut [110] (fun NF wc => ∃ (kq : Nat) (yB : Bool), NF = .bool yB ∧ Aside0 (laws_FnExactFewestStays.j2 kq YB vB yB = some r) ∧ Aside0 (kq ≤ GC) ∧ Aside0 (Kd.R (Kd.int .i64) 2 wc w.heap.size (fun _ => True) (.slice SC dB.length OC) YB) ∧ Aside0 (Kd.R k164 164 wc w.heap.size (fun _ => True) (.slice tA lD.length sA) lD) ∧ Aside0 (Kd.R k115 115 wc w.heap.size (fun _ => True) (.slice xA kD.length vA) kD) ∧ Aside0 (wc.heap[yA]? = some (.cells #[(.slice A0_0 l0_0.length c0_0), (.slice A0_1 l0_1.length c0_1)] 54 (0, 0))) ∧ Aside0 (wc.heap[kA]? = some (.cells #[(.slice tA lD.length sA), (.slice xA kD.length vA)] 27 (0, 0))) ∧ Aside0 (Below w.heap.size w wc))
             case first =>
              have H := DE.out; clear DE; replace H := zob H; obtain ⟨eE, rI, H⟩ := H
              by_cases aF : eE = true
              ·subst aF
               rw [if_pos rfl] at H; have H' := zQ H; clear H; obtain ⟨JG, tG, RF⟩ := Kd.R_slice wD.out; subst RF; obtain ⟨nF, ZE, WE⟩ := Kd.R_slice oA.out; subst WE
               go_wp2_with (first | ((with_reducible refine zgc 41 ?_); refine zgo (some 104) Try.func41 #[.slice JG fE.length tG, .slice nF MB.length ZE] ?_; (with_reducible refine (laws_eqInt64S.calls GC _ _ fE _ _ MB true _ ?side1 ((Kd.R_reads' wD.out).2.1) ?side3 ((Kd.R_reads' oA.out).2.1) rI.out).mono ?_); (case side1 => exact zk (Kd.R_reads' wD.out).2.2); (case side3 => exact zk (Kd.R_reads' oA.out).2.2); rintro e w' ⟨rfl, ⟨nd, rfl⟩⟩; refine ⟨_, rfl, ?_⟩))
               go_meet
               case rel => exact ⟨_, ((QE != eD)), (zF), H', ⟨by have := jF.out; have := IG.out; first | omega | exact Nat.le_refl _⟩, ⟨by (try simp only [hA]); (try simp only [gA]); (with_reducible repeat (first | apply Kd.R_alloc | apply Kd.R_drewN | apply Kd.R_drew)); exact Kd.R_mono eA.out (fun _ hk => trivial)⟩, ⟨by (try simp only [hA]); (try simp only [gA]); (with_reducible repeat (first | apply Kd.R_alloc | apply Kd.R_drewN | apply Kd.R_drew)); exact Kd.R_mono bA.out (fun _ hk => trivial)⟩, ⟨by (try simp only [hA]); (try simp only [gA]); (with_reducible repeat (first | apply Kd.R_alloc | apply Kd.R_drewN | apply Kd.R_drew)); exact Kd.R_mono aA.out (fun _ hk => trivial)⟩, ⟨by (try simp only [hA]); (try simp only [gA]); refine zb ?_; exact cA.out⟩, ⟨by (try simp only [hA]); (try simp only [gA]); refine zb ?_; exact dA.out⟩, ⟨zB3 HB.out fA.out nA.out⟩⟩
              ·replace aF := Bool.eq_false_iff.mpr aF
               subst aF
               rw [if_neg Bool.false_ne_true] at H
               exact (laws_FnExactFewestStays.j2_cut _ _ _ _ H HRT.out).elim
             case rest =>
              clear DE; (try clear c1); (try clear p2); (try clear c3); (try clear c4); (try clear OB); (try clear c5); (try clear c6); (try clear c7); (try clear c8); (try clear c9); (try clear LD); (try clear mH); (try clear jH); (try clear iH); (try clear fI); (try clear hH); (try clear yE); (try clear lJ); (try clear kJ); (try clear gH); (try clear JE); (try clear eI); (try clear IE); (try clear HE); (try clear dI); (try clear cI); (try clear bI); (try clear aI); (try clear VD); (try clear DB); (try clear GE); (try clear bF); (try clear xE); (try clear UD); (try clear TD); (try clear SD); (try clear RD); (try clear jJ); (try clear aF); (try clear AC yC nC mC); (try clear xC wC lC kC); (try clear vC uC jC iC); (try clear tC sC hC gC); (try clear rC qC fC eC); (try clear pC oC dC cC); (try clear bD aD ZC YC); (try clear LC KC JC IC); (try clear ID HD ED DD); (try clear p2)
              obtain ⟨kq, yB, rfl, HA, hI, eA, bA, aA, cA, dA, HB⟩ := hcut; have aB := (Kd.R_reads' eA.out).1; rw [aB] at eA
              (try simp only [aB])
              (try simp only [aB] at cA)
              (try simp only [aB] at dA)
              (try simp only [aB] at bA)
              (try simp only [aB] at aA)
              cases kq with
              | zero => exact absurd HA.out (by simp [laws_FnExactFewestStays.j2])
              | succ QF =>
               have H := HA.out; clear HA
               simp only [laws_FnExactFewestStays.j2] at H
               by_cases MD : yB = true
               ·subst MD
                rw [if_pos rfl] at H; obtain rfl := Option.some.inj H
                exact absurd HRT.out (by decide)
               ·replace MD := Bool.eq_false_iff.mpr MD
                subst MD
                rw [if_neg Bool.false_ne_true] at H; replace H := zob H; obtain ⟨KB, YG, H⟩ := H
                by_cases gD : KB < 0
                ·rw [if_pos gD] at H
                 have CE := decide_eq_true gD; clear gD; obtain rfl := Option.some.inj H
                 exact absurd HRT.out (by decide)
                ·rw [if_neg gD] at H
                 have CE := decide_eq_false gD; clear gD
                 by_cases PC : KB = vB
                 ·rw [if_pos PC] at H
                  have BE : (KB == vB) = true := beq_iff_eq.mpr PC; have AE : (KB != vB) = false := bne_eq_false_iff_eq.mpr PC; clear PC; obtain rfl := Option.some.inj H
                  go_wp2_with (first | ((with_reducible refine zgc 45 ?_); refine zgo (some 113) Try.func45 #[.slice SC YB.length OC, .int .i64 1] ?_; (with_reducible refine (laws_heldInt64S.calls QF _ _ YB 1 KB _ ?side1 ((Kd.R_reads' eA.out).2.1) YG.out).mono ?_); (case side1 => exact zk (Kd.R_reads' eA.out).2.2); rintro e w' ⟨rfl, ⟨nd, rfl⟩⟩; refine ⟨_, rfl, ?_⟩))
                  go_ret
                  exact ⟨zE, zB3 HB.out fA.out nA.out⟩
                 ·rw [if_neg PC] at H
                  have BE : (KB == vB) = false := beq_eq_false_iff_ne.mpr PC; have AE : (KB != vB) = true := bne_iff_ne.mpr PC; obtain rfl := Option.some.inj H
                  exact absurd HRT.out (by decide)
            ·rw [if_neg TD] at H
             have SD : (LB == vB) = false := beq_eq_false_iff_ne.mpr TD; have RD : (LB != vB) = true := bne_iff_ne.mpr TD; obtain rfl := Option.some.inj H
             exact absurd HRT.out (by decide)
       ·replace HE := Bool.eq_false_iff.mpr HE
        subst HE
        rw [if_neg Bool.false_ne_true] at H; obtain rfl := Option.some.inj H
        exact absurd HRT.out (by decide)
      ·replace IE := Bool.eq_false_iff.mpr IE
       subst IE
       rw [if_neg Bool.false_ne_true] at H; obtain rfl := Option.some.inj H
       exact absurd HRT.out (by decide)

end
end Go.Proofs.Ytimjblgepbhoaaa.PStays

