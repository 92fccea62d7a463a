import Derived.Test.YtchngbjpjbahiaaHSailw0
import Derived.Test.YtchngbjpjbahiaaHSailwa
import Derived.Test.YtchngbjpjbahiaaHSailwd
import Derived.Test.YtchngbjpjbahiaaHSailwe
import Derived.Test.YtchngbjpjbahiaaHSailwg
namespace Go.Proofs.Ytchngbjpjbahiaa.PSailw
noncomputable section
open Go.RowKit Go.Proofs.YtchngbjpjbahiaaW.PrintWords Go.Proofs.YtchngbjpjbahiaaW.PrintLast Go.Proofs.YtchngbjpjbahiaaW.PrintMore
attribute [local go_sem] max2_int min2_int max_two min_two max_three min_three max_four min_four   -- for this text's walks alone
set_option linter.unusedVariables false
set_option linter.unusedSimpArgs false
set_option maxHeartbeats 8000000
set_option maxRecDepth 100000

def spec_WidthAt.f (k : Nat) (l0 : List (S49)) (a1 : Int) : Option (Int × Int × Int) := (spec_l13Ok.f k l0).bind fun fB => (if fB = true then ((spec_l13Limits.f k l0).bind fun bB => ((spec_l00In.f a1 bB.1 bB.2).bind fun eB => (if eB = true then ((spec_l13Bulged.f k l0).bind fun dB => (if dB = true then ((spec_l13Width.f k l0 a1).bind fun aB => (some (aB.1, aB.2, 0))) else (some (0, 0, 6)))) else (some (0, 0, 2))))) else (some (0, 0, 1)))
theorem spec_WidthAt.calls (k : Nat) (A0 : Option Addr) (c0 : Nat) (l0 : List (S49)) (a1 : Int) (r1 : Int) (r2 : Int) (r3 : Int) (w : World) (iC : Kd.C k49 w A0 l0.length l0) (xC : l0.length ≤ c0) (h : spec_WidthAt.f k l0 a1 = some (r1, r2, r3)) :
  Calls Try.prog 6 #[.slice A0 l0.length c0, .int .i64 a1] w fun e w' => e = .returned (.tuple #[.agg #[.int .i64 r1, .int .i64 r2], .int .i64 r3]) ∧ Below w.heap.size w w' := by
 have FC := Try.underlying25
 have PA := zQ iC
 have QA := zQ xC
 clear iC xC
 have HB := zQ (Below.refl w.heap.size w)
 have H := h; unfold spec_WidthAt.f at H
 clear h
 replace H := zob H; obtain ⟨fB, A3, H⟩ := H
 by_cases c4 : fB = true
 ·subst c4
  rw [if_pos rfl] at H; replace H := zob H; obtain ⟨⟨tA, sA⟩, A5, H⟩ := H; replace H := zob H; obtain ⟨eB, A6, H⟩ := H
  by_cases c7 : eB = true
  ·subst c7
   rw [if_pos rfl] at H; replace H := zob H; obtain ⟨dB, A8, H⟩ := H
   by_cases c9 : dB = true
   ·subst c9
    rw [if_pos rfl] at H; replace H := zob H; obtain ⟨⟨cB, iB⟩, hC, H⟩ := H
    simp only [Option.some.injEq, Prod.mk.injEq] at H
    obtain ⟨rfl, rfl, rfl⟩ := H
    go_enter Try.func6, Try.ntmps6
    go_wp2_with (first | ((with_reducible refine zd 4 ?_); refine zbx (N := 4) (cs := #[.int .i64 0, .int .i64 0]) (t := 25) ?_; intro eA hg EC bA hb; have aA := zQ (bA); have qA := zgz hg HB.out; have cA := qA; replace HB := zbs HB.out hb; clear hb bA hg) | ((with_reducible refine zgc 25 ?_); refine zgo (some 9) Try.func25 #[.slice A0 l0.length c0] ?_; (with_reducible refine (spec_l13Ok.calls k _ _ l0 true _ (zC PA.out HB.out) QA.out A3.out).mono ?_); rintro e HA ⟨rfl, hb⟩; refine ⟨_, rfl, ?_⟩; replace aA := zbl aA.out hb; replace HB := zbs2 HB.out cA.out hb; (try clear hb)) | ((with_reducible refine zgc 26 ?_); refine zgo (some 14) Try.func26 #[.slice A0 l0.length c0] ?_; (with_reducible refine (spec_l13Limits.calls k _ _ l0 tA sA _ (zC PA.out HB.out) QA.out A5.out).mono ?_); rintro e w' ⟨rfl, ⟨nd, rfl⟩⟩; refine ⟨_, rfl, ?_⟩; (try (rw [drewN_self HA]; generalize hq_ : World.drewN HA _ = HA; have n0_ : Aside0 (HA.heap[eA]? = some (.cells #[.int .i64 0, .int .i64 0] 25 (0, 0))) := ⟨by rw [← hq_]; exact (zb aA.out)⟩; have n1_ : Aside0 (Below w.heap.size w HA) := ⟨by rw [← hq_]; exact (zB2 HB.out cA.out)⟩; clear aA HB hq_; have aA := n0_; have HB := n1_; clear n0_ n1_)); (try (have hczrw12_gb199_0 := zc0 aA.out)); (try (have hfzrw12_gb199_0 := zfz aA.out 0)); (try (have hczrw12_gb199_1 := zc1 aA.out)); (try (have hfzrw12_gb199_1 := zfz aA.out 1))) | ((with_reducible refine zgc 27 ?_); refine zgo (some 20) Try.func27 #[.int .i64 a1, .int .i64 tA, .int .i64 sA] ?_; (with_reducible refine (spec_l00In.calls a1 tA sA true _ A6.out).mono ?_); rintro e w' ⟨rfl, ⟨nd, rfl⟩⟩; refine ⟨_, rfl, ?_⟩; (try (rw [drewN_self HA]; generalize hq_ : World.drewN HA _ = HA; have n0_ : Aside0 (HA.heap[eA]? = some (.cells #[.int .i64 0, .int .i64 0] 25 (0, 0))) := ⟨by rw [← hq_]; exact (zb aA.out)⟩; have n1_ : Aside0 (Below w.heap.size w HA) := ⟨by rw [← hq_]; exact (zB2 HB.out cA.out)⟩; clear aA HB hq_; have aA := n0_; have HB := n1_; clear n0_ n1_)); (try (have hczrw12_gb199_0 := zc0 aA.out)); (try (have hfzrw12_gb199_0 := zfz aA.out 0)); (try (have hczrw12_gb199_1 := zc1 aA.out)); (try (have hfzrw12_gb199_1 := zfz aA.out 1))) | ((with_reducible refine zgc 28 ?_); refine zgo (some 24) Try.func28 #[.slice A0 l0.length c0] ?_; (with_reducible refine (spec_l13Bulged.calls k _ _ l0 true _ (zC PA.out HB.out) QA.out A8.out).mono ?_); rintro e DC ⟨rfl, hb⟩; refine ⟨_, rfl, ?_⟩; replace aA := zbl aA.out hb; replace HB := zbs2 HB.out cA.out hb; (try clear hb)) | ((with_reducible refine zgc 29 ?_); refine zgo (some 29) Try.func29 #[.slice A0 l0.length c0, .int .i64 a1] ?_; (with_reducible refine (spec_l13Width.calls k _ _ l0 a1 cB iB _ (zC PA.out HB.out) QA.out hC.out).mono ?_); rintro e PC ⟨rfl, hb⟩; refine ⟨_, rfl, ?_⟩; replace aA := zbl aA.out hb; replace HB := zbs2 HB.out cA.out hb; (try clear hb); obtain ⟨TB, SB, CB, BB⟩ := zy2 aA.out))
    refine bodyPost_ret (results_ct rfl _ _ eA 25 #[.int .i64 cB, .int .i64 iB] (0, 0) _ rfl (by refine zb ?_; refine blk_put (cs := #[.int .i64 cB, .int .i64 0]) ?_ 1 _ rfl; refine zb ?_; refine blk_put (cs := #[.int .i64 0, .int .i64 0]) ?_ 0 _ rfl; refine zb ?_; exact aA.out) Try.underlying25 rfl (by kernel_rfl)) rfl ?_
    exact ⟨zE, zB2 HB.out cA.out⟩
   ·replace c9 := Bool.eq_false_iff.mpr c9
    subst c9
    rw [if_neg Bool.false_ne_true] at H
    simp only [Option.some.injEq, Prod.mk.injEq] at H
    obtain ⟨rfl, rfl, rfl⟩ := H
    go_enter Try.func6, Try.ntmps6
    go_wp2_with (first | ((with_reducible refine zd 4 ?_); refine zbx (N := 4) (cs := #[.int .i64 0, .int .i64 0]) (t := 25) ?_; intro eA hg OC bA hb; have aA := zQ (bA); have qA := zgz hg HB.out; have cA := qA; replace HB := zbs HB.out hb; clear hb bA hg) | ((with_reducible refine zgc 25 ?_); refine zgo (some 9) Try.func25 #[.slice A0 l0.length c0] ?_; (with_reducible refine (spec_l13Ok.calls k _ _ l0 true _ (zC PA.out HB.out) QA.out A3.out).mono ?_); rintro e OA ⟨rfl, hb⟩; refine ⟨_, rfl, ?_⟩; replace aA := zbl aA.out hb; replace HB := zbs2 HB.out cA.out hb; (try clear hb)) | ((with_reducible refine zgc 26 ?_); refine zgo (some 14) Try.func26 #[.slice A0 l0.length c0] ?_; (with_reducible refine (spec_l13Limits.calls k _ _ l0 tA sA _ (zC PA.out HB.out) QA.out A5.out).mono ?_); rintro e w' ⟨rfl, ⟨nd, rfl⟩⟩; refine ⟨_, rfl, ?_⟩; (try (rw [drewN_self OA]; generalize hq_ : World.drewN OA _ = OA; have n0_ : Aside0 (OA.heap[eA]? = some (.cells #[.int .i64 0, .int .i64 0] 25 (0, 0))) := ⟨by rw [← hq_]; exact (zb aA.out)⟩; have n1_ : Aside0 (Below w.heap.size w OA) := ⟨by rw [← hq_]; exact (zB2 HB.out cA.out)⟩; clear aA HB hq_; have aA := n0_; have HB := n1_; clear n0_ n1_)); (try (have hczrw17_gb199_0 := zc0 aA.out)); (try (have hfzrw17_gb199_0 := zfz aA.out 0)); (try (have hczrw17_gb199_1 := zc1 aA.out)); (try (have hfzrw17_gb199_1 := zfz aA.out 1))) | ((with_reducible refine zgc 27 ?_); refine zgo (some 20) Try.func27 #[.int .i64 a1, .int .i64 tA, .int .i64 sA] ?_; (with_reducible refine (spec_l00In.calls a1 tA sA true _ A6.out).mono ?_); rintro e w' ⟨rfl, ⟨nd, rfl⟩⟩; refine ⟨_, rfl, ?_⟩; (try (rw [drewN_self OA]; generalize hq_ : World.drewN OA _ = OA; have n0_ : Aside0 (OA.heap[eA]? = some (.cells #[.int .i64 0, .int .i64 0] 25 (0, 0))) := ⟨by rw [← hq_]; exact (zb aA.out)⟩; have n1_ : Aside0 (Below w.heap.size w OA) := ⟨by rw [← hq_]; exact (zB2 HB.out cA.out)⟩; clear aA HB hq_; have aA := n0_; have HB := n1_; clear n0_ n1_)); (try (have hczrw17_gb199_0 := zc0 aA.out)); (try (have hfzrw17_gb199_0 := zfz aA.out 0)); (try (have hczrw17_gb199_1 := zc1 aA.out)); (try (have hfzrw17_gb199_1 := zfz aA.out 1))) | ((with_reducible refine zgc 28 ?_); refine zgo (some 24) Try.func28 #[.slice A0 l0.length c0] ?_; (with_reducible refine (spec_l13Bulged.calls k _ _ l0 false _ (zC PA.out HB.out) QA.out A8.out).mono ?_); rintro e NC ⟨rfl, hb⟩; refine ⟨_, rfl, ?_⟩; replace aA := zbl aA.out hb; replace HB := zbs2 HB.out cA.out hb; (try clear hb); obtain ⟨YA, XA, UA, TA⟩ := zy2 aA.out))
    refine bodyPost_ret (results_ct rfl _ _ eA 25 #[.int .i64 0, .int .i64 0] (0, 0) _ rfl (by refine zb ?_; refine blk_put (cs := #[.int .i64 0, .int .i64 0]) ?_ 1 _ rfl; refine zb ?_; refine blk_put (cs := #[.int .i64 0, .int .i64 0]) ?_ 0 _ rfl; refine zb ?_; exact aA.out) Try.underlying25 rfl (by kernel_rfl)) rfl ?_
    exact ⟨zE, zB2 HB.out cA.out⟩
  ·replace c7 := Bool.eq_false_iff.mpr c7
   subst c7
   rw [if_neg Bool.false_ne_true] at H
   simp only [Option.some.injEq, Prod.mk.injEq] at H
   obtain ⟨rfl, rfl, rfl⟩ := H
   go_enter Try.func6, Try.ntmps6
   go_wp2_with (first | ((with_reducible refine zd 4 ?_); refine zbx (N := 4) (cs := #[.int .i64 0, .int .i64 0]) (t := 25) ?_; intro eA hg CC bA hb; have aA := zQ (bA); have qA := zgz hg HB.out; have cA := qA; replace HB := zbs HB.out hb; clear hb bA hg) | ((with_reducible refine zgc 25 ?_); refine zgo (some 9) Try.func25 #[.slice A0 l0.length c0] ?_; (with_reducible refine (spec_l13Ok.calls k _ _ l0 true _ (zC PA.out HB.out) QA.out A3.out).mono ?_); rintro e GA ⟨rfl, hb⟩; refine ⟨_, rfl, ?_⟩; replace aA := zbl aA.out hb; replace HB := zbs2 HB.out cA.out hb; (try clear hb)) | ((with_reducible refine zgc 26 ?_); refine zgo (some 14) Try.func26 #[.slice A0 l0.length c0] ?_; (with_reducible refine (spec_l13Limits.calls k _ _ l0 tA sA _ (zC PA.out HB.out) QA.out A5.out).mono ?_); rintro e w' ⟨rfl, ⟨nd, rfl⟩⟩; refine ⟨_, rfl, ?_⟩; (try (rw [drewN_self GA]; generalize hq_ : World.drewN GA _ = GA; have n0_ : Aside0 (GA.heap[eA]? = some (.cells #[.int .i64 0, .int .i64 0] 25 (0, 0))) := ⟨by rw [← hq_]; exact (zb aA.out)⟩; have n1_ : Aside0 (Below w.heap.size w GA) := ⟨by rw [← hq_]; exact (zB2 HB.out cA.out)⟩; clear aA HB hq_; have aA := n0_; have HB := n1_; clear n0_ n1_)); (try (have hczrw21_gb199_0 := zc0 aA.out)); (try (have hfzrw21_gb199_0 := zfz aA.out 0)); (try (have hczrw21_gb199_1 := zc1 aA.out)); (try (have hfzrw21_gb199_1 := zfz aA.out 1))) | ((with_reducible refine zgc 27 ?_); refine zgo (some 20) Try.func27 #[.int .i64 a1, .int .i64 tA, .int .i64 sA] ?_; (with_reducible refine (spec_l00In.calls a1 tA sA false _ A6.out).mono ?_); rintro e w' ⟨rfl, ⟨nd, rfl⟩⟩; refine ⟨_, rfl, ?_⟩; (try (rw [drewN_self GA]; generalize hq_ : World.drewN GA _ = GA; have n0_ : Aside0 (GA.heap[eA]? = some (.cells #[.int .i64 0, .int .i64 0] 25 (0, 0))) := ⟨by rw [← hq_]; exact (zb aA.out)⟩; have n1_ : Aside0 (Below w.heap.size w GA) := ⟨by rw [← hq_]; exact (zB2 HB.out cA.out)⟩; clear aA HB hq_; have aA := n0_; have HB := n1_; clear n0_ n1_)); (try (have hczrw21_gb199_0 := zc0 aA.out)); (try (have hfzrw21_gb199_0 := zfz aA.out 0)); (try (have hczrw21_gb199_1 := zc1 aA.out)); (try (have hfzrw21_gb199_1 := zfz aA.out 1)); obtain ⟨NB, MB, wB, vB⟩ := zy2 aA.out))
   refine bodyPost_ret (results_ct rfl _ _ eA 25 #[.int .i64 0, .int .i64 0] (0, 0) _ rfl (by refine zb ?_; refine blk_put (cs := #[.int .i64 0, .int .i64 0]) ?_ 1 _ rfl; refine zb ?_; refine blk_put (cs := #[.int .i64 0, .int .i64 0]) ?_ 0 _ rfl; refine zb ?_; exact aA.out) Try.underlying25 rfl (by kernel_rfl)) rfl ?_
   exact ⟨zE, zB2 HB.out cA.out⟩
 ·replace c4 := Bool.eq_false_iff.mpr c4
  subst c4
  rw [if_neg Bool.false_ne_true] at H
  simp only [Option.some.injEq, Prod.mk.injEq] at H
  obtain ⟨rfl, rfl, rfl⟩ := H
  go_enter Try.func6, Try.ntmps6
  go_wp2_with (first | ((with_reducible refine zd 4 ?_); refine zbx (N := 4) (cs := #[.int .i64 0, .int .i64 0]) (t := 25) ?_; intro eA hg LC bA hb; have aA := zQ (bA); have qA := zgz hg HB.out; have cA := qA; replace HB := zbs HB.out hb; clear hb bA hg) | ((with_reducible refine zgc 25 ?_); refine zgo (some 9) Try.func25 #[.slice A0 l0.length c0] ?_; (with_reducible refine (spec_l13Ok.calls k _ _ l0 false _ (zC PA.out HB.out) QA.out A3.out).mono ?_); rintro e KC ⟨rfl, hb⟩; refine ⟨_, rfl, ?_⟩; replace aA := zbl aA.out hb; replace HB := zbs2 HB.out cA.out hb; (try clear hb); obtain ⟨WA, VA, SA, RA⟩ := zy2 aA.out))
  refine bodyPost_ret (results_ct rfl _ _ eA 25 #[.int .i64 0, .int .i64 0] (0, 0) _ rfl (by refine zb ?_; refine blk_put (cs := #[.int .i64 0, .int .i64 0]) ?_ 1 _ rfl; refine zb ?_; refine blk_put (cs := #[.int .i64 0, .int .i64 0]) ?_ 0 _ rfl; refine zb ?_; exact aA.out) Try.underlying25 rfl (by kernel_rfl)) rfl ?_
  exact ⟨zE, zB2 HB.out cA.out⟩

def impl_within.f (a0 : Int) (a1 : Int) (a2 : Int) : Option (Bool) := if a0 ≥ a1 then (some (decide (a0 ≤ a2))) else (some false)
theorem impl_within.calls (a0 : Int) (a1 : Int) (a2 : Int) (r : Bool) (w : World) (h : impl_within.f a0 a1 a2 = some r) :
  Calls Try.prog 33 #[.int .i64 a0, .int .i64 a1, .int .i64 a2] w fun e w' => e = .returned (.bool r) ∧ Drawn0 w w' := by
 have H := h; unfold impl_within.f at H
 clear h
 by_cases c4 : a0 ≥ a1
 ·rw [if_pos c4] at H
  have eC := decide_eq_true c4; clear c4; obtain rfl := Option.some.inj H
  go_enter Try.func33, Try.ntmps33
  go_wp2
  go_ret
  exact ⟨zF, by repeat (first | exact Drawn0.refl _ | apply Drawn0.step)⟩
 ·rw [if_neg c4] at H
  have eC := decide_eq_false c4; clear c4; obtain rfl := Option.some.inj H
  go_enter Try.func33, Try.ntmps33
  go_wp2
  go_ret
  exact ⟨zF, by repeat (first | exact Drawn0.refl _ | apply Drawn0.step)⟩

def impl_turnAt.f (a0_0 : Int) (a0_1 : Int) (a1_0 : Int) (a1_1 : Int) (a2_0 : Int) (a2_1 : Int) : Option (Int) := some (wrap64 ((wrap64 ((wrap64 (a1_0 - a0_0)) * (wrap64 (a2_1 - a1_1)))) - (wrap64 ((wrap64 (a1_1 - a0_1)) * (wrap64 (a2_0 - a1_0))))))
theorem impl_turnAt.calls (a0_0 : Int) (a0_1 : Int) (a1_0 : Int) (a1_1 : Int) (a2_0 : Int) (a2_1 : Int) (r : Int) (w : World) (h : impl_turnAt.f a0_0 a0_1 a1_0 a1_1 a2_0 a2_1 = some r) :
  Calls Try.prog 56 #[.agg #[.int .i64 a0_0, .int .i64 a0_1], .agg #[.int .i64 a1_0, .int .i64 a1_1], .agg #[.int .i64 a2_0, .int .i64 a2_1]] w fun e w' => e = .returned (.int .i64 r) ∧ Below w.heap.size w w' := by
 have ZB := Try.underlying49
 have HB := zQ (Below.refl w.heap.size w)
 have H := h; unfold impl_turnAt.f at H
 clear h
 obtain rfl := Option.some.inj H
 go_enter Try.func56, Try.ntmps56
 go_wp2_with (first | ((with_reducible refine zd 3 ?_); refine zbx (N := 3) (cs := #[.int .i64 a0_0, .int .i64 a0_1]) (t := 49) ?_; intro AC hg w4 bA hb; have iA := zQ (bA); have nB := zgz hg HB.out; have rA := nB; replace HB := zbs HB.out hb; clear hb bA hg) | ((with_reducible refine zd 4 ?_); refine zbx (N := 4) (cs := #[.int .i64 a1_0, .int .i64 a1_1]) (t := 49) ?_; intro yC hg w5 bA hb; have vA := zQ (bA); have mB := zgz2 hg HB.out rA.out; have zA := mB; have FA := zn1 hg iA.out; have DA := zn2 hg iA.out; replace iA := zbl iA.out hb; replace HB := zbs2 HB.out rA.out hb; clear hb bA hg) | ((with_reducible refine zd 5 ?_); refine zbx (N := 5) (cs := #[.int .i64 a2_0, .int .i64 a2_1]) (t := 49) ?_; intro ZA hg w6 bA hb; have pB := zQ (bA); have BC := zQ ((by rw [hg]; exact (below_size (zB3 HB.out rA.out zA.out)) : w.heap.size ≤ ZA)); have oB := zQ ((by rw [hg]; exact (below_size (zB3 HB.out rA.out zA.out)) : w.heap.size ≤ ZA)); have EA := zn1 hg iA.out; have BA := zn2 hg iA.out; have CA := zn1 hg vA.out; have AA := zn2 hg vA.out; replace iA := zbl iA.out hb; replace vA := zbl vA.out hb; replace HB := zQ (below_step (zB3 HB.out rA.out zA.out) hb); clear hb bA hg; have JC := DA.out; have HC := FA.out; have IC := CA.out; have GC := AA.out; obtain ⟨dC, cC, bC, aC⟩ := zy2 vA.out; have wC := EA.out; have pC := BA.out; obtain ⟨XB, WB, GB, FB⟩ := zy2 iA.out; obtain ⟨VB, UB, EB, DB⟩ := zy2 pB.out))
 go_ret
 exact ⟨zE, by repeat (first | (with_reducible first | exact HB.out | apply below_alloc | apply pw_below_drewN | apply below_drew1 | refine below_set ?_ rA.out | refine below_set ?_ zA.out | refine below_set ?_ oB.out) | exact HB.out)⟩

def impl_sign.f (a0 : Int) : Option (Int) := if a0 > 0 then (some 1) else (if a0 < 0 then (some (-1)) else (some 0))
theorem impl_sign.calls (a0 : Int) (r : Int) (w : World) (h : impl_sign.f a0 = some r) :
  Calls Try.prog 70 #[.int .i64 a0] w fun e w' => e = .returned (.int .i64 r) ∧ Drawn0 w w' := by
 have H := h; unfold impl_sign.f at H
 clear h
 by_cases c2 : a0 > 0
 ·rw [if_pos c2] at H
  have gC := decide_eq_true c2; clear c2; obtain rfl := Option.some.inj H
  go_enter Try.func70, Try.ntmps70
  go_wp2
  go_ret
  exact ⟨zF, by repeat (first | exact Drawn0.refl _ | apply Drawn0.step)⟩
 ·rw [if_neg c2] at H
  have gC := decide_eq_false c2; clear c2
  by_cases c3 : a0 < 0
  ·rw [if_pos c3] at H
   have fC := decide_eq_true c3; clear c3; obtain rfl := Option.some.inj H
   go_enter Try.func70, Try.ntmps70
   go_wp2
   go_ret
   exact ⟨zF, by repeat (first | exact Drawn0.refl _ | apply Drawn0.step)⟩
  ·rw [if_neg c3] at H
   have fC := decide_eq_false c3; clear c3; obtain rfl := Option.some.inj H
   go_enter Try.func70, Try.ntmps70
   go_wp2
   go_ret
   exact ⟨zF, by repeat (first | exact Drawn0.refl _ | apply Drawn0.step)⟩

def impl_between.f (a0_0 : Int) (a0_1 : Int) (a1_0 : Int) (a1_1 : Int) (a2_0 : Int) (a2_1 : Int) : Option (Bool) := (impl_within.f a2_0 (mn a0_0 a1_0) (mx a0_0 a1_0)).bind fun wA => (if wA = true then ((impl_within.f a2_1 (mn a0_1 a1_1) (mx a0_1 a1_1)).bind fun pA => (some pA)) else (some false))
theorem impl_between.calls (a0_0 : Int) (a0_1 : Int) (a1_0 : Int) (a1_1 : Int) (a2_0 : Int) (a2_1 : Int) (r : Bool) (w : World) (h : impl_between.f a0_0 a0_1 a1_0 a1_1 a2_0 a2_1 = some r) :
  Calls Try.prog 71 #[.agg #[.int .i64 a0_0, .int .i64 a0_1], .agg #[.int .i64 a1_0, .int .i64 a1_1], .agg #[.int .i64 a2_0, .int .i64 a2_1]] w fun e w' => e = .returned (.bool r) ∧ Below w.heap.size w w' := by
 have ZB := Try.underlying49
 have HB := zQ (Below.refl w.heap.size w)
 have H := h; unfold impl_between.f at H
 clear h
 obtain ⟨gB, yA⟩ : ∃ j_ : Int, (mn a0_0 a1_0) = j_ := ⟨_, rfl⟩
 replace H : ((impl_within.f a2_0 (gB) (mx a0_0 a1_0)).bind fun wA => (if wA = true then ((impl_within.f a2_1 (mn a0_1 a1_1) (mx a0_1 a1_1)).bind fun pA => (some pA)) else (some false))) = some r := by first | (rw [yA] at H; exact H) | (simp only [yA] at H ⊢; exact H)
 have hji4_ : (if a1_0 < a0_0 then a1_0 else a0_0) = gB := yA
 obtain ⟨hB, xA⟩ : ∃ j_ : Int, (mx a0_0 a1_0) = j_ := ⟨_, rfl⟩
 replace H : ((impl_within.f a2_0 (gB) (hB)).bind fun wA => (if wA = true then ((impl_within.f a2_1 (mn a0_1 a1_1) (mx a0_1 a1_1)).bind fun pA => (some pA)) else (some false))) = some r := by first | (rw [xA] at H; exact H) | (simp only [xA] at H ⊢; exact H)
 have hji5_ : (if a0_0 < a1_0 then a1_0 else a0_0) = hB := xA
 replace H := zob H; obtain ⟨wA, A6, H⟩ := H
 by_cases c7 : wA = true
 ·subst c7
  rw [if_pos rfl] at H; obtain ⟨qB, JA⟩ : ∃ j_ : Int, (mn a0_1 a1_1) = j_ := ⟨_, rfl⟩
  replace H : ((impl_within.f a2_1 (qB) (mx a0_1 a1_1)).bind fun pA => (some pA)) = some r := by first | (rw [JA] at H; exact H) | (simp only [JA] at H ⊢; exact H)
  (try rw [JA] at A6)
  have hji8_ : (if a1_1 < a0_1 then a1_1 else a0_1) = qB := JA; obtain ⟨YB, IA⟩ : ∃ j_ : Int, (mx a0_1 a1_1) = j_ := ⟨_, rfl⟩
  replace H : ((impl_within.f a2_1 (qB) (YB)).bind fun pA => (some pA)) = some r := by first | (rw [IA] at H; exact H) | (simp only [IA] at H ⊢; exact H)
  (try rw [IA] at A6)
  have hji9_ : (if a0_1 < a1_1 then a1_1 else a0_1) = YB := IA; replace H := zob H; obtain ⟨pA, hC, H⟩ := H; obtain rfl := Option.some.inj H
  go_enter Try.func71, Try.ntmps71
  go_wp2_with (first | ((with_reducible refine zd 3 ?_); (try (refine gate_guard (by rfl) ?_; dsimp only)); refine zbx (N := 3) (cs := #[.int .i64 a0_0, .int .i64 a0_1]) (t := 49) ?_; intro kB hg EC bA hb; have dA := zQ (bA); have LA := zgz hg HB.out; have fA := LA; replace HB := zbs HB.out hb; clear hb bA hg) | ((with_reducible refine zd 4 ?_); (try (refine gate_guard (by rfl) ?_; dsimp only)); refine zbx (N := 4) (cs := #[.int .i64 a1_0, .int .i64 a1_1]) (t := 49) ?_; intro jB hg HA bA hb; have gA := zQ (bA); have KA := zgz2 hg HB.out fA.out; have hA := KA; have oA := zn1 hg dA.out; have mA := zn2 hg dA.out; replace dA := zbl dA.out hb; replace HB := zbs2 HB.out fA.out hb; clear hb bA hg) | ((with_reducible refine zd 5 ?_); (try (refine gate_guard (by rfl) ?_; dsimp only)); refine zbx (N := 5) (cs := #[.int .i64 a2_0, .int .i64 a2_1]) (t := 49) ?_; intro uA hg DC bA hb; have NA := zQ (bA); have lB := zQ ((by rw [hg]; exact (below_size (zB3 HB.out fA.out hA.out)) : w.heap.size ≤ uA)); have MA := zQ ((by rw [hg]; exact (below_size (zB3 HB.out fA.out hA.out)) : w.heap.size ≤ uA)); have nA := zn1 hg dA.out; have kA := zn2 hg dA.out; have lA := zn1 hg gA.out; have jA := zn2 hg gA.out; replace dA := zbl dA.out hb; replace gA := zbl gA.out hb; replace HB := zQ (below_step (zB3 HB.out fA.out hA.out) hb); clear hb bA hg; have vC := kA.out; have oC := nA.out; have uC := jA.out; have nC := lA.out; obtain ⟨RB, QB, AB, zB⟩ := zy2 NA.out; have tC := oA.out; have mC := mA.out; obtain ⟨PB, OB, yB, xB⟩ := zy2 dA.out; obtain ⟨YA, XA, UA, TA⟩ := zy2 gA.out) | ((with_reducible refine zgc 33 ?_); refine goesL_ (some 19) rfl rfl Try.func33 (by kernel_rfl) rfl #[.int .i64 a2_0, .int .i64 gB, .int .i64 hB] rfl (by (try simp only [List.map_toArray, List.map_cons, List.map_nil]); first | done | (simp only [yA, xA]; rfl) | rfl | (simp only [List.length_drop, List.length_take]; rfl)) ?_; (with_reducible refine (impl_within.calls a2_0 gB hB true _ A6.out).mono ?_); rintro e w' ⟨rfl, ⟨nd, rfl⟩⟩; refine ⟨_, rfl, ?_⟩) | (go_at_call 33; (with_reducible refine (impl_within.calls a2_1 qB YB pA _ hC.out).mono ?_); rintro e w' ⟨rfl, ⟨nd, rfl⟩⟩))
  go_ret
  exact ⟨by first | rfl | (simp [errW_none, errW_some] <;> rfl) | (simp only [← yA, ← xA, ← JA, ← IA]; first | rfl | (simp [errW_none, errW_some] <;> rfl)) | (simp [*, errW_none, errW_some] <;> rfl), by repeat (first | (with_reducible first | exact HB.out | apply below_alloc | apply pw_below_drewN | apply below_drew1 | refine below_set ?_ fA.out | refine below_set ?_ hA.out | refine below_set ?_ MA.out) | exact HB.out)⟩
 ·replace c7 := Bool.eq_false_iff.mpr c7
  subst c7
  rw [if_neg Bool.false_ne_true] at H; obtain rfl := Option.some.inj H
  go_enter Try.func71, Try.ntmps71
  go_wp2_with (first | ((with_reducible refine zd 3 ?_); (try (refine gate_guard (by rfl) ?_; dsimp only)); refine zbx (N := 3) (cs := #[.int .i64 a0_0, .int .i64 a0_1]) (t := 49) ?_; intro kB hg CC bA hb; have dA := zQ (bA); have LA := zgz hg HB.out; have fA := LA; replace HB := zbs HB.out hb; clear hb bA hg) | ((with_reducible refine zd 4 ?_); (try (refine gate_guard (by rfl) ?_; dsimp only)); refine zbx (N := 4) (cs := #[.int .i64 a1_0, .int .i64 a1_1]) (t := 49) ?_; intro jB hg GA bA hb; have gA := zQ (bA); have KA := zgz2 hg HB.out fA.out; have hA := KA; have oA := zn1 hg dA.out; have mA := zn2 hg dA.out; replace dA := zbl dA.out hb; replace HB := zbs2 HB.out fA.out hb; clear hb bA hg) | ((with_reducible refine zd 5 ?_); (try (refine gate_guard (by rfl) ?_; dsimp only)); refine zbx (N := 5) (cs := #[.int .i64 a2_0, .int .i64 a2_1]) (t := 49) ?_; intro uA hg MC bA hb; have NA := zQ (bA); have lB := zQ ((by rw [hg]; exact (below_size (zB3 HB.out fA.out hA.out)) : w.heap.size ≤ uA)); have MA := zQ ((by rw [hg]; exact (below_size (zB3 HB.out fA.out hA.out)) : w.heap.size ≤ uA)); have nA := zn1 hg dA.out; have kA := zn2 hg dA.out; have lA := zn1 hg gA.out; have jA := zn2 hg gA.out; replace dA := zbl dA.out hb; replace gA := zbl gA.out hb; replace HB := zQ (below_step (zB3 HB.out fA.out hA.out) hb); clear hb bA hg; have sC := kA.out; have lC := nA.out; have rC := jA.out; have kC := lA.out; obtain ⟨WA, VA, SA, RA⟩ := zy2 NA.out; have qC := oA.out; have jC := mA.out; obtain ⟨LB, KB, uB, tB⟩ := zy2 dA.out; obtain ⟨JB, IB, sB, rB⟩ := zy2 gA.out) | ((with_reducible refine zgc 33 ?_); refine goesL_ (some 19) rfl rfl Try.func33 (by kernel_rfl) rfl #[.int .i64 a2_0, .int .i64 gB, .int .i64 hB] rfl (by (try simp only [List.map_toArray, List.map_cons, List.map_nil]); first | done | (simp only [yA, xA]; rfl) | rfl | (simp only [List.length_drop, List.length_take]; rfl)) ?_; (with_reducible refine (impl_within.calls a2_0 gB hB false _ A6.out).mono ?_); rintro e w' ⟨rfl, ⟨nd, rfl⟩⟩; refine ⟨_, rfl, ?_⟩))
  go_ret
  exact ⟨by first | rfl | (simp [errW_none, errW_some] <;> rfl) | (simp only [← yA, ← xA]; first | rfl | (simp [errW_none, errW_some] <;> rfl)) | (simp [*, errW_none, errW_some] <;> rfl), by repeat (first | (with_reducible first | exact HB.out | apply below_alloc | apply pw_below_drewN | apply below_drew1 | refine below_set ?_ fA.out | refine below_set ?_ hA.out | refine below_set ?_ MA.out) | exact HB.out)⟩

end
end Go.Proofs.Ytchngbjpjbahiaa.PSailw

