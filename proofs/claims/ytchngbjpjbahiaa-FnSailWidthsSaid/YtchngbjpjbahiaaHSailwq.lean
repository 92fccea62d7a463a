import Derived.Test.YtchngbjpjbahiaaHSailw0
import Derived.Test.YtchngbjpjbahiaaHSailwh
import Derived.Test.YtchngbjpjbahiaaHSailwk
import Derived.Test.YtchngbjpjbahiaaHSailwl
import Derived.Test.YtchngbjpjbahiaaHSailwp
namespace Go.Proofs.Ytchngbjpjbahiaa.PSailw
noncomputable section
open Go.RowKit Go.Proofs.YtchngbjpjbahiaaW.PrintWords Go.Proofs.YtchngbjpjbahiaaW.PrintLast Go.Proofs.YtchngbjpjbahiaaW.PrintMore
attribute [local go_sem] max2_int min2_int max_two min_two max_three min_three max_four min_four   -- for this text's walks alone
set_option linter.unusedVariables false
set_option linter.unusedSimpArgs false
set_option maxHeartbeats 8000000
set_option maxRecDepth 100000

def impl_WidthAt.f (k : Nat) (l0 : List (S49)) (a1 : Int) : Option (Int × Int × Int) := (impl_ValidSail.f k l0).bind fun oA => (if oA = true then ((impl_heightsOf.f k l0).bind fun kA => ((impl_within.f a1 kA.1 kA.2).bind fun nA => (if nA = true then ((impl_isBulged.f k l0).bind fun mA => (if mA = true then ((impl_widthAt.f k l0 a1).bind fun jA => (some (jA.1, jA.2, 0))) else (some (0, 0, 6)))) else (some (0, 0, 2))))) else (some (0, 0, 1)))
theorem impl_WidthAt.calls (k : Nat) (A0 : Option Addr) (c0 : Nat) (l0 : List (S49)) (a1 : Int) (r1 : Int) (r2 : Int) (r3 : Int) (w : World) (JA : Kd.C k49 w A0 l0.length l0) (KA : l0.length ≤ c0) (h : impl_WidthAt.f k l0 a1 = some (r1, r2, r3)) :
  Calls Try.prog 8 #[.slice A0 l0.length c0, .int .i64 a1] w fun e w' => e = .returned (.tuple #[.agg #[.int .i64 r1, .int .i64 r2], .int .i64 r3]) ∧ Below w.heap.size w w' := by
 have LA := Try.underlying25
 have hA := zQ JA
 have iA := zQ KA
 clear JA KA
 have HB := zQ (Below.refl w.heap.size w)
 have H := h; unfold impl_WidthAt.f at H
 clear h
 replace H := zob H; obtain ⟨oA, A3, H⟩ := H
 by_cases c4 : oA = true
 ·subst c4
  rw [if_pos rfl] at H; replace H := zob H; obtain ⟨⟨gA, fA⟩, A5, H⟩ := H; replace H := zob H; obtain ⟨nA, A6, H⟩ := H
  by_cases c7 : nA = true
  ·subst c7
   rw [if_pos rfl] at H; replace H := zob H; obtain ⟨mA, A8, H⟩ := H
   by_cases c9 : mA = true
   ·subst c9
    rw [if_pos rfl] at H; replace H := zob H; obtain ⟨⟨lA, sA⟩, MA, H⟩ := H
    simp only [Option.some.injEq, Prod.mk.injEq] at H
    obtain ⟨rfl, rfl, rfl⟩ := H
    go_enter Try.func8, Try.ntmps8
    go_wp2_with (first | ((with_reducible refine zd 4 ?_); refine zbx (N := 4) (cs := #[.int .i64 0, .int .i64 0]) (t := 25) ?_; intro cA hg XA dA hb; have aA := zQ (dA); have eA := zgz hg HB.out; have bA := eA; replace HB := zbs HB.out hb; clear hb dA hg) | ((with_reducible refine zgc 31 ?_); refine zgo (some 9) Try.func31 #[.slice A0 l0.length c0] ?_; (with_reducible refine (impl_ValidSail.calls k _ _ l0 true _ (zC hA.out HB.out) iA.out A3.out).mono ?_); rintro e WA ⟨rfl, hb⟩; refine ⟨_, rfl, ?_⟩; replace aA := zbl aA.out hb; replace HB := zbs2 HB.out bA.out hb; (try clear hb)) | ((with_reducible refine zgc 32 ?_); refine zgo (some 14) Try.func32 #[.slice A0 l0.length c0] ?_; (with_reducible refine (impl_heightsOf.calls k _ _ l0 gA fA _ (zC hA.out HB.out) iA.out A5.out).mono ?_); rintro e rA ⟨rfl, hb⟩; refine ⟨_, rfl, ?_⟩; replace aA := zbl aA.out hb; replace HB := zbs2 HB.out bA.out hb; (try clear hb)) | ((with_reducible refine zgc 33 ?_); refine zgo (some 20) Try.func33 #[.int .i64 a1, .int .i64 gA, .int .i64 fA] ?_; (with_reducible refine (impl_within.calls a1 gA fA true _ A6.out).mono ?_); rintro e w' ⟨rfl, ⟨nd, rfl⟩⟩; refine ⟨_, rfl, ?_⟩; (try (rw [drewN_self rA]; generalize hq_ : World.drewN rA _ = rA; have n0_ : Aside0 (rA.heap[cA]? = some (.cells #[.int .i64 0, .int .i64 0] 25 (0, 0))) := ⟨by rw [← hq_]; exact (zb aA.out)⟩; have n1_ : Aside0 (Below w.heap.size w rA) := ⟨by rw [← hq_]; exact (zB2 HB.out bA.out)⟩; clear aA HB hq_; have aA := n0_; have HB := n1_; clear n0_ n1_)); (try (have hczrw13_gb349_0 := zc0 aA.out)); (try (have hfzrw13_gb349_0 := zfz aA.out 0)); (try (have hczrw13_gb349_1 := zc1 aA.out)); (try (have hfzrw13_gb349_1 := zfz aA.out 1))) | ((with_reducible refine zgc 34 ?_); refine zgo (some 24) Try.func34 #[.slice A0 l0.length c0] ?_; (with_reducible refine (impl_isBulged.calls k _ _ l0 true _ (zC hA.out HB.out) iA.out A8.out).mono ?_); rintro e VA ⟨rfl, hb⟩; refine ⟨_, rfl, ?_⟩; replace aA := zbl aA.out hb; replace HB := zbs2 HB.out bA.out hb; (try clear hb)) | ((with_reducible refine zgc 35 ?_); refine zgo (some 29) Try.func35 #[.slice A0 l0.length c0, .int .i64 a1] ?_; (with_reducible refine (impl_widthAt.calls k _ _ l0 a1 lA sA _ (zC hA.out HB.out) iA.out MA.out).mono ?_); rintro e UA ⟨rfl, hb⟩; refine ⟨_, rfl, ?_⟩; replace aA := zbl aA.out hb; replace HB := zbs2 HB.out bA.out hb; (try clear hb); obtain ⟨IA, HA, AA, zA⟩ := zy2 aA.out))
    refine bodyPost_ret (results_ct rfl _ _ cA 25 #[.int .i64 lA, .int .i64 sA] (0, 0) _ rfl (by refine zb ?_; refine blk_put (cs := #[.int .i64 lA, .int .i64 0]) ?_ 1 _ rfl; refine zb ?_; refine blk_put (cs := #[.int .i64 0, .int .i64 0]) ?_ 0 _ rfl; refine zb ?_; exact aA.out) Try.underlying25 rfl (by kernel_rfl)) rfl ?_
    exact ⟨zE, zB2 HB.out bA.out⟩
   ·replace c9 := Bool.eq_false_iff.mpr c9
    subst c9
    rw [if_neg Bool.false_ne_true] at H
    simp only [Option.some.injEq, Prod.mk.injEq] at H
    obtain ⟨rfl, rfl, rfl⟩ := H
    go_enter Try.func8, Try.ntmps8
    go_wp2_with (first | ((with_reducible refine zd 4 ?_); refine zbx (N := 4) (cs := #[.int .i64 0, .int .i64 0]) (t := 25) ?_; intro cA hg TA dA hb; have aA := zQ (dA); have eA := zgz hg HB.out; have bA := eA; replace HB := zbs HB.out hb; clear hb dA hg) | ((with_reducible refine zgc 31 ?_); refine zgo (some 9) Try.func31 #[.slice A0 l0.length c0] ?_; (with_reducible refine (impl_ValidSail.calls k _ _ l0 true _ (zC hA.out HB.out) iA.out A3.out).mono ?_); rintro e SA ⟨rfl, hb⟩; refine ⟨_, rfl, ?_⟩; replace aA := zbl aA.out hb; replace HB := zbs2 HB.out bA.out hb; (try clear hb)) | ((with_reducible refine zgc 32 ?_); refine zgo (some 14) Try.func32 #[.slice A0 l0.length c0] ?_; (with_reducible refine (impl_heightsOf.calls k _ _ l0 gA fA _ (zC hA.out HB.out) iA.out A5.out).mono ?_); rintro e qA ⟨rfl, hb⟩; refine ⟨_, rfl, ?_⟩; replace aA := zbl aA.out hb; replace HB := zbs2 HB.out bA.out hb; (try clear hb)) | ((with_reducible refine zgc 33 ?_); refine zgo (some 20) Try.func33 #[.int .i64 a1, .int .i64 gA, .int .i64 fA] ?_; (with_reducible refine (impl_within.calls a1 gA fA true _ A6.out).mono ?_); rintro e w' ⟨rfl, ⟨nd, rfl⟩⟩; refine ⟨_, rfl, ?_⟩; (try (rw [drewN_self qA]; generalize hq_ : World.drewN qA _ = qA; have n0_ : Aside0 (qA.heap[cA]? = some (.cells #[.int .i64 0, .int .i64 0] 25 (0, 0))) := ⟨by rw [← hq_]; exact (zb aA.out)⟩; have n1_ : Aside0 (Below w.heap.size w qA) := ⟨by rw [← hq_]; exact (zB2 HB.out bA.out)⟩; clear aA HB hq_; have aA := n0_; have HB := n1_; clear n0_ n1_)); (try (have hczrw19_gb349_0 := zc0 aA.out)); (try (have hfzrw19_gb349_0 := zfz aA.out 0)); (try (have hczrw19_gb349_1 := zc1 aA.out)); (try (have hfzrw19_gb349_1 := zfz aA.out 1))) | ((with_reducible refine zgc 34 ?_); refine zgo (some 24) Try.func34 #[.slice A0 l0.length c0] ?_; (with_reducible refine (impl_isBulged.calls k _ _ l0 false _ (zC hA.out HB.out) iA.out A8.out).mono ?_); rintro e RA ⟨rfl, hb⟩; refine ⟨_, rfl, ?_⟩; replace aA := zbl aA.out hb; replace HB := zbs2 HB.out bA.out hb; (try clear hb); obtain ⟨GA, FA, yA, xA⟩ := zy2 aA.out))
    refine bodyPost_ret (results_ct rfl _ _ cA 25 #[.int .i64 0, .int .i64 0] (0, 0) _ rfl (by refine zb ?_; refine blk_put (cs := #[.int .i64 0, .int .i64 0]) ?_ 1 _ rfl; refine zb ?_; refine blk_put (cs := #[.int .i64 0, .int .i64 0]) ?_ 0 _ rfl; refine zb ?_; exact aA.out) Try.underlying25 rfl (by kernel_rfl)) rfl ?_
    exact ⟨zE, zB2 HB.out bA.out⟩
  ·replace c7 := Bool.eq_false_iff.mpr c7
   subst c7
   rw [if_neg Bool.false_ne_true] at H
   simp only [Option.some.injEq, Prod.mk.injEq] at H
   obtain ⟨rfl, rfl, rfl⟩ := H
   go_enter Try.func8, Try.ntmps8
   go_wp2_with (first | ((with_reducible refine zd 4 ?_); refine zbx (N := 4) (cs := #[.int .i64 0, .int .i64 0]) (t := 25) ?_; intro cA hg QA dA hb; have aA := zQ (dA); have eA := zgz hg HB.out; have bA := eA; replace HB := zbs HB.out hb; clear hb dA hg) | ((with_reducible refine zgc 31 ?_); refine zgo (some 9) Try.func31 #[.slice A0 l0.length c0] ?_; (with_reducible refine (impl_ValidSail.calls k _ _ l0 true _ (zC hA.out HB.out) iA.out A3.out).mono ?_); rintro e PA ⟨rfl, hb⟩; refine ⟨_, rfl, ?_⟩; replace aA := zbl aA.out hb; replace HB := zbs2 HB.out bA.out hb; (try clear hb)) | ((with_reducible refine zgc 32 ?_); refine zgo (some 14) Try.func32 #[.slice A0 l0.length c0] ?_; (with_reducible refine (impl_heightsOf.calls k _ _ l0 gA fA _ (zC hA.out HB.out) iA.out A5.out).mono ?_); rintro e pA ⟨rfl, hb⟩; refine ⟨_, rfl, ?_⟩; replace aA := zbl aA.out hb; replace HB := zbs2 HB.out bA.out hb; (try clear hb)) | ((with_reducible refine zgc 33 ?_); refine zgo (some 20) Try.func33 #[.int .i64 a1, .int .i64 gA, .int .i64 fA] ?_; (with_reducible refine (impl_within.calls a1 gA fA false _ A6.out).mono ?_); rintro e w' ⟨rfl, ⟨nd, rfl⟩⟩; refine ⟨_, rfl, ?_⟩; (try (rw [drewN_self pA]; generalize hq_ : World.drewN pA _ = pA; have n0_ : Aside0 (pA.heap[cA]? = some (.cells #[.int .i64 0, .int .i64 0] 25 (0, 0))) := ⟨by rw [← hq_]; exact (zb aA.out)⟩; have n1_ : Aside0 (Below w.heap.size w pA) := ⟨by rw [← hq_]; exact (zB2 HB.out bA.out)⟩; clear aA HB hq_; have aA := n0_; have HB := n1_; clear n0_ n1_)); (try (have hczrw24_gb349_0 := zc0 aA.out)); (try (have hfzrw24_gb349_0 := zfz aA.out 0)); (try (have hczrw24_gb349_1 := zc1 aA.out)); (try (have hfzrw24_gb349_1 := zfz aA.out 1)); obtain ⟨EA, DA, wA, vA⟩ := zy2 aA.out))
   refine bodyPost_ret (results_ct rfl _ _ cA 25 #[.int .i64 0, .int .i64 0] (0, 0) _ rfl (by refine zb ?_; refine blk_put (cs := #[.int .i64 0, .int .i64 0]) ?_ 1 _ rfl; refine zb ?_; refine blk_put (cs := #[.int .i64 0, .int .i64 0]) ?_ 0 _ rfl; refine zb ?_; exact aA.out) Try.underlying25 rfl (by kernel_rfl)) rfl ?_
   exact ⟨zE, zB2 HB.out bA.out⟩
 ·replace c4 := Bool.eq_false_iff.mpr c4
  subst c4
  rw [if_neg Bool.false_ne_true] at H
  simp only [Option.some.injEq, Prod.mk.injEq] at H
  obtain ⟨rfl, rfl, rfl⟩ := H
  go_enter Try.func8, Try.ntmps8
  go_wp2_with (first | ((with_reducible refine zd 4 ?_); refine zbx (N := 4) (cs := #[.int .i64 0, .int .i64 0]) (t := 25) ?_; intro cA hg OA dA hb; have aA := zQ (dA); have eA := zgz hg HB.out; have bA := eA; replace HB := zbs HB.out hb; clear hb dA hg) | ((with_reducible refine zgc 31 ?_); refine zgo (some 9) Try.func31 #[.slice A0 l0.length c0] ?_; (with_reducible refine (impl_ValidSail.calls k _ _ l0 false _ (zC hA.out HB.out) iA.out A3.out).mono ?_); rintro e NA ⟨rfl, hb⟩; refine ⟨_, rfl, ?_⟩; replace aA := zbl aA.out hb; replace HB := zbs2 HB.out bA.out hb; (try clear hb); obtain ⟨CA, BA, uA, tA⟩ := zy2 aA.out))
  refine bodyPost_ret (results_ct rfl _ _ cA 25 #[.int .i64 0, .int .i64 0] (0, 0) _ rfl (by refine zb ?_; refine blk_put (cs := #[.int .i64 0, .int .i64 0]) ?_ 1 _ rfl; refine zb ?_; refine blk_put (cs := #[.int .i64 0, .int .i64 0]) ?_ 0 _ rfl; refine zb ?_; exact aA.out) Try.underlying25 rfl (by kernel_rfl)) rfl ?_
  exact ⟨zE, zB2 HB.out bA.out⟩

end
end Go.Proofs.Ytchngbjpjbahiaa.PSailw

