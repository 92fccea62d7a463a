import Derived.Test.YtcomncokgkeniaaHSailw0
import Derived.Test.YtcomncokgkeniaaHSailwh
import Derived.Test.YtcomncokgkeniaaHSailwk
import Derived.Test.YtcomncokgkeniaaHSailwl
import Derived.Test.YtcomncokgkeniaaHSailwp
namespace Go.Proofs.Ytcomncokgkeniaa.PSailw
noncomputable section
open Go.RowKit Go.Proofs.YtcomncokgkeniaaW.PrintWords Go.Proofs.YtcomncokgkeniaaW.PrintLast Go.Proofs.YtcomncokgkeniaaW.PrintMore
attribute [local go_sem] max2_int min2_int max_two min_two max_three min_three max_four min_four   -- for this text's walks alone
set_option linter.unusedVariables false
set_option linter.unusedSimpArgs false
set_option maxHeartbeats 8000000
set_option maxRecDepth 100000

def impl_WidthAt.f (k : Nat) (l0 : List (S49)) (a1 : Int) : Option (Int × Int × Int) := (impl_ValidSail.f k l0).bind fun t359 => (if t359 = true then ((impl_heightsOf.f k l0).bind fun bt360 => ((impl_within.f a1 bt360.1 bt360.2).bind fun t362 => (if t362 = true then ((impl_isBulged.f k l0).bind fun t363 => (if t363 = true then ((impl_widthAt.f k l0 a1).bind fun bt364 => (some (bt364.1, bt364.2, 0))) else (some (0, 0, 6)))) else (some (0, 0, 2))))) else (some (0, 0, 1)))
theorem impl_WidthAt.calls (k : Nat) (A0 : Option Addr) (c0 : Nat) (l0 : List (S49)) (a1 : Int) (r1 : Int) (r2 : Int) (r3 : Int) (w : World) (hr0 : Kd.C k49 w A0 l0.length l0) (hc0 : l0.length ≤ c0) (h : impl_WidthAt.f k l0 a1 = some (r1, r2, r3)) :
  Calls Try.prog 8 #[.slice A0 l0.length c0, .int .i64 a1] w fun e w' => e = .returned (.tuple #[.agg #[.int .i64 r1, .int .i64 r2], .int .i64 r3]) ∧ Below w.heap.size w w' := by
 have hu25 := Try.underlying25
 have HR0 := zQ hr0
 have HC0 := zQ hc0
 clear hr0 hc0
 have HB := zQ (Below.refl w.heap.size w)
 have H := h; unfold impl_WidthAt.f at H
 clear h
 replace H := zob H; obtain ⟨t359, A3, H⟩ := H
 by_cases c4 : t359 = true
 ·subst c4
  rw [if_pos rfl] at H; replace H := zob H; obtain ⟨⟨t360, t361⟩, A5, H⟩ := H; replace H := zob H; obtain ⟨t362, A6, H⟩ := H
  by_cases c7 : t362 = true
  ·subst c7
   rw [if_pos rfl] at H; replace H := zob H; obtain ⟨t363, A8, H⟩ := H
   by_cases c9 : t363 = true
   ·subst c9
    rw [if_pos rfl] at H; replace H := zob H; obtain ⟨⟨t364, t365⟩, A10, H⟩ := H
    simp only [Option.some.injEq, Prod.mk.injEq] at H
    obtain ⟨rfl, rfl, rfl⟩ := H
    go_enter Try.func8, Try.ntmps8
    go_wp2_with (first | ((with_reducible refine zd 4 ?_); refine zbx (N := 4) (cs := #[.int .i64 0, .int .i64 0]) (t := 25) ?_; intro gb358 hg w11 hbox hb; have BK358 := zQ (hbox); have GW358 := zgz hg HB.out; have GE358 := GW358; replace HB := zbs HB.out hb; clear hb hbox hg) | ((with_reducible refine zgc 31 ?_); refine zgo (some 9) Try.func31 #[.slice A0 l0.length c0] ?_; (with_reducible refine (impl_ValidSail.calls k _ _ l0 true _ (zC HR0.out HB.out) HC0.out A3.out).mono ?_); rintro e w12 ⟨rfl, hb⟩; refine ⟨_, rfl, ?_⟩; replace BK358 := zbl BK358.out hb; replace HB := zbs2 HB.out GE358.out hb; (try clear hb)) | ((with_reducible refine zgc 32 ?_); refine zgo (some 14) Try.func32 #[.slice A0 l0.length c0] ?_; (with_reducible refine (impl_heightsOf.calls k _ _ l0 t360 t361 _ (zC HR0.out HB.out) HC0.out A5.out).mono ?_); rintro e w13 ⟨rfl, hb⟩; refine ⟨_, rfl, ?_⟩; replace BK358 := zbl BK358.out hb; replace HB := zbs2 HB.out GE358.out hb; (try clear hb)) | ((with_reducible refine zgc 33 ?_); refine zgo (some 20) Try.func33 #[.int .i64 a1, .int .i64 t360, .int .i64 t361] ?_; (with_reducible refine (impl_within.calls a1 t360 t361 true _ A6.out).mono ?_); rintro e w' ⟨rfl, ⟨nd, rfl⟩⟩; refine ⟨_, rfl, ?_⟩; (try (rw [drewN_self w13]; generalize hq_ : World.drewN w13 _ = w13; have n0_ : Aside0 (w13.heap[gb358]? = some (.cells #[.int .i64 0, .int .i64 0] 25 (0, 0))) := ⟨by rw [← hq_]; exact (zb BK358.out)⟩; have n1_ : Aside0 (Below w.heap.size w w13) := ⟨by rw [← hq_]; exact (zB2 HB.out GE358.out)⟩; clear BK358 HB hq_; have BK358 := n0_; have HB := n1_; clear n0_ n1_)); (try (have hczrw13_gb358_0 := zc0 BK358.out)); (try (have hfzrw13_gb358_0 := zfz BK358.out 0)); (try (have hczrw13_gb358_1 := zc1 BK358.out)); (try (have hfzrw13_gb358_1 := zfz BK358.out 1))) | ((with_reducible refine zgc 34 ?_); refine zgo (some 24) Try.func34 #[.slice A0 l0.length c0] ?_; (with_reducible refine (impl_isBulged.calls k _ _ l0 true _ (zC HR0.out HB.out) HC0.out A8.out).mono ?_); rintro e w14 ⟨rfl, hb⟩; refine ⟨_, rfl, ?_⟩; replace BK358 := zbl BK358.out hb; replace HB := zbs2 HB.out GE358.out hb; (try clear hb)) | ((with_reducible refine zgc 35 ?_); refine zgo (some 29) Try.func35 #[.slice A0 l0.length c0, .int .i64 a1] ?_; (with_reducible refine (impl_widthAt.calls k _ _ l0 a1 t364 t365 _ (zC HR0.out HB.out) HC0.out A10.out).mono ?_); rintro e w15 ⟨rfl, hb⟩; refine ⟨_, rfl, ?_⟩; replace BK358 := zbl BK358.out hb; replace HB := zbs2 HB.out GE358.out hb; (try clear hb); obtain ⟨hcz16_0, hcz16_1, hfz16_0, hfz16_1⟩ := zy2 BK358.out))
    refine bodyPost_ret (results_ct rfl _ _ gb358 25 #[.int .i64 t364, .int .i64 t365] (0, 0) _ rfl (by refine zb ?_; refine blk_put (cs := #[.int .i64 t364, .int .i64 0]) ?_ 1 _ rfl; refine zb ?_; refine blk_put (cs := #[.int .i64 0, .int .i64 0]) ?_ 0 _ rfl; refine zb ?_; exact BK358.out) Try.underlying25 rfl (by kernel_rfl)) rfl ?_
    exact ⟨zE, zB2 HB.out GE358.out⟩
   ·replace c9 := Bool.eq_false_iff.mpr c9
    subst c9
    rw [if_neg Bool.false_ne_true] at H
    simp only [Option.some.injEq, Prod.mk.injEq] at H
    obtain ⟨rfl, rfl, rfl⟩ := H
    go_enter Try.func8, Try.ntmps8
    go_wp2_with (first | ((with_reducible refine zd 4 ?_); refine zbx (N := 4) (cs := #[.int .i64 0, .int .i64 0]) (t := 25) ?_; intro gb358 hg w17 hbox hb; have BK358 := zQ (hbox); have GW358 := zgz hg HB.out; have GE358 := GW358; replace HB := zbs HB.out hb; clear hb hbox hg) | ((with_reducible refine zgc 31 ?_); refine zgo (some 9) Try.func31 #[.slice A0 l0.length c0] ?_; (with_reducible refine (impl_ValidSail.calls k _ _ l0 true _ (zC HR0.out HB.out) HC0.out A3.out).mono ?_); rintro e w18 ⟨rfl, hb⟩; refine ⟨_, rfl, ?_⟩; replace BK358 := zbl BK358.out hb; replace HB := zbs2 HB.out GE358.out hb; (try clear hb)) | ((with_reducible refine zgc 32 ?_); refine zgo (some 14) Try.func32 #[.slice A0 l0.length c0] ?_; (with_reducible refine (impl_heightsOf.calls k _ _ l0 t360 t361 _ (zC HR0.out HB.out) HC0.out A5.out).mono ?_); rintro e w19 ⟨rfl, hb⟩; refine ⟨_, rfl, ?_⟩; replace BK358 := zbl BK358.out hb; replace HB := zbs2 HB.out GE358.out hb; (try clear hb)) | ((with_reducible refine zgc 33 ?_); refine zgo (some 20) Try.func33 #[.int .i64 a1, .int .i64 t360, .int .i64 t361] ?_; (with_reducible refine (impl_within.calls a1 t360 t361 true _ A6.out).mono ?_); rintro e w' ⟨rfl, ⟨nd, rfl⟩⟩; refine ⟨_, rfl, ?_⟩; (try (rw [drewN_self w19]; generalize hq_ : World.drewN w19 _ = w19; have n0_ : Aside0 (w19.heap[gb358]? = some (.cells #[.int .i64 0, .int .i64 0] 25 (0, 0))) := ⟨by rw [← hq_]; exact (zb BK358.out)⟩; have n1_ : Aside0 (Below w.heap.size w w19) := ⟨by rw [← hq_]; exact (zB2 HB.out GE358.out)⟩; clear BK358 HB hq_; have BK358 := n0_; have HB := n1_; clear n0_ n1_)); (try (have hczrw19_gb358_0 := zc0 BK358.out)); (try (have hfzrw19_gb358_0 := zfz BK358.out 0)); (try (have hczrw19_gb358_1 := zc1 BK358.out)); (try (have hfzrw19_gb358_1 := zfz BK358.out 1))) | ((with_reducible refine zgc 34 ?_); refine zgo (some 24) Try.func34 #[.slice A0 l0.length c0] ?_; (with_reducible refine (impl_isBulged.calls k _ _ l0 false _ (zC HR0.out HB.out) HC0.out A8.out).mono ?_); rintro e w20 ⟨rfl, hb⟩; refine ⟨_, rfl, ?_⟩; replace BK358 := zbl BK358.out hb; replace HB := zbs2 HB.out GE358.out hb; (try clear hb); obtain ⟨hcz21_0, hcz21_1, hfz21_0, hfz21_1⟩ := zy2 BK358.out))
    refine bodyPost_ret (results_ct rfl _ _ gb358 25 #[.int .i64 0, .int .i64 0] (0, 0) _ rfl (by refine zb ?_; refine blk_put (cs := #[.int .i64 0, .int .i64 0]) ?_ 1 _ rfl; refine zb ?_; refine blk_put (cs := #[.int .i64 0, .int .i64 0]) ?_ 0 _ rfl; refine zb ?_; exact BK358.out) Try.underlying25 rfl (by kernel_rfl)) rfl ?_
    exact ⟨zE, zB2 HB.out GE358.out⟩
  ·replace c7 := Bool.eq_false_iff.mpr c7
   subst c7
   rw [if_neg Bool.false_ne_true] at H
   simp only [Option.some.injEq, Prod.mk.injEq] at H
   obtain ⟨rfl, rfl, rfl⟩ := H
   go_enter Try.func8, Try.ntmps8
   go_wp2_with (first | ((with_reducible refine zd 4 ?_); refine zbx (N := 4) (cs := #[.int .i64 0, .int .i64 0]) (t := 25) ?_; intro gb358 hg w22 hbox hb; have BK358 := zQ (hbox); have GW358 := zgz hg HB.out; have GE358 := GW358; replace HB := zbs HB.out hb; clear hb hbox hg) | ((with_reducible refine zgc 31 ?_); refine zgo (some 9) Try.func31 #[.slice A0 l0.length c0] ?_; (with_reducible refine (impl_ValidSail.calls k _ _ l0 true _ (zC HR0.out HB.out) HC0.out A3.out).mono ?_); rintro e w23 ⟨rfl, hb⟩; refine ⟨_, rfl, ?_⟩; replace BK358 := zbl BK358.out hb; replace HB := zbs2 HB.out GE358.out hb; (try clear hb)) | ((with_reducible refine zgc 32 ?_); refine zgo (some 14) Try.func32 #[.slice A0 l0.length c0] ?_; (with_reducible refine (impl_heightsOf.calls k _ _ l0 t360 t361 _ (zC HR0.out HB.out) HC0.out A5.out).mono ?_); rintro e w24 ⟨rfl, hb⟩; refine ⟨_, rfl, ?_⟩; replace BK358 := zbl BK358.out hb; replace HB := zbs2 HB.out GE358.out hb; (try clear hb)) | ((with_reducible refine zgc 33 ?_); refine zgo (some 20) Try.func33 #[.int .i64 a1, .int .i64 t360, .int .i64 t361] ?_; (with_reducible refine (impl_within.calls a1 t360 t361 false _ A6.out).mono ?_); rintro e w' ⟨rfl, ⟨nd, rfl⟩⟩; refine ⟨_, rfl, ?_⟩; (try (rw [drewN_self w24]; generalize hq_ : World.drewN w24 _ = w24; have n0_ : Aside0 (w24.heap[gb358]? = some (.cells #[.int .i64 0, .int .i64 0] 25 (0, 0))) := ⟨by rw [← hq_]; exact (zb BK358.out)⟩; have n1_ : Aside0 (Below w.heap.size w w24) := ⟨by rw [← hq_]; exact (zB2 HB.out GE358.out)⟩; clear BK358 HB hq_; have BK358 := n0_; have HB := n1_; clear n0_ n1_)); (try (have hczrw24_gb358_0 := zc0 BK358.out)); (try (have hfzrw24_gb358_0 := zfz BK358.out 0)); (try (have hczrw24_gb358_1 := zc1 BK358.out)); (try (have hfzrw24_gb358_1 := zfz BK358.out 1)); obtain ⟨hcz25_0, hcz25_1, hfz25_0, hfz25_1⟩ := zy2 BK358.out))
   refine bodyPost_ret (results_ct rfl _ _ gb358 25 #[.int .i64 0, .int .i64 0] (0, 0) _ rfl (by refine zb ?_; refine blk_put (cs := #[.int .i64 0, .int .i64 0]) ?_ 1 _ rfl; refine zb ?_; refine blk_put (cs := #[.int .i64 0, .int .i64 0]) ?_ 0 _ rfl; refine zb ?_; exact BK358.out) Try.underlying25 rfl (by kernel_rfl)) rfl ?_
   exact ⟨zE, zB2 HB.out GE358.out⟩
 ·replace c4 := Bool.eq_false_iff.mpr c4
  subst c4
  rw [if_neg Bool.false_ne_true] at H
  simp only [Option.some.injEq, Prod.mk.injEq] at H
  obtain ⟨rfl, rfl, rfl⟩ := H
  go_enter Try.func8, Try.ntmps8
  go_wp2_with (first | ((with_reducible refine zd 4 ?_); refine zbx (N := 4) (cs := #[.int .i64 0, .int .i64 0]) (t := 25) ?_; intro gb358 hg w26 hbox hb; have BK358 := zQ (hbox); have GW358 := zgz hg HB.out; have GE358 := GW358; replace HB := zbs HB.out hb; clear hb hbox hg) | ((with_reducible refine zgc 31 ?_); refine zgo (some 9) Try.func31 #[.slice A0 l0.length c0] ?_; (with_reducible refine (impl_ValidSail.calls k _ _ l0 false _ (zC HR0.out HB.out) HC0.out A3.out).mono ?_); rintro e w27 ⟨rfl, hb⟩; refine ⟨_, rfl, ?_⟩; replace BK358 := zbl BK358.out hb; replace HB := zbs2 HB.out GE358.out hb; (try clear hb); obtain ⟨hcz28_0, hcz28_1, hfz28_0, hfz28_1⟩ := zy2 BK358.out))
  refine bodyPost_ret (results_ct rfl _ _ gb358 25 #[.int .i64 0, .int .i64 0] (0, 0) _ rfl (by refine zb ?_; refine blk_put (cs := #[.int .i64 0, .int .i64 0]) ?_ 1 _ rfl; refine zb ?_; refine blk_put (cs := #[.int .i64 0, .int .i64 0]) ?_ 0 _ rfl; refine zb ?_; exact BK358.out) Try.underlying25 rfl (by kernel_rfl)) rfl ?_
  exact ⟨zE, zB2 HB.out GE358.out⟩

def laws_eqFraction.f (a0_0 : Int) (a0_1 : Int) (a1_0 : Int) (a1_1 : Int) : Option (Bool) := if a0_0 = a1_0 then (if a0_1 = a1_1 then (some true) else (some false)) else (some false)
theorem laws_eqFraction.calls (a0_0 : Int) (a0_1 : Int) (a1_0 : Int) (a1_1 : Int) (r : Bool) (w : World) (h : laws_eqFraction.f a0_0 a0_1 a1_0 a1_1 = some r) :
  Calls Try.prog 9 #[.agg #[.int .i64 a0_0, .int .i64 a0_1], .agg #[.int .i64 a1_0, .int .i64 a1_1]] w fun e w' => e = .returned (.bool r) ∧ Below w.heap.size w w' := by
 have hu25 := Try.underlying25
 have HB := zQ (Below.refl w.heap.size w)
 have H := h; unfold laws_eqFraction.f at H
 clear h
 by_cases c3 : a0_0 = a1_0
 ·rw [if_pos c3] at H
  have c3b0 : (a0_0 == a1_0) = true := beq_iff_eq.mpr c3; have c3b1 : (a0_0 != a1_0) = false := bne_eq_false_iff_eq.mpr c3; clear c3
  by_cases c4 : a0_1 = a1_1
  ·rw [if_pos c4] at H
   have c4b0 : (a0_1 == a1_1) = true := beq_iff_eq.mpr c4; have c4b1 : (a0_1 != a1_1) = false := bne_eq_false_iff_eq.mpr c4; clear c4; obtain rfl := Option.some.inj H
   go_enter Try.func9, Try.ntmps9
   go_wp2_with (first | ((with_reducible refine zd 2 ?_); refine zbx (N := 2) (cs := #[.int .i64 a0_0, .int .i64 a0_1]) (t := 25) ?_; intro gb366 hg w5 hbox hb; have BK366 := zQ (hbox); have GW366 := zgz hg HB.out; have GE366 := GW366; replace HB := zbs HB.out hb; clear hb hbox hg) | ((with_reducible refine zd 3 ?_); refine zbx (N := 3) (cs := #[.int .i64 a1_0, .int .i64 a1_1]) (t := 25) ?_; intro gb367 hg w6 hbox hb; have BK367 := zQ (hbox); have GW367 := zgz2 hg HB.out GE366.out; have GE367 := GW367; have NB366_367 := zn1 hg BK366.out; have NB367_366 := zn2 hg BK366.out; replace BK366 := zbl BK366.out hb; replace HB := zbs2 HB.out GE366.out hb; clear hb hbox hg; have hnb7 := NB366_367.out; have hnc7 := NB367_366.out; obtain ⟨hcz8_0, hcz8_1, hfz8_0, hfz8_1⟩ := zy2 BK366.out; obtain ⟨hcz9_0, hcz9_1, hfz9_0, hfz9_1⟩ := zy2 BK367.out))
   go_ret
   exact ⟨zE, zB3 HB.out GE366.out GE367.out⟩
  ·rw [if_neg c4] at H
   have c4b0 : (a0_1 == a1_1) = false := beq_eq_false_iff_ne.mpr c4; have c4b1 : (a0_1 != a1_1) = true := bne_iff_ne.mpr c4; obtain rfl := Option.some.inj H
   go_enter Try.func9, Try.ntmps9
   go_wp2_with (first | ((with_reducible refine zd 2 ?_); refine zbx (N := 2) (cs := #[.int .i64 a0_0, .int .i64 a0_1]) (t := 25) ?_; intro gb366 hg w10 hbox hb; have BK366 := zQ (hbox); have GW366 := zgz hg HB.out; have GE366 := GW366; replace HB := zbs HB.out hb; clear hb hbox hg) | ((with_reducible refine zd 3 ?_); refine zbx (N := 3) (cs := #[.int .i64 a1_0, .int .i64 a1_1]) (t := 25) ?_; intro gb367 hg w11 hbox hb; have BK367 := zQ (hbox); have GW367 := zgz2 hg HB.out GE366.out; have GE367 := GW367; have NB366_367 := zn1 hg BK366.out; have NB367_366 := zn2 hg BK366.out; replace BK366 := zbl BK366.out hb; replace HB := zbs2 HB.out GE366.out hb; clear hb hbox hg; have hnb12 := NB366_367.out; have hnc12 := NB367_366.out; obtain ⟨hcz13_0, hcz13_1, hfz13_0, hfz13_1⟩ := zy2 BK366.out; obtain ⟨hcz14_0, hcz14_1, hfz14_0, hfz14_1⟩ := zy2 BK367.out))
   go_ret
   exact ⟨zE, zB3 HB.out GE366.out GE367.out⟩
 ·rw [if_neg c3] at H
  have c3b0 : (a0_0 == a1_0) = false := beq_eq_false_iff_ne.mpr c3; have c3b1 : (a0_0 != a1_0) = true := bne_iff_ne.mpr c3; obtain rfl := Option.some.inj H
  go_enter Try.func9, Try.ntmps9
  go_wp2_with (first | ((with_reducible refine zd 2 ?_); refine zbx (N := 2) (cs := #[.int .i64 a0_0, .int .i64 a0_1]) (t := 25) ?_; intro gb366 hg w15 hbox hb; have BK366 := zQ (hbox); have GW366 := zgz hg HB.out; have GE366 := GW366; replace HB := zbs HB.out hb; clear hb hbox hg) | ((with_reducible refine zd 3 ?_); refine zbx (N := 3) (cs := #[.int .i64 a1_0, .int .i64 a1_1]) (t := 25) ?_; intro gb367 hg w16 hbox hb; have BK367 := zQ (hbox); have GW367 := zgz2 hg HB.out GE366.out; have GE367 := GW367; have NB366_367 := zn1 hg BK366.out; have NB367_366 := zn2 hg BK366.out; replace BK366 := zbl BK366.out hb; replace HB := zbs2 HB.out GE366.out hb; clear hb hbox hg; have hnb17 := NB366_367.out; have hnc17 := NB367_366.out; obtain ⟨hcz18_0, hcz18_1, hfz18_0, hfz18_1⟩ := zy2 BK366.out; obtain ⟨hcz19_0, hcz19_1, hfz19_0, hfz19_1⟩ := zy2 BK367.out))
  go_ret
  exact ⟨zE, zB3 HB.out GE366.out GE367.out⟩

def laws_eqSpot.f (a0_0 : Int) (a0_1 : Int) (a1_0 : Int) (a1_1 : Int) : Option (Bool) := if a0_0 = a1_0 then (if a0_1 = a1_1 then (some true) else (some false)) else (some false)
theorem laws_eqSpot.calls (a0_0 : Int) (a0_1 : Int) (a1_0 : Int) (a1_1 : Int) (r : Bool) (w : World) (h : laws_eqSpot.f a0_0 a0_1 a1_0 a1_1 = some r) :
  Calls Try.prog 36 #[.agg #[.int .i64 a0_0, .int .i64 a0_1], .agg #[.int .i64 a1_0, .int .i64 a1_1]] w fun e w' => e = .returned (.bool r) ∧ Below w.heap.size w w' := by
 have hu49 := Try.underlying49
 have HB := zQ (Below.refl w.heap.size w)
 have H := h; unfold laws_eqSpot.f at H
 clear h
 by_cases c3 : a0_0 = a1_0
 ·rw [if_pos c3] at H
  have c3b0 : (a0_0 == a1_0) = true := beq_iff_eq.mpr c3; have c3b1 : (a0_0 != a1_0) = false := bne_eq_false_iff_eq.mpr c3; clear c3
  by_cases c4 : a0_1 = a1_1
  ·rw [if_pos c4] at H
   have c4b0 : (a0_1 == a1_1) = true := beq_iff_eq.mpr c4; have c4b1 : (a0_1 != a1_1) = false := bne_eq_false_iff_eq.mpr c4; clear c4; obtain rfl := Option.some.inj H
   go_enter Try.func36, Try.ntmps36
   go_wp2_with (first | ((with_reducible refine zd 2 ?_); refine zbx (N := 2) (cs := #[.int .i64 a0_0, .int .i64 a0_1]) (t := 49) ?_; intro gb368 hg w5 hbox hb; have BK368 := zQ (hbox); have GW368 := zgz hg HB.out; have GE368 := GW368; replace HB := zbs HB.out hb; clear hb hbox hg) | ((with_reducible refine zd 3 ?_); refine zbx (N := 3) (cs := #[.int .i64 a1_0, .int .i64 a1_1]) (t := 49) ?_; intro gb369 hg w6 hbox hb; have BK369 := zQ (hbox); have GW369 := zgz2 hg HB.out GE368.out; have GE369 := GW369; have NB368_369 := zn1 hg BK368.out; have NB369_368 := zn2 hg BK368.out; replace BK368 := zbl BK368.out hb; replace HB := zbs2 HB.out GE368.out hb; clear hb hbox hg; have hnb7 := NB368_369.out; have hnc7 := NB369_368.out; obtain ⟨hcz8_0, hcz8_1, hfz8_0, hfz8_1⟩ := zy2 BK368.out; obtain ⟨hcz9_0, hcz9_1, hfz9_0, hfz9_1⟩ := zy2 BK369.out))
   go_ret
   exact ⟨zE, zB3 HB.out GE368.out GE369.out⟩
  ·rw [if_neg c4] at H
   have c4b0 : (a0_1 == a1_1) = false := beq_eq_false_iff_ne.mpr c4; have c4b1 : (a0_1 != a1_1) = true := bne_iff_ne.mpr c4; obtain rfl := Option.some.inj H
   go_enter Try.func36, Try.ntmps36
   go_wp2_with (first | ((with_reducible refine zd 2 ?_); refine zbx (N := 2) (cs := #[.int .i64 a0_0, .int .i64 a0_1]) (t := 49) ?_; intro gb368 hg w10 hbox hb; have BK368 := zQ (hbox); have GW368 := zgz hg HB.out; have GE368 := GW368; replace HB := zbs HB.out hb; clear hb hbox hg) | ((with_reducible refine zd 3 ?_); refine zbx (N := 3) (cs := #[.int .i64 a1_0, .int .i64 a1_1]) (t := 49) ?_; intro gb369 hg w11 hbox hb; have BK369 := zQ (hbox); have GW369 := zgz2 hg HB.out GE368.out; have GE369 := GW369; have NB368_369 := zn1 hg BK368.out; have NB369_368 := zn2 hg BK368.out; replace BK368 := zbl BK368.out hb; replace HB := zbs2 HB.out GE368.out hb; clear hb hbox hg; have hnb12 := NB368_369.out; have hnc12 := NB369_368.out; obtain ⟨hcz13_0, hcz13_1, hfz13_0, hfz13_1⟩ := zy2 BK368.out; obtain ⟨hcz14_0, hcz14_1, hfz14_0, hfz14_1⟩ := zy2 BK369.out))
   go_ret
   exact ⟨zE, zB3 HB.out GE368.out GE369.out⟩
 ·rw [if_neg c3] at H
  have c3b0 : (a0_0 == a1_0) = false := beq_eq_false_iff_ne.mpr c3; have c3b1 : (a0_0 != a1_0) = true := bne_iff_ne.mpr c3; obtain rfl := Option.some.inj H
  go_enter Try.func36, Try.ntmps36
  go_wp2_with (first | ((with_reducible refine zd 2 ?_); refine zbx (N := 2) (cs := #[.int .i64 a0_0, .int .i64 a0_1]) (t := 49) ?_; intro gb368 hg w15 hbox hb; have BK368 := zQ (hbox); have GW368 := zgz hg HB.out; have GE368 := GW368; replace HB := zbs HB.out hb; clear hb hbox hg) | ((with_reducible refine zd 3 ?_); refine zbx (N := 3) (cs := #[.int .i64 a1_0, .int .i64 a1_1]) (t := 49) ?_; intro gb369 hg w16 hbox hb; have BK369 := zQ (hbox); have GW369 := zgz2 hg HB.out GE368.out; have GE369 := GW369; have NB368_369 := zn1 hg BK368.out; have NB369_368 := zn2 hg BK368.out; replace BK368 := zbl BK368.out hb; replace HB := zbs2 HB.out GE368.out hb; clear hb hbox hg; have hnb17 := NB368_369.out; have hnc17 := NB369_368.out; obtain ⟨hcz18_0, hcz18_1, hfz18_0, hfz18_1⟩ := zy2 BK368.out; obtain ⟨hcz19_0, hcz19_1, hfz19_0, hfz19_1⟩ := zy2 BK369.out))
  go_ret
  exact ⟨zE, zB3 HB.out GE368.out GE369.out⟩

def laws_eqSpotS.l0 : Nat → List (S49) → List (S49) → Int → Option (Bool)
 | 0, _, _, _ => none
 | k + 1, x0, x1, x5 => if x5 < (x0.length : Int) then (if 0 ≤ x5 then (if x5 < (x1.length : Int) then ((laws_eqSpot.f ((rd_T49 x0 x5).f0) ((rd_T49 x0 x5).f1) ((rd_T49 x1 x5).f0) ((rd_T49 x1 x5).f1)).bind fun t372 => (if t372 = true then (laws_eqSpotS.l0 k x0 x1 (wrap64 (x5 + 1))) else (some false))) else (none)) else (none)) else (some true)
def laws_eqSpotS.f (k : Nat) (l0 : List (S49)) (l1 : List (S49)) : Option (Bool) := if (l0.length : Int) = (l1.length : Int) then (laws_eqSpotS.l0 k l0 l1 0) else (some false)
def laws_eqSpotS.T6 : Bool × List (List Nat × List Nat) := (true, [([], []), ([], []), ([0, 1], [0, 1]), ([2], [2]), ([], []), ([], []), ([4, 5], [4, 5]), ([6], [6]), ([3, 7], [3, 7]), ([8], [8])])
def laws_eqSpotS.B6 : List Nat := [0, 0, 3, 7, 0, 0, 48, 112, 255, 511]
theorem laws_eqSpotS.tab6 : rtab .any (opsOf Try.f10 6) = laws_eqSpotS.T6 := by kernel_rfl
theorem laws_eqSpotS.bits6 : waitsOk laws_eqSpotS.T6.2 laws_eqSpotS.B6 = true := by kernel_rfl
theorem laws_eqSpotS.calls (k : Nat) (A0 : Option Addr) (c0 : Nat) (l0 : List (S49)) (A1 : Option Addr) (c1 : Nat) (l1 : List (S49)) (r : Bool) (w : World) (hr0 : Kd.C k49 w A0 l0.length l0) (hc0 : l0.length ≤ c0) (hr1 : Kd.C k49 w A1 l1.length l1) (hc1 : l1.length ≤ c1) (h : laws_eqSpotS.f k l0 l1 = some r) :
  Calls Try.prog 10 #[.slice A0 l0.length c0, .slice A1 l1.length c1] w fun e w' => e = .returned (.bool r) ∧ Below w.heap.size w w' := by
 have hu49 := Try.underlying49
 have HR0 := zQ hr0
 have HC0 := zQ hc0
 clear hr0 hc0
 have HR1 := zQ hr1
 have HC1 := zQ hc1
 clear hr1 hc1
 have HB := zQ (Below.refl w.heap.size w)
 have H := h; unfold laws_eqSpotS.f at H
 clear h
 by_cases c3 : (l0.length : Int) = (l1.length : Int)
 ·rw [if_pos c3] at H
  have c3b0 : ((l0.length : Int) == (l1.length : Int)) = true := beq_iff_eq.mpr c3; have c3b1 : ((l0.length : Int) != (l1.length : Int)) = false := bne_eq_false_iff_eq.mpr c3
  have c3b2 : (l0.length == l1.length) = true := by first | simpa using c3 | (simp at c3 ⊢; omega)
  clear c3; have H' := zQ H; clear H
  go_enter Try.func10, Try.ntmps10
  go_wp2
  go_loopg [5] k (fun kq v5 w' => ∃ (x5_1 : Int), v5 = .int .i64 x5_1 ∧ Aside0 (laws_eqSpotS.l0 kq l0 l1 x5_1 = some r) ∧ Aside0 (kq ≤ k) ∧ Aside0 (Below w.heap.size w w'))
  case atStart => exact ⟨(0), (zF), H', ⟨Nat.le_refl _⟩, ⟨zB HB.out⟩⟩
  case round =>
   clear H'; (try clear c1); (try clear p2); (try clear c3); (try clear c3b0); (try clear c3b1); (try clear c3b2); obtain ⟨x5_1, rfl, HA, HK1, HB⟩ := hrel
   cases gk with
   | zero => exact absurd HA.out (by simp [laws_eqSpotS.l0])
   | succ k1 =>
    have H := HA.out; clear HA
    simp only [laws_eqSpotS.l0] at H
    by_cases c4 : x5_1 < (l0.length : Int)
    ·rw [if_pos c4] at H
     have c4b0 := decide_eq_true c4; clear c4
     by_cases c5 : 0 ≤ x5_1
     ·rw [if_pos c5] at H
      have c5b0 := decide_eq_true c5; clear c5
      by_cases c6 : x5_1 < (l1.length : Int)
      ·rw [if_pos c6] at H
       have c6b0 := decide_eq_true c6; clear c6; replace H := zob H; obtain ⟨t372, A7, H⟩ := H
       by_cases c8 : t372 = true
       ·subst c8
        rw [if_pos rfl] at H; have H' := zQ H; clear H
        try go_wp2
        have n0_ := zQ (below_drew1 HB.out); clear HB; have HB := n0_; clear n0_; have p370 : 0 ≤ (x5_1 : Int) := zD; have q370 : x5_1 < (l0.length : Int) := zD; obtain ⟨ad370, e370, hx370_0, hx370_1⟩ := at_T49 HR0.out x5_1 p370 q370; have hw370_1 := hx370_1; have hw370_0 := hx370_0
        cases e370
        replace hx370_0 := zw HB.out hx370_0; replace hx370_1 := zw HB.out hx370_1; replace p370 := eq_true p370; replace q370 := eq_true q370; have p371 : 0 ≤ (x5_1 : Int) := zD; have q371 : x5_1 < (l1.length : Int) := zD; obtain ⟨ad371, e371, hx371_0, hx371_1⟩ := at_T49 HR1.out x5_1 p371 q371; have hw371_1 := hx371_1; have hw371_0 := hx371_0
        cases e371
        replace hx371_0 := zw HB.out hx371_0; replace hx371_1 := zw HB.out hx371_1; replace p371 := eq_true p371; replace q371 := eq_true q371
        refine zs (fun w' => w'.cell? (ad370.add ((x5_1).toNat * 2)) = some (.int .i64 ((rd_T49 l0 x5_1).f0)) ∧ w'.cell? ⟨(ad370.add ((x5_1).toNat * 2)).block, (ad370.add ((x5_1).toNat * 2)).off + 1, none⟩ = some (.int .i64 ((rd_T49 l0 x5_1).f1)) ∧ w'.cell? (ad371.add ((x5_1).toNat * 2)) = some (.int .i64 ((rd_T49 l1 x5_1).f0)) ∧ w'.cell? ⟨(ad371.add ((x5_1).toNat * 2)).block, (ad371.add ((x5_1).toNat * 2)).off + 1, none⟩ = some (.int .i64 ((rd_T49 l1 x5_1).f1))) [] 10 ⟨((HB.out.cell (World.block_lt_of_cell? w _ hw370_0)).trans hw370_0), ((HB.out.cell (World.block_lt_of_cell? w _ hw370_1)).trans hw370_1), ((HB.out.cell (World.block_lt_of_cell? w _ hw371_0)).trans hw371_0), ((HB.out.cell (World.block_lt_of_cell? w _ hw371_1)).trans hw371_1)⟩ (fun hHeld => ?_); refine with_tabW laws_eqSpotS.tab6 laws_eqSpotS.bits6 (fun HT_ HW_ => ?_)
        generalize wr.drew = w9 at HB hx370_0 hx370_1 hx371_0 hx371_1 hHeld ⊢
        refine zp 0 17 ?_
        refine zp 1 18 ?_
        refine zp 2 19 ?_
        refine zp 4 21 ?_
        refine zp 5 22 ?_
        refine zp 6 23 ?_
        refine zt 3 20 hHeld ?_
        refine zt 7 24 hHeld ?_
        refine zo 8 (some 25) (fun K hK => ?_)
        refine goes_ Try.func36 (by kernel_rfl) rfl #[.agg #[.int .i64 ((rd_T49 l0 x5_1).f0), .int .i64 ((rd_T49 l0 x5_1).f1)], .agg #[.int .i64 ((rd_T49 l1 x5_1).f0), .int .i64 ((rd_T49 l1 x5_1).f1)]] (by rfl) rfl rfl zM ?_
        with_reducible refine (laws_eqSpot.calls ((rd_T49 l0 x5_1).f0) ((rd_T49 l0 x5_1).f1) ((rd_T49 l1 x5_1).f0) ((rd_T49 l1 x5_1).f1) true _ A7.out).mono ?_
        rintro e w10 ⟨rfl, hb⟩
        refine ⟨_, rfl, ?_⟩
        have n0_ := zbs HB.out hb; clear HB; have HB := n0_; clear n0_
        (try clear hb)
        (try clear hb2)
        (try clear hk)
        (try clear hi)
        refine hK.out _ _ ⟨((HB.out.cell (World.block_lt_of_cell? w _ hw370_0)).trans hw370_0), ((HB.out.cell (World.block_lt_of_cell? w _ hw370_1)).trans hw370_1), ((HB.out.cell (World.block_lt_of_cell? w _ hw371_0)).trans hw371_0), ((HB.out.cell (World.block_lt_of_cell? w _ hw371_1)).trans hw371_1)⟩ (fun hHeld => ?_)
        clear hK K
        refine zn 25 ?_
        refine zp 9 26 ?_
        refine done_ (done_of HT_.out (by kernel_rfl)) ?_
        try go_wp2
        go_roundg k1
        case measure => have := HK1.out; omega
        case rel => exact ⟨(wrap64 (x5_1 + 1)), (zF), H', ⟨by have := HK1.out; omega⟩, ⟨zB HB.out⟩⟩
       ·replace c8 := Bool.eq_false_iff.mpr c8
        subst c8
        rw [if_neg Bool.false_ne_true] at H; obtain rfl := Option.some.inj H
        try go_wp2
        have n0_ := zQ (below_drew1 HB.out); clear HB; have HB := n0_; clear n0_; have p370 : 0 ≤ (x5_1 : Int) := zD; have q370 : x5_1 < (l0.length : Int) := zD; obtain ⟨ad370, e370, hx370_0, hx370_1⟩ := at_T49 HR0.out x5_1 p370 q370; have hw370_1 := hx370_1; have hw370_0 := hx370_0
        cases e370
        replace hx370_0 := zw HB.out hx370_0; replace hx370_1 := zw HB.out hx370_1; replace p370 := eq_true p370; replace q370 := eq_true q370; have p371 : 0 ≤ (x5_1 : Int) := zD; have q371 : x5_1 < (l1.length : Int) := zD; obtain ⟨ad371, e371, hx371_0, hx371_1⟩ := at_T49 HR1.out x5_1 p371 q371; have hw371_1 := hx371_1; have hw371_0 := hx371_0
        cases e371
        replace hx371_0 := zw HB.out hx371_0; replace hx371_1 := zw HB.out hx371_1; replace p371 := eq_true p371; replace q371 := eq_true q371
        refine zs (fun w' => w'.cell? (ad370.add ((x5_1).toNat * 2)) = some (.int .i64 ((rd_T49 l0 x5_1).f0)) ∧ w'.cell? ⟨(ad370.add ((x5_1).toNat * 2)).block, (ad370.add ((x5_1).toNat * 2)).off + 1, none⟩ = some (.int .i64 ((rd_T49 l0 x5_1).f1)) ∧ w'.cell? (ad371.add ((x5_1).toNat * 2)) = some (.int .i64 ((rd_T49 l1 x5_1).f0)) ∧ w'.cell? ⟨(ad371.add ((x5_1).toNat * 2)).block, (ad371.add ((x5_1).toNat * 2)).off + 1, none⟩ = some (.int .i64 ((rd_T49 l1 x5_1).f1))) [] 10 ⟨((HB.out.cell (World.block_lt_of_cell? w _ hw370_0)).trans hw370_0), ((HB.out.cell (World.block_lt_of_cell? w _ hw370_1)).trans hw370_1), ((HB.out.cell (World.block_lt_of_cell? w _ hw371_0)).trans hw371_0), ((HB.out.cell (World.block_lt_of_cell? w _ hw371_1)).trans hw371_1)⟩ (fun hHeld => ?_); refine with_tabW laws_eqSpotS.tab6 laws_eqSpotS.bits6 (fun HT_ HW_ => ?_)
        generalize wr.drew = w11 at HB hx370_0 hx370_1 hx371_0 hx371_1 hHeld ⊢
        refine zp 0 17 ?_
        refine zp 1 18 ?_
        refine zp 2 19 ?_
        refine zp 4 21 ?_
        refine zp 5 22 ?_
        refine zp 6 23 ?_
        refine zt 3 20 hHeld ?_
        refine zt 7 24 hHeld ?_
        refine zo 8 (some 25) (fun K hK => ?_)
        refine goes_ Try.func36 (by kernel_rfl) rfl #[.agg #[.int .i64 ((rd_T49 l0 x5_1).f0), .int .i64 ((rd_T49 l0 x5_1).f1)], .agg #[.int .i64 ((rd_T49 l1 x5_1).f0), .int .i64 ((rd_T49 l1 x5_1).f1)]] (by rfl) rfl rfl zM ?_
        with_reducible refine (laws_eqSpot.calls ((rd_T49 l0 x5_1).f0) ((rd_T49 l0 x5_1).f1) ((rd_T49 l1 x5_1).f0) ((rd_T49 l1 x5_1).f1) false _ A7.out).mono ?_
        rintro e w12 ⟨rfl, hb⟩
        refine ⟨_, rfl, ?_⟩
        have n0_ := zbs HB.out hb; clear HB; have HB := n0_; clear n0_
        (try clear hb)
        (try clear hb2)
        (try clear hk)
        (try clear hi)
        refine hK.out _ _ ⟨((HB.out.cell (World.block_lt_of_cell? w _ hw370_0)).trans hw370_0), ((HB.out.cell (World.block_lt_of_cell? w _ hw370_1)).trans hw370_1), ((HB.out.cell (World.block_lt_of_cell? w _ hw371_0)).trans hw371_0), ((HB.out.cell (World.block_lt_of_cell? w _ hw371_1)).trans hw371_1)⟩ (fun hHeld => ?_)
        clear hK K
        refine zn 25 ?_
        refine zp 9 26 ?_
        refine done_ (done_of HT_.out (by kernel_rfl)) ?_
        try go_wp2
        go_ret
        exact ⟨zE, zB HB.out⟩
      ·rw [if_neg c6] at H
       exact absurd H (by simp)
     ·rw [if_neg c5] at H
      exact absurd H (by simp)
    ·rw [if_neg c4] at H
     have c4b0 := decide_eq_false c4; clear c4; obtain rfl := Option.some.inj H
     go_wp2
     go_ret
     exact ⟨zE, zB HB.out⟩
 ·rw [if_neg c3] at H
  have c3b0 : ((l0.length : Int) == (l1.length : Int)) = false := beq_eq_false_iff_ne.mpr c3; have c3b1 : ((l0.length : Int) != (l1.length : Int)) = true := bne_iff_ne.mpr c3
  have c3b2 : (l0.length == l1.length) = false := by first | simpa using c3 | (simp at c3 ⊢; omega)
  obtain rfl := Option.some.inj H
  go_enter Try.func10, Try.ntmps10
  go_wp2
  go_ret
  exact ⟨zE, zB HB.out⟩

end
end Go.Proofs.Ytcomncokgkeniaa.PSailw

