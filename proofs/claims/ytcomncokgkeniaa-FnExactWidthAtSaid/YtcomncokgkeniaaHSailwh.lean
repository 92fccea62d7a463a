import Derived.Test.YtcomncokgkeniaaHSailw0
import Derived.Test.YtcomncokgkeniaaHSailwa
import Derived.Test.YtcomncokgkeniaaHSailwd
import Derived.Test.YtcomncokgkeniaaHSailwe
import Derived.Test.YtcomncokgkeniaaHSailwg
namespace Go.Proofs.Ytcomncokgkeniaa.PSailw
noncomputable section
open Go.RowKit Go.Proofs.YtcomncokgkeniaaW.PrintWords Go.Proofs.YtcomncokgkeniaaW.PrintLast Go.Proofs.YtcomncokgkeniaaW.PrintMore
attribute [local go_sem] max2_int min2_int max_two min_two max_three min_three max_four min_four   -- for this text's walks alone
set_option linter.unusedVariables false
set_option linter.unusedSimpArgs false
set_option maxHeartbeats 8000000
set_option maxRecDepth 100000

def spec_WidthAt.f (k : Nat) (l0 : List (S49)) (a1 : Int) : Option (Int × Int × Int) := (spec_l13Ok.f k l0).bind fun t200 => (if t200 = true then ((spec_l13Limits.f k l0).bind fun bt201 => ((spec_l00In.f a1 bt201.1 bt201.2).bind fun t203 => (if t203 = true then ((spec_l13Bulged.f k l0).bind fun t204 => (if t204 = true then ((spec_l13Width.f k l0 a1).bind fun bt205 => (some (bt205.1, bt205.2, 0))) else (some (0, 0, 6)))) else (some (0, 0, 2))))) else (some (0, 0, 1)))
theorem spec_WidthAt.calls (k : Nat) (A0 : Option Addr) (c0 : Nat) (l0 : List (S49)) (a1 : Int) (r1 : Int) (r2 : Int) (r3 : Int) (w : World) (hr0 : Kd.C k49 w A0 l0.length l0) (hc0 : l0.length ≤ c0) (h : spec_WidthAt.f k l0 a1 = some (r1, r2, r3)) :
  Calls Try.prog 6 #[.slice A0 l0.length c0, .int .i64 a1] w fun e w' => e = .returned (.tuple #[.agg #[.int .i64 r1, .int .i64 r2], .int .i64 r3]) ∧ Below w.heap.size w w' := by
 have hu25 := Try.underlying25
 have HR0 := zQ hr0
 have HC0 := zQ hc0
 clear hr0 hc0
 have HB := zQ (Below.refl w.heap.size w)
 have H := h; unfold spec_WidthAt.f at H
 clear h
 replace H := zob H; obtain ⟨t200, A3, H⟩ := H
 by_cases c4 : t200 = true
 ·subst c4
  rw [if_pos rfl] at H; replace H := zob H; obtain ⟨⟨t201, t202⟩, A5, H⟩ := H; replace H := zob H; obtain ⟨t203, A6, H⟩ := H
  by_cases c7 : t203 = true
  ·subst c7
   rw [if_pos rfl] at H; replace H := zob H; obtain ⟨t204, A8, H⟩ := H
   by_cases c9 : t204 = true
   ·subst c9
    rw [if_pos rfl] at H; replace H := zob H; obtain ⟨⟨t205, t206⟩, A10, H⟩ := H
    simp only [Option.some.injEq, Prod.mk.injEq] at H
    obtain ⟨rfl, rfl, rfl⟩ := H
    go_enter Try.func6, Try.ntmps6
    go_wp2_with (first | ((with_reducible refine zd 4 ?_); refine zbx (N := 4) (cs := #[.int .i64 0, .int .i64 0]) (t := 25) ?_; intro gb199 hg w11 hbox hb; have BK199 := zQ (hbox); have GW199 := zgz hg HB.out; have GE199 := GW199; replace HB := zbs HB.out hb; clear hb hbox hg) | ((with_reducible refine zgc 25 ?_); refine zgo (some 9) Try.func25 #[.slice A0 l0.length c0] ?_; (with_reducible refine (spec_l13Ok.calls k _ _ l0 true _ (zC HR0.out HB.out) HC0.out A3.out).mono ?_); rintro e w12 ⟨rfl, hb⟩; refine ⟨_, rfl, ?_⟩; replace BK199 := zbl BK199.out hb; replace HB := zbs2 HB.out GE199.out hb; (try clear hb)) | ((with_reducible refine zgc 26 ?_); refine zgo (some 14) Try.func26 #[.slice A0 l0.length c0] ?_; (with_reducible refine (spec_l13Limits.calls k _ _ l0 t201 t202 _ (zC HR0.out HB.out) HC0.out A5.out).mono ?_); rintro e w' ⟨rfl, ⟨nd, rfl⟩⟩; refine ⟨_, rfl, ?_⟩; (try (rw [drewN_self w12]; generalize hq_ : World.drewN w12 _ = w12; have n0_ : Aside0 (w12.heap[gb199]? = some (.cells #[.int .i64 0, .int .i64 0] 25 (0, 0))) := ⟨by rw [← hq_]; exact (zb BK199.out)⟩; have n1_ : Aside0 (Below w.heap.size w w12) := ⟨by rw [← hq_]; exact (zB2 HB.out GE199.out)⟩; clear BK199 HB hq_; have BK199 := n0_; have HB := n1_; clear n0_ n1_)); (try (have hczrw12_gb199_0 := zc0 BK199.out)); (try (have hfzrw12_gb199_0 := zfz BK199.out 0)); (try (have hczrw12_gb199_1 := zc1 BK199.out)); (try (have hfzrw12_gb199_1 := zfz BK199.out 1))) | ((with_reducible refine zgc 27 ?_); refine zgo (some 20) Try.func27 #[.int .i64 a1, .int .i64 t201, .int .i64 t202] ?_; (with_reducible refine (spec_l00In.calls a1 t201 t202 true _ A6.out).mono ?_); rintro e w' ⟨rfl, ⟨nd, rfl⟩⟩; refine ⟨_, rfl, ?_⟩; (try (rw [drewN_self w12]; generalize hq_ : World.drewN w12 _ = w12; have n0_ : Aside0 (w12.heap[gb199]? = some (.cells #[.int .i64 0, .int .i64 0] 25 (0, 0))) := ⟨by rw [← hq_]; exact (zb BK199.out)⟩; have n1_ : Aside0 (Below w.heap.size w w12) := ⟨by rw [← hq_]; exact (zB2 HB.out GE199.out)⟩; clear BK199 HB hq_; have BK199 := n0_; have HB := n1_; clear n0_ n1_)); (try (have hczrw12_gb199_0 := zc0 BK199.out)); (try (have hfzrw12_gb199_0 := zfz BK199.out 0)); (try (have hczrw12_gb199_1 := zc1 BK199.out)); (try (have hfzrw12_gb199_1 := zfz BK199.out 1))) | ((with_reducible refine zgc 28 ?_); refine zgo (some 24) Try.func28 #[.slice A0 l0.length c0] ?_; (with_reducible refine (spec_l13Bulged.calls k _ _ l0 true _ (zC HR0.out HB.out) HC0.out A8.out).mono ?_); rintro e w13 ⟨rfl, hb⟩; refine ⟨_, rfl, ?_⟩; replace BK199 := zbl BK199.out hb; replace HB := zbs2 HB.out GE199.out hb; (try clear hb)) | ((with_reducible refine zgc 29 ?_); refine zgo (some 29) Try.func29 #[.slice A0 l0.length c0, .int .i64 a1] ?_; (with_reducible refine (spec_l13Width.calls k _ _ l0 a1 t205 t206 _ (zC HR0.out HB.out) HC0.out A10.out).mono ?_); rintro e w14 ⟨rfl, hb⟩; refine ⟨_, rfl, ?_⟩; replace BK199 := zbl BK199.out hb; replace HB := zbs2 HB.out GE199.out hb; (try clear hb); obtain ⟨hcz15_0, hcz15_1, hfz15_0, hfz15_1⟩ := zy2 BK199.out))
    refine bodyPost_ret (results_ct rfl _ _ gb199 25 #[.int .i64 t205, .int .i64 t206] (0, 0) _ rfl (by refine zb ?_; refine blk_put (cs := #[.int .i64 t205, .int .i64 0]) ?_ 1 _ rfl; refine zb ?_; refine blk_put (cs := #[.int .i64 0, .int .i64 0]) ?_ 0 _ rfl; refine zb ?_; exact BK199.out) Try.underlying25 rfl (by kernel_rfl)) rfl ?_
    exact ⟨zE, zB2 HB.out GE199.out⟩
   ·replace c9 := Bool.eq_false_iff.mpr c9
    subst c9
    rw [if_neg Bool.false_ne_true] at H
    simp only [Option.some.injEq, Prod.mk.injEq] at H
    obtain ⟨rfl, rfl, rfl⟩ := H
    go_enter Try.func6, Try.ntmps6
    go_wp2_with (first | ((with_reducible refine zd 4 ?_); refine zbx (N := 4) (cs := #[.int .i64 0, .int .i64 0]) (t := 25) ?_; intro gb199 hg w16 hbox hb; have BK199 := zQ (hbox); have GW199 := zgz hg HB.out; have GE199 := GW199; replace HB := zbs HB.out hb; clear hb hbox hg) | ((with_reducible refine zgc 25 ?_); refine zgo (some 9) Try.func25 #[.slice A0 l0.length c0] ?_; (with_reducible refine (spec_l13Ok.calls k _ _ l0 true _ (zC HR0.out HB.out) HC0.out A3.out).mono ?_); rintro e w17 ⟨rfl, hb⟩; refine ⟨_, rfl, ?_⟩; replace BK199 := zbl BK199.out hb; replace HB := zbs2 HB.out GE199.out hb; (try clear hb)) | ((with_reducible refine zgc 26 ?_); refine zgo (some 14) Try.func26 #[.slice A0 l0.length c0] ?_; (with_reducible refine (spec_l13Limits.calls k _ _ l0 t201 t202 _ (zC HR0.out HB.out) HC0.out A5.out).mono ?_); rintro e w' ⟨rfl, ⟨nd, rfl⟩⟩; refine ⟨_, rfl, ?_⟩; (try (rw [drewN_self w17]; generalize hq_ : World.drewN w17 _ = w17; have n0_ : Aside0 (w17.heap[gb199]? = some (.cells #[.int .i64 0, .int .i64 0] 25 (0, 0))) := ⟨by rw [← hq_]; exact (zb BK199.out)⟩; have n1_ : Aside0 (Below w.heap.size w w17) := ⟨by rw [← hq_]; exact (zB2 HB.out GE199.out)⟩; clear BK199 HB hq_; have BK199 := n0_; have HB := n1_; clear n0_ n1_)); (try (have hczrw17_gb199_0 := zc0 BK199.out)); (try (have hfzrw17_gb199_0 := zfz BK199.out 0)); (try (have hczrw17_gb199_1 := zc1 BK199.out)); (try (have hfzrw17_gb199_1 := zfz BK199.out 1))) | ((with_reducible refine zgc 27 ?_); refine zgo (some 20) Try.func27 #[.int .i64 a1, .int .i64 t201, .int .i64 t202] ?_; (with_reducible refine (spec_l00In.calls a1 t201 t202 true _ A6.out).mono ?_); rintro e w' ⟨rfl, ⟨nd, rfl⟩⟩; refine ⟨_, rfl, ?_⟩; (try (rw [drewN_self w17]; generalize hq_ : World.drewN w17 _ = w17; have n0_ : Aside0 (w17.heap[gb199]? = some (.cells #[.int .i64 0, .int .i64 0] 25 (0, 0))) := ⟨by rw [← hq_]; exact (zb BK199.out)⟩; have n1_ : Aside0 (Below w.heap.size w w17) := ⟨by rw [← hq_]; exact (zB2 HB.out GE199.out)⟩; clear BK199 HB hq_; have BK199 := n0_; have HB := n1_; clear n0_ n1_)); (try (have hczrw17_gb199_0 := zc0 BK199.out)); (try (have hfzrw17_gb199_0 := zfz BK199.out 0)); (try (have hczrw17_gb199_1 := zc1 BK199.out)); (try (have hfzrw17_gb199_1 := zfz BK199.out 1))) | ((with_reducible refine zgc 28 ?_); refine zgo (some 24) Try.func28 #[.slice A0 l0.length c0] ?_; (with_reducible refine (spec_l13Bulged.calls k _ _ l0 false _ (zC HR0.out HB.out) HC0.out A8.out).mono ?_); rintro e w18 ⟨rfl, hb⟩; refine ⟨_, rfl, ?_⟩; replace BK199 := zbl BK199.out hb; replace HB := zbs2 HB.out GE199.out hb; (try clear hb); obtain ⟨hcz19_0, hcz19_1, hfz19_0, hfz19_1⟩ := zy2 BK199.out))
    refine bodyPost_ret (results_ct rfl _ _ gb199 25 #[.int .i64 0, .int .i64 0] (0, 0) _ rfl (by refine zb ?_; refine blk_put (cs := #[.int .i64 0, .int .i64 0]) ?_ 1 _ rfl; refine zb ?_; refine blk_put (cs := #[.int .i64 0, .int .i64 0]) ?_ 0 _ rfl; refine zb ?_; exact BK199.out) Try.underlying25 rfl (by kernel_rfl)) rfl ?_
    exact ⟨zE, zB2 HB.out GE199.out⟩
  ·replace c7 := Bool.eq_false_iff.mpr c7
   subst c7
   rw [if_neg Bool.false_ne_true] at H
   simp only [Option.some.injEq, Prod.mk.injEq] at H
   obtain ⟨rfl, rfl, rfl⟩ := H
   go_enter Try.func6, Try.ntmps6
   go_wp2_with (first | ((with_reducible refine zd 4 ?_); refine zbx (N := 4) (cs := #[.int .i64 0, .int .i64 0]) (t := 25) ?_; intro gb199 hg w20 hbox hb; have BK199 := zQ (hbox); have GW199 := zgz hg HB.out; have GE199 := GW199; replace HB := zbs HB.out hb; clear hb hbox hg) | ((with_reducible refine zgc 25 ?_); refine zgo (some 9) Try.func25 #[.slice A0 l0.length c0] ?_; (with_reducible refine (spec_l13Ok.calls k _ _ l0 true _ (zC HR0.out HB.out) HC0.out A3.out).mono ?_); rintro e w21 ⟨rfl, hb⟩; refine ⟨_, rfl, ?_⟩; replace BK199 := zbl BK199.out hb; replace HB := zbs2 HB.out GE199.out hb; (try clear hb)) | ((with_reducible refine zgc 26 ?_); refine zgo (some 14) Try.func26 #[.slice A0 l0.length c0] ?_; (with_reducible refine (spec_l13Limits.calls k _ _ l0 t201 t202 _ (zC HR0.out HB.out) HC0.out A5.out).mono ?_); rintro e w' ⟨rfl, ⟨nd, rfl⟩⟩; refine ⟨_, rfl, ?_⟩; (try (rw [drewN_self w21]; generalize hq_ : World.drewN w21 _ = w21; have n0_ : Aside0 (w21.heap[gb199]? = some (.cells #[.int .i64 0, .int .i64 0] 25 (0, 0))) := ⟨by rw [← hq_]; exact (zb BK199.out)⟩; have n1_ : Aside0 (Below w.heap.size w w21) := ⟨by rw [← hq_]; exact (zB2 HB.out GE199.out)⟩; clear BK199 HB hq_; have BK199 := n0_; have HB := n1_; clear n0_ n1_)); (try (have hczrw21_gb199_0 := zc0 BK199.out)); (try (have hfzrw21_gb199_0 := zfz BK199.out 0)); (try (have hczrw21_gb199_1 := zc1 BK199.out)); (try (have hfzrw21_gb199_1 := zfz BK199.out 1))) | ((with_reducible refine zgc 27 ?_); refine zgo (some 20) Try.func27 #[.int .i64 a1, .int .i64 t201, .int .i64 t202] ?_; (with_reducible refine (spec_l00In.calls a1 t201 t202 false _ A6.out).mono ?_); rintro e w' ⟨rfl, ⟨nd, rfl⟩⟩; refine ⟨_, rfl, ?_⟩; (try (rw [drewN_self w21]; generalize hq_ : World.drewN w21 _ = w21; have n0_ : Aside0 (w21.heap[gb199]? = some (.cells #[.int .i64 0, .int .i64 0] 25 (0, 0))) := ⟨by rw [← hq_]; exact (zb BK199.out)⟩; have n1_ : Aside0 (Below w.heap.size w w21) := ⟨by rw [← hq_]; exact (zB2 HB.out GE199.out)⟩; clear BK199 HB hq_; have BK199 := n0_; have HB := n1_; clear n0_ n1_)); (try (have hczrw21_gb199_0 := zc0 BK199.out)); (try (have hfzrw21_gb199_0 := zfz BK199.out 0)); (try (have hczrw21_gb199_1 := zc1 BK199.out)); (try (have hfzrw21_gb199_1 := zfz BK199.out 1)); obtain ⟨hcz22_0, hcz22_1, hfz22_0, hfz22_1⟩ := zy2 BK199.out))
   refine bodyPost_ret (results_ct rfl _ _ gb199 25 #[.int .i64 0, .int .i64 0] (0, 0) _ rfl (by refine zb ?_; refine blk_put (cs := #[.int .i64 0, .int .i64 0]) ?_ 1 _ rfl; refine zb ?_; refine blk_put (cs := #[.int .i64 0, .int .i64 0]) ?_ 0 _ rfl; refine zb ?_; exact BK199.out) Try.underlying25 rfl (by kernel_rfl)) rfl ?_
   exact ⟨zE, zB2 HB.out GE199.out⟩
 ·replace c4 := Bool.eq_false_iff.mpr c4
  subst c4
  rw [if_neg Bool.false_ne_true] at H
  simp only [Option.some.injEq, Prod.mk.injEq] at H
  obtain ⟨rfl, rfl, rfl⟩ := H
  go_enter Try.func6, Try.ntmps6
  go_wp2_with (first | ((with_reducible refine zd 4 ?_); refine zbx (N := 4) (cs := #[.int .i64 0, .int .i64 0]) (t := 25) ?_; intro gb199 hg w23 hbox hb; have BK199 := zQ (hbox); have GW199 := zgz hg HB.out; have GE199 := GW199; replace HB := zbs HB.out hb; clear hb hbox hg) | ((with_reducible refine zgc 25 ?_); refine zgo (some 9) Try.func25 #[.slice A0 l0.length c0] ?_; (with_reducible refine (spec_l13Ok.calls k _ _ l0 false _ (zC HR0.out HB.out) HC0.out A3.out).mono ?_); rintro e w24 ⟨rfl, hb⟩; refine ⟨_, rfl, ?_⟩; replace BK199 := zbl BK199.out hb; replace HB := zbs2 HB.out GE199.out hb; (try clear hb); obtain ⟨hcz25_0, hcz25_1, hfz25_0, hfz25_1⟩ := zy2 BK199.out))
  refine bodyPost_ret (results_ct rfl _ _ gb199 25 #[.int .i64 0, .int .i64 0] (0, 0) _ rfl (by refine zb ?_; refine blk_put (cs := #[.int .i64 0, .int .i64 0]) ?_ 1 _ rfl; refine zb ?_; refine blk_put (cs := #[.int .i64 0, .int .i64 0]) ?_ 0 _ rfl; refine zb ?_; exact BK199.out) Try.underlying25 rfl (by kernel_rfl)) rfl ?_
  exact ⟨zE, zB2 HB.out GE199.out⟩

def laws_toSpot.f (a0_0 : Int) (a0_1 : Int) : Option (Int × Int) := some (a0_0, a0_1)
theorem laws_toSpot.calls (a0_0 : Int) (a0_1 : Int) (r1 : Int) (r2 : Int) (w : World) (h : laws_toSpot.f a0_0 a0_1 = some (r1, r2)) :
  Calls Try.prog 30 #[.agg #[.int .i64 a0_0, .int .i64 a0_1]] w fun e w' => e = .returned (.agg #[.int .i64 r1, .int .i64 r2]) ∧ Below w.heap.size w w' := by
 have hu51 := Try.underlying51
 have hu49 := Try.underlying49
 have HB := zQ (Below.refl w.heap.size w)
 have H : (some (a0_0, a0_1)) = some (r1, r2) := h
 clear h
 simp only [Option.some.injEq, Prod.mk.injEq] at H
 obtain ⟨rfl, rfl⟩ := H
 go_enter Try.func30, Try.ntmps30
 go_wp2_with (first | ((with_reducible refine zd 1 ?_); refine zbx (N := 1) (cs := #[.int .i64 a0_0, .int .i64 a0_1]) (t := 51) ?_; intro gb207 hg w2 hbox hb; have BK207 := zQ (hbox); have GW207 := zgz hg HB.out; have GE207 := GW207; replace HB := zbs HB.out hb; clear hb hbox hg) | ((with_reducible refine zd 2 ?_); refine zbx (N := 2) (cs := #[.int .i64 0, .int .i64 0]) (t := 49) ?_; intro gb208 hg w3 hbox hb; have BK208 := zQ (hbox); have GW208 := zgz2 hg HB.out GE207.out; have GE208 := GW208; have NB207_208 := zn1 hg BK207.out; have NB208_207 := zn2 hg BK207.out; replace BK207 := zbl BK207.out hb; replace HB := zbs2 HB.out GE207.out hb; clear hb hbox hg) | ((with_reducible refine zd 3 ?_); refine zbx (N := 3) (cs := #[.int .i64 0, .int .i64 0]) (t := 49) ?_; intro gb209 hg w4 hbox hb; have BK209 := zQ (hbox); have GW209 := zQ ((by rw [hg]; exact (below_size (zB3 HB.out GE207.out GE208.out)) : w.heap.size ≤ gb209)); have GE209 := zQ ((by rw [hg]; exact (below_size (zB3 HB.out GE207.out GE208.out)) : w.heap.size ≤ gb209)); have NB207_209 := zn1 hg BK207.out; have NB209_207 := zn2 hg BK207.out; have NB208_209 := zn1 hg BK208.out; have NB209_208 := zn2 hg BK208.out; replace BK207 := zbl BK207.out hb; replace BK208 := zbl BK208.out hb; replace HB := zQ (below_step (zB3 HB.out GE207.out GE208.out) hb); clear hb hbox hg; have hnb5 := NB207_208.out; have hnc5 := NB208_207.out; have hnb6 := NB207_209.out; have hnc6 := NB209_207.out; obtain ⟨hcz7_0, hcz7_1, hfz7_0, hfz7_1⟩ := zy2 BK207.out; have hnb8 := NB209_208.out; have hnc8 := NB208_209.out; obtain ⟨hcz9_0, hcz9_1, hfz9_0, hfz9_1⟩ := zy2 BK209.out; obtain ⟨hcz10_0, hcz10_1, hfz10_0, hfz10_1⟩ := zy2 BK208.out))
 refine bodyPost_ret (results_cell_row rfl _ _ gb208 49 #[.int .i64 a0_0, .int .i64 a0_1] (0, 0) _ rfl (by refine zb ?_; refine blk_put (cs := #[.int .i64 a0_0, .int .i64 0]) ?_ 1 _ rfl; refine zb ?_; refine blk_put (cs := #[.int .i64 0, .int .i64 0]) ?_ 0 _ rfl; refine zb ?_; refine blk_far ?_ NB208_209.out _; refine zb ?_; refine blk_far ?_ NB208_209.out _; refine zb ?_; exact BK208.out) Try.underlying49 rfl (by kernel_rfl)) rfl ?_
 exact ⟨zE, by repeat (first | (with_reducible first | exact HB.out | apply below_alloc | apply pw_below_drewN | apply below_drew1 | refine below_set ?_ GE207.out | refine below_set ?_ GE208.out | refine below_set ?_ GE209.out) | exact HB.out)⟩

def laws_toSpotS.l0 : Nat → List (S51) → List (S49) → Int → Option ((List (S49)))
 | 0, _, _, _ => none
 | k + 1, x0, x3, x4 => if x4 < (x0.length : Int) then (if 0 ≤ x4 then ((laws_toSpot.f ((rd_T51 x0 x4).f0) ((rd_T51 x0 x4).f1)).bind fun bt214 => (if x4 < (x3.length : Int) then (laws_toSpotS.l0 k x0 (x3.set (x4 : Int).toNat (⟨bt214.1, bt214.2⟩ : S49)) (wrap64 (x4 + 1))) else (none))) else (none)) else (some x3)
def laws_toSpotS.f (k : Nat) (l0 : List (S51)) : Option ((List (S49))) := if 0 ≤ (l0.length : Int) then (if ((l0.length : Int) : Int).toNat ≤ 17592186044416 then (laws_toSpotS.l0 k l0 (List.replicate ((l0.length : Int) : Int).toNat z49) 0) else (none)) else (none)
theorem laws_toSpotS.calls (k : Nat) (A0 : Option Addr) (c0 : Nat) (l0 : List (S51)) (r : List (S49)) (w : World) (hr0 : Kd.C k51 w A0 l0.length l0) (hc0 : l0.length ≤ c0) (h : laws_toSpotS.f k l0 = some r) :
  Calls Try.prog 7 #[.slice A0 l0.length c0] w fun e w' => ∃ v0_ : Value, e = .returned (v0_) ∧ Kd.R k49 49 w' w.heap.size (fun _ => True) v0_ r ∧ Below w.heap.size w w' := by
 have hu51 := Try.underlying51
 have hu49 := Try.underlying49
 have HR0 := zQ hr0
 have HC0 := zQ hc0
 clear hr0 hc0
 have HB := zQ (Below.refl w.heap.size w)
 have H := h; unfold laws_toSpotS.f at H
 clear h
 by_cases c2 : 0 ≤ (l0.length : Int)
 ·rw [if_pos c2] at H
  have c2b0 := eq_true c2; have c2b1 := decide_eq_true c2; clear c2
  by_cases c3 : ((l0.length : Int) : Int).toNat ≤ 17592186044416
  ·rw [if_pos c3] at H
   have c3b0 := eq_true c3; have c3b1 := decide_eq_true c3; clear c3; obtain ⟨y210, hy210⟩ : ∃ y_ : List (S49), y_ = (List.replicate ((l0.length : Int) : Int).toNat z49) := ⟨_, rfl⟩; replace H : (laws_toSpotS.l0 k l0 y210 0) = some r := zh H; have Ny210 := zQ hy210; clear hy210; have H' := zQ H; clear H
   go_enter Try.func7, Try.ntmps7
   go_wp2_with (first | ((with_reducible refine zd 7 ?_); refine Kd.R_make k49 _ 49 rfl (N := 7) rfl 28 _ _ rfl (l0.length : Int) rfl rfl Try.underlying28 (.agg #[(.int .i64 0), (.int .i64 0)]) 16 info49 rfl (by decide) (by omega) z49 (ok := fun _ => True) (okp := fun _ => True) (k49_mkM _ _ _ z49 ) (fun _ hk => hk) trivial (zD) (Nat.le_trans (Nat.mul_le_mul_right _ (zD : (l0.length : Int).toNat ≤ 17592186044416)) (by omega)) (Below.refl _ _) (Nat.le_refl _) ?_; intro v211 w4 ho5 hb hg_ hnew_; clear hg_ hnew_; (first | rw [← Ny210.out] at ho5 | (simp only [Int.reduceToNat] at ho5; rw [← Ny210.out] at ho5)); have HO212 := zQ (Kd.R_lower ho5 (below_size (zB HB.out))); replace HB := zbs HB.out hb; clear hb ho5))
   go_loopg [4] k (fun kq v4 w' => ∃ (x3_1 : List (S49)) (x4_1 : Int), v4 = .int .i64 x4_1 ∧ Aside0 (laws_toSpotS.l0 kq l0 x3_1 x4_1 = some r) ∧ Aside0 (kq ≤ k) ∧ Aside0 (Kd.R k49 49 w' w.heap.size (fun _ => True) v211 x3_1) ∧ Aside0 (Below w.heap.size w w'))
   case atStart => exact ⟨(y210), (0), (zF), H', ⟨Nat.le_refl _⟩, ⟨zR HO212.out⟩, ⟨zB HB.out⟩⟩
   case round =>
    clear H'; (try clear c2); (try clear c2b0); (try clear c2b1); (try clear p2); (try clear c3); (try clear c3b0); (try clear c3b1); obtain ⟨x3_1, x4_1, rfl, HA, HK1, HO_3, HB⟩ := hrel
    cases gk with
    | zero => exact absurd HA.out (by simp [laws_toSpotS.l0])
    | succ k1 =>
     have H := HA.out; clear HA
     simp only [laws_toSpotS.l0] at H
     by_cases c6 : x4_1 < (l0.length : Int)
     ·rw [if_pos c6] at H
      have c6b0 := decide_eq_true c6; clear c6
      by_cases c7 : 0 ≤ x4_1
      ·rw [if_pos c7] at H
       have c7b0 := decide_eq_true c7; clear c7; replace H := zob H; obtain ⟨⟨t214, t215⟩, A8, H⟩ := H
       by_cases c9 : x4_1 < (x3_1.length : Int)
       ·rw [if_pos c9] at H
        have c9b0 := decide_eq_true c9; clear c9; obtain ⟨y216, hy216⟩ : ∃ y_ : List (S49), y_ = (x3_1.set (x4_1 : Int).toNat (⟨t214, t215⟩ : S49)) := ⟨_, rfl⟩; replace H : (laws_toSpotS.l0 k1 l0 y216 (wrap64 (x4_1 + 1))) = some r := zh H; have Ny216 := zQ hy216; clear hy216; have H' := zQ H; clear H; have p213 : 0 ≤ (x4_1 : Int) := zD; have q213 : x4_1 < (l0.length : Int) := zD; obtain ⟨ad213, e213, hx213_0, hx213_1⟩ := at_T51 HR0.out x4_1 p213 q213
        cases e213
        replace hx213_0 := zw HB.out hx213_0; replace hx213_1 := zw HB.out hx213_1; replace p213 := eq_true p213; replace q213 := eq_true q213
        go_wp2_with (first | ((with_reducible refine zgc 30 ?_); refine zgo (some 20) Try.func30 #[.agg #[.int .i64 ((rd_T51 l0 x4_1).f0), .int .i64 ((rd_T51 l0 x4_1).f1)]] ?_; (with_reducible refine (laws_toSpot.calls ((rd_T51 l0 x4_1).f0) ((rd_T51 l0 x4_1).f1) t214 t215 _ A8.out).mono ?_); rintro e w11 ⟨rfl, hb⟩; refine ⟨_, rfl, ?_⟩; replace HO_3 := zRb HO_3.out hb; replace HB := zbs HB.out hb; (try clear hb); have p10 : 0 ≤ (x4_1 : Int) := zD; have q10 : (x4_1 : Int) < ((x3_1.length : Int) : Int) := zD; obtain ⟨go10, co10, eo10, gb10, gl10, cl10, HG10⟩ := Kd.R_form HO_3.out (by omega); (first | cases eo10 | (injection eo10 with ea_ en_ ec_; (first | subst ea_ | (injection ea_ with ea_; subst ea_)); subst ec_; clear en_)); have GB10 := zQ gb10; have GG10 := zQ HG10; clear gb10 gl10 HG10; obtain ⟨ce10, hcl10, hM10, hcc10, hfr10⟩ := Kd.R_elem HO_3.out z49 (x4_1 : Int) p10 q10; obtain rfl := k49_openM hM10; have hx10_0 : w11.cell? ⟨go10, (x4_1 : Int).toNat * 2, none⟩ = some (.int .i64 ((rd_T49 x3_1 x4_1).f0)) := hcc10 0 _ rfl; have hx10_1 : w11.cell? ⟨go10, (x4_1 : Int).toNat * 2 + 1, none⟩ = some (.int .i64 ((rd_T49 x3_1 x4_1).f1)) := hcc10 1 _ rfl; have hf10_0 : w11.frozen? ⟨go10, (x4_1 : Int).toNat * 2, none⟩ = false := hfr10 0; have hf10_1 : w11.frozen? ⟨go10, (x4_1 : Int).toNat * 2 + 1, none⟩ = false := hfr10 1; (try clear hM10); clear hcl10 hcc10 hfr10; replace p10 := eq_true p10; replace q10 := eq_true q10; have HX12 := zQ (show Kd.R k49 49 w11 w.heap.size (fun _ => True) (.slice (some ⟨go10, 0, none⟩) x3_1.length co10) x3_1 from (zR HO_3.out)); obtain ⟨ce12, hcl12, hM12, hcc12, hfr12⟩ := Kd.R_elem HX12.out z49 (x4_1 : Int) (zD) (by have h_ : (x4_1 : Int) < ((x3_1.length : Int) : Int) := zD; first | exact h_ | (have e_ := (Kd.R_reads' HO_3.out).1; omega) | simpa using h_); obtain rfl := k49_openM hM12; have HP12 := Kd.R_seg HX12.out (x4_1 : Int) (zD) (by have h_ : (x4_1 : Int) < ((x3_1.length : Int) : Int) := zD; first | exact h_ | (have e_ := (Kd.R_reads' HO_3.out).1; omega) | simpa using h_) (seg := [.int .i64 t214, .int .i64 t215]) (j := 0) hcl12 hcc12 (show 2 ≤ 2 from by decide) (x' := (⟨t214, t215⟩ : S49)) (k49_mkM _ _ _ (⟨t214, t215⟩ : S49) ) (fun _ hk => hk); have hx12_0 := hcc12 0 _ rfl; (try simp only [show (k49).sz = 2 from rfl, Nat.mul_one, Nat.add_zero] at hx12_0); have hf12_0 := hfr12 0; (try simp only [show (k49).sz = 2 from rfl, Nat.mul_one, Nat.add_zero] at hf12_0); have hx12_1 := hcc12 1 _ rfl; (try simp only [show (k49).sz = 2 from rfl, Nat.mul_one, Nat.add_zero] at hx12_1); have hf12_1 := hfr12 1; (try simp only [show (k49).sz = 2 from rfl, Nat.mul_one, Nat.add_zero] at hf12_1); (try clear hM12); clear hcl12 hcc12 hfr12) | ((with_reducible refine gate_store (t := 49) (p := 21) rfl ?_); refine store_event (t := 49) (p := 21) (v := ?vo_w13) (w1 := ((w11.setCell ⟨go10, (x4_1 : Int).toNat * 2, none⟩ (.int .i64 t214)).setCell ⟨go10, (x4_1 : Int).toNat * 2 + 1, none⟩ (.int .i64 t215))) ?hg ?ho ?hn ?hr ?_; (case ho => rfl); (case hg => rfl); (case hn => rfl); (case hr => first | (go_simp; done) | (go_simp; rfl)); intro w13 hw; have hg : w11.grownBy w13 (some go10) := (by rw [hw]; exact HP12.2); have hp_ : Kd.R k49 49 w13 w.heap.size (fun _ => True) (.slice (some ⟨go10, 0, none⟩) x3_1.length co10) y216 := (by rw [hw, Ny216.out]; exact HP12.1); clear HP12; replace HO_3 := zQ (hp_); replace HB := zQ ((by rw [hw]; exact below_set (below_set (HB.out) GB10.out) GB10.out : Below w.heap.size w w13)); clear hg hw hp_))
        go_roundg k1
        case measure => have := HK1.out; omega
        case rel => exact ⟨(y216), (wrap64 (x4_1 + 1)), (zF), H', ⟨by have := HK1.out; omega⟩, ⟨zR HO_3.out⟩, ⟨zB HB.out⟩⟩
       ·rw [if_neg c9] at H
        exact absurd H (by simp)
      ·rw [if_neg c7] at H
       exact absurd H (by simp)
     ·rw [if_neg c6] at H
      have c6b0 := decide_eq_false c6; clear c6; obtain rfl := Option.some.inj H
      go_wp2
      go_ret
      exact ⟨_, zE, zR HO_3.out, zB HB.out⟩
  ·rw [if_neg c3] at H
   exact absurd H (by simp)
 ·rw [if_neg c2] at H
  exact absurd H (by simp)

def impl_within.f (a0 : Int) (a1 : Int) (a2 : Int) : Option (Bool) := if a0 ≥ a1 then (some (decide (a0 ≤ a2))) else (some false)
theorem impl_within.calls (a0 : Int) (a1 : Int) (a2 : Int) (r : Bool) (w : World) (h : impl_within.f a0 a1 a2 = some r) :
  Calls Try.prog 33 #[.int .i64 a0, .int .i64 a1, .int .i64 a2] w fun e w' => e = .returned (.bool r) ∧ Drawn0 w w' := by
 have H := h; unfold impl_within.f at H
 clear h
 by_cases c4 : a0 ≥ a1
 ·rw [if_pos c4] at H
  have c4b0 := decide_eq_true c4; clear c4; obtain rfl := Option.some.inj H
  go_enter Try.func33, Try.ntmps33
  go_wp2
  go_ret
  exact ⟨zF, by repeat (first | exact Drawn0.refl _ | apply Drawn0.step)⟩
 ·rw [if_neg c4] at H
  have c4b0 := decide_eq_false c4; clear c4; obtain rfl := Option.some.inj H
  go_enter Try.func33, Try.ntmps33
  go_wp2
  go_ret
  exact ⟨zF, by repeat (first | exact Drawn0.refl _ | apply Drawn0.step)⟩

def impl_turnAt.f (a0_0 : Int) (a0_1 : Int) (a1_0 : Int) (a1_1 : Int) (a2_0 : Int) (a2_1 : Int) : Option (Int) := some (wrap64 ((wrap64 ((wrap64 (a1_0 - a0_0)) * (wrap64 (a2_1 - a1_1)))) - (wrap64 ((wrap64 (a1_1 - a0_1)) * (wrap64 (a2_0 - a1_0))))))
theorem impl_turnAt.calls (a0_0 : Int) (a0_1 : Int) (a1_0 : Int) (a1_1 : Int) (a2_0 : Int) (a2_1 : Int) (r : Int) (w : World) (h : impl_turnAt.f a0_0 a0_1 a1_0 a1_1 a2_0 a2_1 = some r) :
  Calls Try.prog 56 #[.agg #[.int .i64 a0_0, .int .i64 a0_1], .agg #[.int .i64 a1_0, .int .i64 a1_1], .agg #[.int .i64 a2_0, .int .i64 a2_1]] w fun e w' => e = .returned (.int .i64 r) ∧ Below w.heap.size w w' := by
 have hu49 := Try.underlying49
 have HB := zQ (Below.refl w.heap.size w)
 have H := h; unfold impl_turnAt.f at H
 clear h
 obtain rfl := Option.some.inj H
 go_enter Try.func56, Try.ntmps56
 go_wp2_with (first | ((with_reducible refine zd 3 ?_); refine zbx (N := 3) (cs := #[.int .i64 a0_0, .int .i64 a0_1]) (t := 49) ?_; intro gb217 hg w4 hbox hb; have BK217 := zQ (hbox); have GW217 := zgz hg HB.out; have GE217 := GW217; replace HB := zbs HB.out hb; clear hb hbox hg) | ((with_reducible refine zd 4 ?_); refine zbx (N := 4) (cs := #[.int .i64 a1_0, .int .i64 a1_1]) (t := 49) ?_; intro gb218 hg w5 hbox hb; have BK218 := zQ (hbox); have GW218 := zgz2 hg HB.out GE217.out; have GE218 := GW218; have NB217_218 := zn1 hg BK217.out; have NB218_217 := zn2 hg BK217.out; replace BK217 := zbl BK217.out hb; replace HB := zbs2 HB.out GE217.out hb; clear hb hbox hg) | ((with_reducible refine zd 5 ?_); refine zbx (N := 5) (cs := #[.int .i64 a2_0, .int .i64 a2_1]) (t := 49) ?_; intro gb219 hg w6 hbox hb; have BK219 := zQ (hbox); have GW219 := zQ ((by rw [hg]; exact (below_size (zB3 HB.out GE217.out GE218.out)) : w.heap.size ≤ gb219)); have GE219 := zQ ((by rw [hg]; exact (below_size (zB3 HB.out GE217.out GE218.out)) : w.heap.size ≤ gb219)); have NB217_219 := zn1 hg BK217.out; have NB219_217 := zn2 hg BK217.out; have NB218_219 := zn1 hg BK218.out; have NB219_218 := zn2 hg BK218.out; replace BK217 := zbl BK217.out hb; replace BK218 := zbl BK218.out hb; replace HB := zQ (below_step (zB3 HB.out GE217.out GE218.out) hb); clear hb hbox hg; have hnb7 := NB218_217.out; have hnc7 := NB217_218.out; have hnb8 := NB218_219.out; have hnc8 := NB219_218.out; obtain ⟨hcz9_0, hcz9_1, hfz9_0, hfz9_1⟩ := zy2 BK218.out; have hnb10 := NB217_219.out; have hnc10 := NB219_217.out; obtain ⟨hcz11_0, hcz11_1, hfz11_0, hfz11_1⟩ := zy2 BK217.out; obtain ⟨hcz12_0, hcz12_1, hfz12_0, hfz12_1⟩ := zy2 BK219.out))
 go_ret
 exact ⟨zE, by repeat (first | (with_reducible first | exact HB.out | apply below_alloc | apply pw_below_drewN | apply below_drew1 | refine below_set ?_ GE217.out | refine below_set ?_ GE218.out | refine below_set ?_ GE219.out) | exact HB.out)⟩

def impl_sign.f (a0 : Int) : Option (Int) := if a0 > 0 then (some 1) else (if a0 < 0 then (some (-1)) else (some 0))
theorem impl_sign.calls (a0 : Int) (r : Int) (w : World) (h : impl_sign.f a0 = some r) :
  Calls Try.prog 70 #[.int .i64 a0] w fun e w' => e = .returned (.int .i64 r) ∧ Drawn0 w w' := by
 have H := h; unfold impl_sign.f at H
 clear h
 by_cases c2 : a0 > 0
 ·rw [if_pos c2] at H
  have c2b0 := decide_eq_true c2; clear c2; obtain rfl := Option.some.inj H
  go_enter Try.func70, Try.ntmps70
  go_wp2
  go_ret
  exact ⟨zF, by repeat (first | exact Drawn0.refl _ | apply Drawn0.step)⟩
 ·rw [if_neg c2] at H
  have c2b0 := decide_eq_false c2; clear c2
  by_cases c3 : a0 < 0
  ·rw [if_pos c3] at H
   have c3b0 := decide_eq_true c3; clear c3; obtain rfl := Option.some.inj H
   go_enter Try.func70, Try.ntmps70
   go_wp2
   go_ret
   exact ⟨zF, by repeat (first | exact Drawn0.refl _ | apply Drawn0.step)⟩
  ·rw [if_neg c3] at H
   have c3b0 := decide_eq_false c3; clear c3; obtain rfl := Option.some.inj H
   go_enter Try.func70, Try.ntmps70
   go_wp2
   go_ret
   exact ⟨zF, by repeat (first | exact Drawn0.refl _ | apply Drawn0.step)⟩

def impl_between.f (a0_0 : Int) (a0_1 : Int) (a1_0 : Int) (a1_1 : Int) (a2_0 : Int) (a2_1 : Int) : Option (Bool) := (impl_within.f a2_0 (mn a0_0 a1_0) (mx a0_0 a1_0)).bind fun t223 => (if t223 = true then ((impl_within.f a2_1 (mn a0_1 a1_1) (mx a0_1 a1_1)).bind fun t224 => (some t224)) else (some false))
theorem impl_between.calls (a0_0 : Int) (a0_1 : Int) (a1_0 : Int) (a1_1 : Int) (a2_0 : Int) (a2_1 : Int) (r : Bool) (w : World) (h : impl_between.f a0_0 a0_1 a1_0 a1_1 a2_0 a2_1 = some r) :
  Calls Try.prog 71 #[.agg #[.int .i64 a0_0, .int .i64 a0_1], .agg #[.int .i64 a1_0, .int .i64 a1_1], .agg #[.int .i64 a2_0, .int .i64 a2_1]] w fun e w' => e = .returned (.bool r) ∧ Below w.heap.size w w' := by
 have hu49 := Try.underlying49
 have HB := zQ (Below.refl w.heap.size w)
 have H := h; unfold impl_between.f at H
 clear h
 obtain ⟨ji4, hji4⟩ : ∃ j_ : Int, (mn a0_0 a1_0) = j_ := ⟨_, rfl⟩
 replace H : ((impl_within.f a2_0 (ji4) (mx a0_0 a1_0)).bind fun t223 => (if t223 = true then ((impl_within.f a2_1 (mn a0_1 a1_1) (mx a0_1 a1_1)).bind fun t224 => (some t224)) else (some false))) = some r := by first | (rw [hji4] at H; exact H) | (simp only [hji4] at H ⊢; exact H)
 have hji4_ : (if a1_0 < a0_0 then a1_0 else a0_0) = ji4 := hji4
 obtain ⟨ji5, hji5⟩ : ∃ j_ : Int, (mx a0_0 a1_0) = j_ := ⟨_, rfl⟩
 replace H : ((impl_within.f a2_0 (ji4) (ji5)).bind fun t223 => (if t223 = true then ((impl_within.f a2_1 (mn a0_1 a1_1) (mx a0_1 a1_1)).bind fun t224 => (some t224)) else (some false))) = some r := by first | (rw [hji5] at H; exact H) | (simp only [hji5] at H ⊢; exact H)
 have hji5_ : (if a0_0 < a1_0 then a1_0 else a0_0) = ji5 := hji5
 replace H := zob H; obtain ⟨t223, A6, H⟩ := H
 by_cases c7 : t223 = true
 ·subst c7
  rw [if_pos rfl] at H; obtain ⟨ji8, hji8⟩ : ∃ j_ : Int, (mn a0_1 a1_1) = j_ := ⟨_, rfl⟩
  replace H : ((impl_within.f a2_1 (ji8) (mx a0_1 a1_1)).bind fun t224 => (some t224)) = some r := by first | (rw [hji8] at H; exact H) | (simp only [hji8] at H ⊢; exact H)
  (try rw [hji8] at A6)
  have hji8_ : (if a1_1 < a0_1 then a1_1 else a0_1) = ji8 := hji8; obtain ⟨ji9, hji9⟩ : ∃ j_ : Int, (mx a0_1 a1_1) = j_ := ⟨_, rfl⟩
  replace H : ((impl_within.f a2_1 (ji8) (ji9)).bind fun t224 => (some t224)) = some r := by first | (rw [hji9] at H; exact H) | (simp only [hji9] at H ⊢; exact H)
  (try rw [hji9] at A6)
  have hji9_ : (if a0_1 < a1_1 then a1_1 else a0_1) = ji9 := hji9; replace H := zob H; obtain ⟨t224, A10, H⟩ := H; obtain rfl := Option.some.inj H
  go_enter Try.func71, Try.ntmps71
  go_wp2_with (first | ((with_reducible refine zd 3 ?_); (try (refine gate_guard (by rfl) ?_; dsimp only)); refine zbx (N := 3) (cs := #[.int .i64 a0_0, .int .i64 a0_1]) (t := 49) ?_; intro gb220 hg w11 hbox hb; have BK220 := zQ (hbox); have GW220 := zgz hg HB.out; have GE220 := GW220; replace HB := zbs HB.out hb; clear hb hbox hg) | ((with_reducible refine zd 4 ?_); (try (refine gate_guard (by rfl) ?_; dsimp only)); refine zbx (N := 4) (cs := #[.int .i64 a1_0, .int .i64 a1_1]) (t := 49) ?_; intro gb221 hg w12 hbox hb; have BK221 := zQ (hbox); have GW221 := zgz2 hg HB.out GE220.out; have GE221 := GW221; have NB220_221 := zn1 hg BK220.out; have NB221_220 := zn2 hg BK220.out; replace BK220 := zbl BK220.out hb; replace HB := zbs2 HB.out GE220.out hb; clear hb hbox hg) | ((with_reducible refine zd 5 ?_); (try (refine gate_guard (by rfl) ?_; dsimp only)); refine zbx (N := 5) (cs := #[.int .i64 a2_0, .int .i64 a2_1]) (t := 49) ?_; intro gb222 hg w13 hbox hb; have BK222 := zQ (hbox); have GW222 := zQ ((by rw [hg]; exact (below_size (zB3 HB.out GE220.out GE221.out)) : w.heap.size ≤ gb222)); have GE222 := zQ ((by rw [hg]; exact (below_size (zB3 HB.out GE220.out GE221.out)) : w.heap.size ≤ gb222)); have NB220_222 := zn1 hg BK220.out; have NB222_220 := zn2 hg BK220.out; have NB221_222 := zn1 hg BK221.out; have NB222_221 := zn2 hg BK221.out; replace BK220 := zbl BK220.out hb; replace BK221 := zbl BK221.out hb; replace HB := zQ (below_step (zB3 HB.out GE220.out GE221.out) hb); clear hb hbox hg; have hnb14 := NB222_220.out; have hnc14 := NB220_222.out; have hnb15 := NB222_221.out; have hnc15 := NB221_222.out; obtain ⟨hcz16_0, hcz16_1, hfz16_0, hfz16_1⟩ := zy2 BK222.out; have hnb17 := NB220_221.out; have hnc17 := NB221_220.out; obtain ⟨hcz18_0, hcz18_1, hfz18_0, hfz18_1⟩ := zy2 BK220.out; obtain ⟨hcz19_0, hcz19_1, hfz19_0, hfz19_1⟩ := zy2 BK221.out) | ((with_reducible refine zgc 33 ?_); refine goesL_ (some 19) rfl rfl Try.func33 (by kernel_rfl) rfl #[.int .i64 a2_0, .int .i64 ji4, .int .i64 ji5] rfl (by (try simp only [List.map_toArray, List.map_cons, List.map_nil]); first | done | (simp only [hji4, hji5]; rfl) | rfl | (simp only [List.length_drop, List.length_take]; rfl)) ?_; (with_reducible refine (impl_within.calls a2_0 ji4 ji5 true _ A6.out).mono ?_); rintro e w' ⟨rfl, ⟨nd, rfl⟩⟩; refine ⟨_, rfl, ?_⟩) | (go_at_call 33; (with_reducible refine (impl_within.calls a2_1 ji8 ji9 t224 _ A10.out).mono ?_); rintro e w' ⟨rfl, ⟨nd, rfl⟩⟩))
  go_ret
  exact ⟨by first | rfl | (simp [errW_none, errW_some] <;> rfl) | (simp only [← hji4, ← hji5, ← hji8, ← hji9]; first | rfl | (simp [errW_none, errW_some] <;> rfl)) | (simp [*, errW_none, errW_some] <;> rfl), by repeat (first | (with_reducible first | exact HB.out | apply below_alloc | apply pw_below_drewN | apply below_drew1 | refine below_set ?_ GE220.out | refine below_set ?_ GE221.out | refine below_set ?_ GE222.out) | exact HB.out)⟩
 ·replace c7 := Bool.eq_false_iff.mpr c7
  subst c7
  rw [if_neg Bool.false_ne_true] at H; obtain rfl := Option.some.inj H
  go_enter Try.func71, Try.ntmps71
  go_wp2_with (first | ((with_reducible refine zd 3 ?_); (try (refine gate_guard (by rfl) ?_; dsimp only)); refine zbx (N := 3) (cs := #[.int .i64 a0_0, .int .i64 a0_1]) (t := 49) ?_; intro gb220 hg w20 hbox hb; have BK220 := zQ (hbox); have GW220 := zgz hg HB.out; have GE220 := GW220; replace HB := zbs HB.out hb; clear hb hbox hg) | ((with_reducible refine zd 4 ?_); (try (refine gate_guard (by rfl) ?_; dsimp only)); refine zbx (N := 4) (cs := #[.int .i64 a1_0, .int .i64 a1_1]) (t := 49) ?_; intro gb221 hg w21 hbox hb; have BK221 := zQ (hbox); have GW221 := zgz2 hg HB.out GE220.out; have GE221 := GW221; have NB220_221 := zn1 hg BK220.out; have NB221_220 := zn2 hg BK220.out; replace BK220 := zbl BK220.out hb; replace HB := zbs2 HB.out GE220.out hb; clear hb hbox hg) | ((with_reducible refine zd 5 ?_); (try (refine gate_guard (by rfl) ?_; dsimp only)); refine zbx (N := 5) (cs := #[.int .i64 a2_0, .int .i64 a2_1]) (t := 49) ?_; intro gb222 hg w22 hbox hb; have BK222 := zQ (hbox); have GW222 := zQ ((by rw [hg]; exact (below_size (zB3 HB.out GE220.out GE221.out)) : w.heap.size ≤ gb222)); have GE222 := zQ ((by rw [hg]; exact (below_size (zB3 HB.out GE220.out GE221.out)) : w.heap.size ≤ gb222)); have NB220_222 := zn1 hg BK220.out; have NB222_220 := zn2 hg BK220.out; have NB221_222 := zn1 hg BK221.out; have NB222_221 := zn2 hg BK221.out; replace BK220 := zbl BK220.out hb; replace BK221 := zbl BK221.out hb; replace HB := zQ (below_step (zB3 HB.out GE220.out GE221.out) hb); clear hb hbox hg; have hnb23 := NB222_220.out; have hnc23 := NB220_222.out; have hnb24 := NB222_221.out; have hnc24 := NB221_222.out; obtain ⟨hcz25_0, hcz25_1, hfz25_0, hfz25_1⟩ := zy2 BK222.out; have hnb26 := NB220_221.out; have hnc26 := NB221_220.out; obtain ⟨hcz27_0, hcz27_1, hfz27_0, hfz27_1⟩ := zy2 BK220.out; obtain ⟨hcz28_0, hcz28_1, hfz28_0, hfz28_1⟩ := zy2 BK221.out) | ((with_reducible refine zgc 33 ?_); refine goesL_ (some 19) rfl rfl Try.func33 (by kernel_rfl) rfl #[.int .i64 a2_0, .int .i64 ji4, .int .i64 ji5] rfl (by (try simp only [List.map_toArray, List.map_cons, List.map_nil]); first | done | (simp only [hji4, hji5]; rfl) | rfl | (simp only [List.length_drop, List.length_take]; rfl)) ?_; (with_reducible refine (impl_within.calls a2_0 ji4 ji5 false _ A6.out).mono ?_); rintro e w' ⟨rfl, ⟨nd, rfl⟩⟩; refine ⟨_, rfl, ?_⟩))
  go_ret
  exact ⟨by first | rfl | (simp [errW_none, errW_some] <;> rfl) | (simp only [← hji4, ← hji5]; first | rfl | (simp [errW_none, errW_some] <;> rfl)) | (simp [*, errW_none, errW_some] <;> rfl), by repeat (first | (with_reducible first | exact HB.out | apply below_alloc | apply pw_below_drewN | apply below_drew1 | refine below_set ?_ GE220.out | refine below_set ?_ GE221.out | refine below_set ?_ GE222.out) | exact HB.out)⟩

end
end Go.Proofs.Ytcomncokgkeniaa.PSailw

