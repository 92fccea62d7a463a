/- The walks of the functions that the law reaches: each computes what its Lean function says. No condition beyond each contract's own. -/
import Derived.Test.YtimjblgepbhoaaaHFnExactCanHoldx0
import Derived.Test.YtimjblgepbhoaaaHFnExactCanHoldx3
namespace Go.Proofs.Ytimjblgepbhoaaa.PFnExactCanHold
open Go.RowKit Go.Proofs.YtimjblgepbhoaaaW.PrintWords Go.Proofs.YtimjblgepbhoaaaW.PrintLast Go.Proofs.YtimjblgepbhoaaaW.PrintMore
attribute [local go_sem] max2_int min2_int max_two min_two max_three min_three max_four min_four   -- for this text's walks alone
set_option linter.unusedVariables false
set_option linter.unusedSimpArgs false

/-! ### impl_fraction: function 136 -/
def impl_fraction.f (k : Nat) (a0 : Int) (a1 : Int) : Option (Int × Int) := if a1 < 0 then ((impl_gcd.f k (wrap64 (-a0)) (wrap64 (-a1))).bind fun t121 => (if t121 = 0 then (none) else (some (wrap64 (Int.tdiv (wrap64 (-a0)) t121), wrap64 (Int.tdiv (wrap64 (-a1)) t121))))) else ((impl_gcd.f k a0 a1).bind fun t122 => (if t122 = 0 then (none) else (some (wrap64 (Int.tdiv a0 t122), wrap64 (Int.tdiv a1 t122)))))
theorem impl_fraction.mono : ∀ a0 a1 k, LeO (impl_fraction.f k a0 a1) (impl_fraction.f (k + 1) a0 a1) := by
 intro a0 a1 k
 unfold impl_fraction.f
 repeat' first
   | (with_reducible exact impl_gcd.mono _ _ _)
   | (with_reducible exact LeO.refl _)
   | (with_reducible exact LeO.none _)
   | (with_reducible refine LeO.ite ?_ ?_)
   | (with_reducible refine LeO.bind ?_ (fun _ => ?_))
   | exact impl_gcd.mono _ _ _
   | exact LeO.none _
   | refine LeO.ite ?_ ?_
   | refine LeO.bind ?_ (fun _ => ?_)
def impl_fraction.T4 : Bool × List (List Nat × List Nat) := (true, [([], []), ([], []), ([0, 1], [0, 1]), ([], []), ([], []), ([3, 4], [3, 4]), ([2, 5], [2, 5]), ([6, 0, 1, 2, 3, 4, 5, 6], [6])])
def impl_fraction.B4 : List Nat := [0, 0, 3, 0, 0, 24, 63, 127]
theorem impl_fraction.tab4 : rtab .any (opsOf Try.f136 4) = impl_fraction.T4 := by kernel_rfl
theorem impl_fraction.bits4 : waitsOk impl_fraction.T4.2 impl_fraction.B4 = true := by kernel_rfl
set_option maxHeartbeats 8000000 in
set_option maxRecDepth 100000 in
theorem impl_fraction.calls (k : Nat) (a0 : Int) (a1 : Int) (r1 : Int) (r2 : Int) (w : World) (h : impl_fraction.f k a0 a1 = some (r1, r2)) :
  Calls Try.prog 136 #[.int .i64 a0, .int .i64 a1] w fun e w' => e = .returned (.agg #[.int .i64 r1, .int .i64 r2]) ∧ Below w.heap.size w w' := by
 have hu147 := Try.underlying147
 have HB := Aside0.mk (Below.refl w.heap.size w)
 have H : (if a1 < 0 then ((impl_gcd.f k (wrap64 (-a0)) (wrap64 (-a1))).bind fun t121 => (if t121 = 0 then (none) else (some (wrap64 (Int.tdiv (wrap64 (-a0)) t121), wrap64 (Int.tdiv (wrap64 (-a1)) t121))))) else ((impl_gcd.f k a0 a1).bind fun t122 => (if t122 = 0 then (none) else (some (wrap64 (Int.tdiv a0 t122), wrap64 (Int.tdiv a1 t122)))))) = some (r1, r2) := h
 clear h
 by_cases c3 : a1 < 0
 ·rw [if_pos c3] at H
  have c3b0 : decide (a1 < 0) = true := decide_eq_true c3; clear c3; replace H := Option.bind_eq_some_iff.mp H; obtain ⟨t121, A40, H⟩ := H; replace H : (if t121 = 0 then (none) else (some (wrap64 (Int.tdiv (wrap64 (-a0)) t121), wrap64 (Int.tdiv (wrap64 (-a1)) t121)))) = some (r1, r2) := H; have A4 := Aside0.mk A40; clear A40
  by_cases c5 : t121 = 0
  ·rw [if_pos c5] at H
   exact absurd H (by simp)
  ·rw [if_neg c5] at H
   have c5b0 : (t121 == 0) = false := beq_eq_false_iff_ne.mpr c5; have c5b1 : (t121 != 0) = true := bne_iff_ne.mpr c5
   simp only [Option.some.injEq, Prod.mk.injEq] at H
   obtain ⟨rfl, rfl⟩ := H
   go_enter Try.func136, Try.ntmps136
   try go_wp2_with (first | ((with_reducible refine gate_dst (N := 4) rfl ?_); refine zbx (N := 4) (cs := #[.int .i64 0, .int .i64 0]) (t := 147) ?_; intro gb120 hg w6 hbox hb; have n0_ := Aside0.mk (below_step (zB HB.out) hb); have n1_ := Aside0.mk (hbox); have n2_ := Aside0.mk ((by rw [hg]; exact (below_size (zB HB.out)) : w.heap.size ≤ gb120)); have n3_ := Aside0.mk ((by rw [hg]; exact (below_size (zB HB.out)) : w.heap.size ≤ gb120)); clear HB; have HB := n0_; have BK120 := n1_; have GW120 := n2_; have GE120 := n3_; clear n0_ n1_ n2_ n3_; clear hb hbox hg) | ((with_reducible refine gate_callee (f := 123) rfl ?_); refine goesL_ (some 14) rfl rfl Try.func123 (by kernel_rfl) rfl #[.int .i64 (wrap64 (-a0)), .int .i64 (wrap64 (-a1))] rfl zM ?_; (with_reducible refine (impl_gcd.calls k (wrap64 (-a0)) (wrap64 (-a1)) t121 _ A4.out).mono ?_); rintro e w' ⟨rfl, ⟨nd, rfl⟩⟩; refine ⟨_, rfl, ?_⟩; (try (rw [drewN_self w6]; generalize hq_ : World.drewN w6 _ = w6; have n0_ : Aside0 (w6.heap[gb120]? = some (.cells #[.int .i64 0, .int .i64 0] 147 (0, 0))) := ⟨by rw [← hq_]; exact (zb BK120.out)⟩; have n1_ : Aside0 (Below w.heap.size w w6) := ⟨by rw [← hq_]; exact (zB2 HB.out GE120.out)⟩; clear BK120 HB hq_; have BK120 := n0_; have HB := n1_; clear n0_ n1_)); (try (have hczrw6_gb120_0 : w6.cell? ⟨gb120, 0, none⟩ = some (.int .i64 0) := (blk_cell BK120.out 0).trans rfl)); (try (have hfzrw6_gb120_0 := blk_frozen BK120.out 0)); (try (have hczrw6_gb120_1 : w6.cell? ⟨gb120, 1, none⟩ = some (.int .i64 0) := (blk_cell BK120.out 1).trans rfl)); (try (have hfzrw6_gb120_1 := blk_frozen BK120.out 1))))
   have n0_ := Aside0.mk (blk_drew BK120.out); have n1_ := Aside0.mk (below_drew1 HB.out); clear BK120; clear HB; have BK120 := n0_; have HB := n1_; clear n0_ n1_
   refine zs (fun w' => True) [] 8 trivial (fun hHeld => ?_); refine with_tabW impl_fraction.tab4 impl_fraction.bits4 (fun HT_ HW_ => ?_)
   generalize w6.drew = w7 at BK120 HB hHeld ⊢
   refine zp 0 15 ?_
   refine zp 1 16 ?_
   refine zp 2 17 ?_
   refine zp 3 18 ?_
   refine zp 4 19 ?_
   refine zp 5 20 ?_
   refine zp 6 21 ?_
   refine zo 7 none (fun K hK => ?_)
   have hs8 : w7.cell? ⟨gb120, 0, none⟩ = some (.int .i64 0) := (blk_cell BK120.out 0).trans rfl; have hfs8 := blk_frozen BK120.out 0; have hs9 : w7.cell? ⟨gb120, 1, none⟩ = some (.int .i64 0) := (blk_cell BK120.out 1).trans rfl; have hfs9 := blk_frozen BK120.out 1
   refine skip_ (w1 := ?_) (by rfl) rfl ?_ ?_
   rotate_left
   ·go_simp
    rfl
   refine hK.out _ _ trivial (fun hHeld => ?_)
   clear hK K
   refine done_ (done_of HT_.out (by kernel_rfl)) ?_
   try go_wp2
   refine bodyPost_ret (results_cell_row rfl _ _ gb120 147 #[.int .i64 (wrap64 (Int.tdiv (wrap64 (-a0)) t121)), .int .i64 (wrap64 (Int.tdiv (wrap64 (-a1)) t121))] (0, 0) _ rfl (by refine zb ?_; refine blk_put (cs := #[.int .i64 (wrap64 (Int.tdiv (wrap64 (-a0)) t121)), .int .i64 0]) ?_ 1 _ rfl; refine zb ?_; refine blk_put (cs := #[.int .i64 0, .int .i64 0]) ?_ 0 _ rfl; refine zb ?_; exact BK120.out) Try.underlying147 rfl (by kernel_rfl)) rfl ?_
   exact ⟨zE, zB2 HB.out GE120.out⟩
 ·rw [if_neg c3] at H
  have c3b0 : decide (a1 < 0) = false := decide_eq_false c3; clear c3; replace H := Option.bind_eq_some_iff.mp H; obtain ⟨t122, A100, H⟩ := H; replace H : (if t122 = 0 then (none) else (some (wrap64 (Int.tdiv a0 t122), wrap64 (Int.tdiv a1 t122)))) = some (r1, r2) := H; have A10 := Aside0.mk A100; clear A100
  by_cases c11 : t122 = 0
  ·rw [if_pos c11] at H
   exact absurd H (by simp)
  ·rw [if_neg c11] at H
   have c11b0 : (t122 == 0) = false := beq_eq_false_iff_ne.mpr c11; have c11b1 : (t122 != 0) = true := bne_iff_ne.mpr c11
   simp only [Option.some.injEq, Prod.mk.injEq] at H
   obtain ⟨rfl, rfl⟩ := H
   go_enter Try.func136, Try.ntmps136
   try go_wp2_with (first | ((with_reducible refine gate_dst (N := 4) rfl ?_); refine zbx (N := 4) (cs := #[.int .i64 0, .int .i64 0]) (t := 147) ?_; intro gb120 hg w12 hbox hb; have n0_ := Aside0.mk (below_step (zB HB.out) hb); have n1_ := Aside0.mk (hbox); have n2_ := Aside0.mk ((by rw [hg]; exact (below_size (zB HB.out)) : w.heap.size ≤ gb120)); have n3_ := Aside0.mk ((by rw [hg]; exact (below_size (zB HB.out)) : w.heap.size ≤ gb120)); clear HB; have HB := n0_; have BK120 := n1_; have GW120 := n2_; have GE120 := n3_; clear n0_ n1_ n2_ n3_; clear hb hbox hg) | ((with_reducible refine gate_callee (f := 123) rfl ?_); refine goesL_ (some 14) rfl rfl Try.func123 (by kernel_rfl) rfl #[.int .i64 a0, .int .i64 a1] rfl zM ?_; (with_reducible refine (impl_gcd.calls k a0 a1 t122 _ A10.out).mono ?_); rintro e w' ⟨rfl, ⟨nd, rfl⟩⟩; refine ⟨_, rfl, ?_⟩; (try (rw [drewN_self w12]; generalize hq_ : World.drewN w12 _ = w12; have n0_ : Aside0 (w12.heap[gb120]? = some (.cells #[.int .i64 0, .int .i64 0] 147 (0, 0))) := ⟨by rw [← hq_]; exact (zb BK120.out)⟩; have n1_ : Aside0 (Below w.heap.size w w12) := ⟨by rw [← hq_]; exact (zB2 HB.out GE120.out)⟩; clear BK120 HB hq_; have BK120 := n0_; have HB := n1_; clear n0_ n1_)); (try (have hczrw12_gb120_0 : w12.cell? ⟨gb120, 0, none⟩ = some (.int .i64 0) := (blk_cell BK120.out 0).trans rfl)); (try (have hfzrw12_gb120_0 := blk_frozen BK120.out 0)); (try (have hczrw12_gb120_1 : w12.cell? ⟨gb120, 1, none⟩ = some (.int .i64 0) := (blk_cell BK120.out 1).trans rfl)); (try (have hfzrw12_gb120_1 := blk_frozen BK120.out 1))))
   have n0_ := Aside0.mk (blk_drew BK120.out); have n1_ := Aside0.mk (below_drew1 HB.out); clear BK120; clear HB; have BK120 := n0_; have HB := n1_; clear n0_ n1_
   refine zs (fun w' => True) [] 8 trivial (fun hHeld => ?_); refine with_tabW impl_fraction.tab4 impl_fraction.bits4 (fun HT_ HW_ => ?_)
   generalize w12.drew = w13 at BK120 HB hHeld ⊢
   refine zp 0 15 ?_
   refine zp 1 16 ?_
   refine zp 2 17 ?_
   refine zp 3 18 ?_
   refine zp 4 19 ?_
   refine zp 5 20 ?_
   refine zp 6 21 ?_
   refine zo 7 none (fun K hK => ?_)
   have hs14 : w13.cell? ⟨gb120, 0, none⟩ = some (.int .i64 0) := (blk_cell BK120.out 0).trans rfl; have hfs14 := blk_frozen BK120.out 0; have hs15 : w13.cell? ⟨gb120, 1, none⟩ = some (.int .i64 0) := (blk_cell BK120.out 1).trans rfl; have hfs15 := blk_frozen BK120.out 1
   refine skip_ (w1 := ?_) (by rfl) rfl ?_ ?_
   rotate_left
   ·go_simp
    rfl
   refine hK.out _ _ trivial (fun hHeld => ?_)
   clear hK K
   refine done_ (done_of HT_.out (by kernel_rfl)) ?_
   try go_wp2
   refine bodyPost_ret (results_cell_row rfl _ _ gb120 147 #[.int .i64 (wrap64 (Int.tdiv a0 t122)), .int .i64 (wrap64 (Int.tdiv a1 t122))] (0, 0) _ rfl (by refine zb ?_; refine blk_put (cs := #[.int .i64 (wrap64 (Int.tdiv a0 t122)), .int .i64 0]) ?_ 1 _ rfl; refine zb ?_; refine blk_put (cs := #[.int .i64 0, .int .i64 0]) ?_ 0 _ rfl; refine zb ?_; exact BK120.out) Try.underlying147 rfl (by kernel_rfl)) rfl ?_
   exact ⟨zE, zB2 HB.out GE120.out⟩

end Go.Proofs.Ytimjblgepbhoaaa.PFnExactCanHold
