/- The walks of the functions that the law reaches: each computes what its Lean function says. No condition beyond each contract's own. -/
import Derived.Test.YtimjblgepbhoaaaHFnExactCanHoldx0
import Derived.Test.YtimjblgepbhoaaaHFnExactCanHoldx10
namespace Go.Proofs.Ytimjblgepbhoaaa.PFnExactCanHold
open Go.RowKit Go.Proofs.YtimjblgepbhoaaaW.PrintWords Go.Proofs.YtimjblgepbhoaaaW.PrintLast Go.Proofs.YtimjblgepbhoaaaW.PrintMore
attribute [local go_sem] max2_int min2_int max_two min_two max_three min_three max_four min_four   -- for this text's walks alone
set_option linter.unusedVariables false
set_option linter.unusedSimpArgs false

/-! ### spec_l09Lowest: function 129 -/
mutual
def spec_l09Lowest.l0 : Nat → List Int → Int → Int → Int → Option (List Int × Int)
 | 0, _, _, _, _ => none
 | k + 1, x0, x1, x5, x6 => if x6 < (x0.length : Int) then (if 0 ≤ x6 then ((spec_l00Size.f (rd x0 x6)).bind fun t192 => ((spec_l00Gcd.f k x5 t192).bind fun t193 => (spec_l09Lowest.l0 k x0 x1 t193 (wrap64 (x6 + 1))))) else (none)) else (if x1 < 0 then (spec_l09Lowest.j1 k x0 x1 (wrap64 (-x5))) else (spec_l09Lowest.j1 k x0 x1 x5))
def spec_l09Lowest.j1 : Nat → List Int → Int → Int → Option (List Int × Int)
 | 0, _, _, _ => none
 | k + 1, x0, x1, x5 => if x5 = 0 then (none) else (spec_l09Lowest.l1 k x0 x5 0 (([] : List Int)) (wrap64 (Int.tdiv x1 x5)))
def spec_l09Lowest.l1 : Nat → List Int → Int → Int → List Int → Int → Option (List Int × Int)
 | 0, _, _, _, _, _ => none
 | k + 1, x0, x5, x8, x198000, x198001 => if x8 < (x0.length : Int) then (if 0 ≤ x8 then (if x5 = 0 then (none) else (if x198000.length < 17592186044416 then (spec_l09Lowest.l1 k x0 x5 (wrap64 (x8 + 1)) (x198000 ++ [wrap64 (Int.tdiv (rd x0 x8) x5)]) x198001) else (none))) else (none)) else (some (x198000, x198001))
end
def spec_l09Lowest.f (k : Nat) (l0 : List Int) (a1 : Int) : Option (List Int × Int) := (spec_l00Size.f a1).bind fun t190 => (spec_l09Lowest.l0 k l0 a1 t190 0)
theorem spec_l09Lowest.mono_l : ∀ k, (∀ y0 y1 y2 y3, LeO (spec_l09Lowest.l0 k y0 y1 y2 y3) (spec_l09Lowest.l0 (k + 1) y0 y1 y2 y3)) ∧ (∀ y0 y1 y2, LeO (spec_l09Lowest.j1 k y0 y1 y2) (spec_l09Lowest.j1 (k + 1) y0 y1 y2)) ∧ (∀ y0 y1 y2 y3 y4, LeO (spec_l09Lowest.l1 k y0 y1 y2 y3 y4) (spec_l09Lowest.l1 (k + 1) y0 y1 y2 y3 y4))
 | 0 => ⟨fun _ _ _ _ r h => by simp [spec_l09Lowest.l0] at h, fun _ _ _ r h => by simp [spec_l09Lowest.j1] at h, fun _ _ _ _ _ r h => by simp [spec_l09Lowest.l1] at h⟩
 | k + 1 => by
  obtain ⟨ih0, ih1, ih2⟩ := spec_l09Lowest.mono_l k
  refine ⟨?_, ?_, ?_⟩
  ·intro y0 y1 y2 y3
   unfold spec_l09Lowest.l0
   repeat' first
   | (with_reducible exact ih0 _ _ _ _)
   | (with_reducible exact ih1 _ _ _)
   | (with_reducible exact ih2 _ _ _ _ _)
   | (with_reducible exact spec_l00Gcd.mono _ _ _)
   | (with_reducible exact LeO.refl _)
   | (with_reducible exact LeO.none _)
   | (with_reducible refine LeO.ite ?_ ?_)
   | (with_reducible refine LeO.bind ?_ (fun _ => ?_))
   | exact ih0 _ _ _ _
   | exact ih1 _ _ _
   | exact ih2 _ _ _ _ _
   | exact spec_l00Gcd.mono _ _ _
   | exact LeO.none _
   | refine LeO.ite ?_ ?_
   | refine LeO.bind ?_ (fun _ => ?_)
  ·intro y0 y1 y2
   unfold spec_l09Lowest.j1
   repeat' first
   | (with_reducible exact ih0 _ _ _ _)
   | (with_reducible exact ih1 _ _ _)
   | (with_reducible exact ih2 _ _ _ _ _)
   | (with_reducible exact spec_l00Gcd.mono _ _ _)
   | (with_reducible exact LeO.refl _)
   | (with_reducible exact LeO.none _)
   | (with_reducible refine LeO.ite ?_ ?_)
   | (with_reducible refine LeO.bind ?_ (fun _ => ?_))
   | exact ih0 _ _ _ _
   | exact ih1 _ _ _
   | exact ih2 _ _ _ _ _
   | exact spec_l00Gcd.mono _ _ _
   | exact LeO.none _
   | refine LeO.ite ?_ ?_
   | refine LeO.bind ?_ (fun _ => ?_)
  ·intro y0 y1 y2 y3 y4
   unfold spec_l09Lowest.l1
   repeat' first
   | (with_reducible exact ih0 _ _ _ _)
   | (with_reducible exact ih1 _ _ _)
   | (with_reducible exact ih2 _ _ _ _ _)
   | (with_reducible exact spec_l00Gcd.mono _ _ _)
   | (with_reducible exact LeO.refl _)
   | (with_reducible exact LeO.none _)
   | (with_reducible refine LeO.ite ?_ ?_)
   | (with_reducible refine LeO.bind ?_ (fun _ => ?_))
   | exact ih0 _ _ _ _
   | exact ih1 _ _ _
   | exact ih2 _ _ _ _ _
   | exact spec_l00Gcd.mono _ _ _
   | exact LeO.none _
   | refine LeO.ite ?_ ?_
   | refine LeO.bind ?_ (fun _ => ?_)
theorem spec_l09Lowest.mono : ∀ a0 a1 k, LeO (spec_l09Lowest.f k a0 a1) (spec_l09Lowest.f (k + 1) a0 a1) := by
 intro a0 a1 k
 obtain ⟨ih0, ih1, ih2⟩ := spec_l09Lowest.mono_l k
 unfold spec_l09Lowest.f
 repeat' first
   | (with_reducible exact ih0 _ _ _ _)
   | (with_reducible exact ih1 _ _ _)
   | (with_reducible exact ih2 _ _ _ _ _)
   | (with_reducible exact spec_l00Gcd.mono _ _ _)
   | (with_reducible exact LeO.refl _)
   | (with_reducible exact LeO.none _)
   | (with_reducible refine LeO.ite ?_ ?_)
   | (with_reducible refine LeO.bind ?_ (fun _ => ?_))
   | exact ih0 _ _ _ _
   | exact ih1 _ _ _
   | exact ih2 _ _ _ _ _
   | exact spec_l00Gcd.mono _ _ _
   | exact LeO.none _
   | refine LeO.ite ?_ ?_
   | refine LeO.bind ?_ (fun _ => ?_)
def spec_l09Lowest.T12 : Bool × List (List Nat × List Nat) := (true, [([], []), ([0], [0]), ([], []), ([], []), ([2, 3], [2, 3]), ([4], [4]), ([], []), ([5, 6], [5, 6]), ([7], [7]), ([1, 8], [1, 8]), ([0, 1, 2, 3, 4, 5, 6, 7, 8, 9], []), ([10, 9, 9, 0, 1, 2, 3, 4, 5, 6, 7, 8, 9], [9, 10])])
def spec_l09Lowest.B12 : List Nat := [0, 1, 0, 0, 12, 28, 0, 124, 252, 511, 1023, 2047]
theorem spec_l09Lowest.tab12 : rtab .any (opsOf Try.f129 12) = spec_l09Lowest.T12 := by kernel_rfl
theorem spec_l09Lowest.bits12 : waitsOk spec_l09Lowest.T12.2 spec_l09Lowest.B12 = true := by kernel_rfl
set_option maxHeartbeats 8000000 in
set_option maxRecDepth 100000 in
theorem spec_l09Lowest.calls (k : Nat) (A0 : Option Addr) (c0 : Nat) (l0 : List Int) (a1 : Int) (r1 : List Int) (r2 : Int) (w : World) (hr0 : Kd.C (Kd.int .i64) w A0 l0.length l0) (hc0 : l0.length ≤ c0) (h : spec_l09Lowest.f k l0 a1 = some (r1, r2)) :
  Calls Try.prog 129 #[.slice A0 l0.length c0, .int .i64 a1] w fun e w' => ∃ v0_ : Value, e = .returned (.agg #[v0_, .int .i64 r2]) ∧ Kd.R (Kd.int .i64) 2 w' w.heap.size (fun _ => True) v0_ r1 ∧ Below w.heap.size w w' := by
 have hu35 := Try.underlying35
 have HR0 := Aside0.mk hr0
 have HC0 := Aside0.mk hc0
 clear hr0 hc0
 have HB := Aside0.mk (Below.refl w.heap.size w)
 have H : ((spec_l00Size.f a1).bind fun t190 => (spec_l09Lowest.l0 k l0 a1 t190 0)) = some (r1, r2) := h
 clear h
 replace H := Option.bind_eq_some_iff.mp H
 obtain ⟨t190, A30, H⟩ := H
 replace H : (spec_l09Lowest.l0 k l0 a1 t190 0) = some (r1, r2) := H
 have A3 := Aside0.mk A30
 clear A30
 have H' := Aside0.mk H
 clear H
 go_enter Try.func129, Try.ntmps129
 go_wp2_with (first | ((with_reducible refine gate_dst (N := 4) rfl ?_); refine zbx (N := 4) (cs := #[.slice none 0 0, .int .i64 0]) (t := 35) ?_; intro gb189 hg w4 hbox hb; have n0_ := Aside0.mk (below_step (zB HB.out) hb); have n1_ := Aside0.mk (hbox); have n2_ := Aside0.mk ((by rw [hg]; exact (below_size (zB HB.out)) : w.heap.size ≤ gb189)); have n3_ := Aside0.mk ((by rw [hg]; exact (below_size (zB HB.out)) : w.heap.size ≤ gb189)); clear HB; have HB := n0_; have BK189 := n1_; have GW189 := n2_; have GE189 := n3_; clear n0_ n1_ n2_ n3_; clear hb hbox hg) | ((with_reducible refine gate_callee (f := 90) rfl ?_); refine goesL_ (some 10) rfl rfl Try.func90 (by kernel_rfl) rfl #[.int .i64 a1] rfl zM ?_; (with_reducible refine (spec_l00Size.calls a1 t190 _ A3.out).mono ?_); rintro e w' ⟨rfl, ⟨nd, rfl⟩⟩; refine ⟨_, rfl, ?_⟩))
 go_loopg [5, 6] k (fun kq v5 v6 w' => ∃ (x5_1 : Int) (x6_1 : Int), v5 = .int .i64 x5_1 ∧ v6 = .int .i64 x6_1 ∧ Aside0 (spec_l09Lowest.l0 kq l0 a1 x5_1 x6_1 = some (r1, r2)) ∧ Aside0 (kq ≤ k) ∧ Aside0 (w'.heap[gb189]? = some (.cells #[(.slice none 0 0), .int .i64 0] 35 (0, 0))) ∧ Aside0 (Below w.heap.size w w'))
 case atStart => exact ⟨(t190), (0), (zF), (zF), H', ⟨Nat.le_refl _⟩, ⟨zb BK189.out⟩, ⟨zB2 HB.out GE189.out⟩⟩
 case round =>
  clear H'; (try clear c1); (try clear p2); obtain ⟨x5_1, x6_1, rfl, rfl, HA, HK1, BK189, HB⟩ := hrel
  cases gk with
  | zero => exact absurd HA.out (by simp [spec_l09Lowest.l0])
  | succ k1 =>
   have H := HA.out; clear HA
   simp only [spec_l09Lowest.l0] at H
   by_cases c5 : x6_1 < (l0.length : Int)
   ·rw [if_pos c5] at H
    have c5b0 : decide (x6_1 < (l0.length : Int)) = true := decide_eq_true c5; clear c5
    by_cases c6 : 0 ≤ x6_1
    ·rw [if_pos c6] at H
     have c6b0 : decide (0 ≤ x6_1) = true := decide_eq_true c6; clear c6; replace H := Option.bind_eq_some_iff.mp H; obtain ⟨t192, A70, H⟩ := H; replace H : ((spec_l00Gcd.f k1 x5_1 t192).bind fun t193 => (spec_l09Lowest.l0 k1 l0 a1 t193 (wrap64 (x6_1 + 1)))) = some (r1, r2) := H; have A7 := Aside0.mk A70; clear A70; replace H := Option.bind_eq_some_iff.mp H; obtain ⟨t193, A80, H⟩ := H; replace H : (spec_l09Lowest.l0 k1 l0 a1 t193 (wrap64 (x6_1 + 1))) = some (r1, r2) := H; have A8 := Aside0.mk A80; clear A80; have H' := Aside0.mk H; clear H; have p191 : 0 ≤ (x6_1 : Int) := of_decide_eq_true zA; have q191 : x6_1 < (l0.length : Int) := of_decide_eq_true zA; obtain ⟨ad191, e191, hx191_0⟩ := Kd.at_int HR0.out x6_1 p191 q191
     cases e191
     replace hx191_0 := zw HB.out hx191_0; replace p191 := eq_true p191; replace q191 := eq_true q191
     go_wp2_with (first | ((with_reducible refine gate_callee (f := 90) rfl ?_); refine goesL_ (some 22) rfl rfl Try.func90 (by kernel_rfl) rfl #[.int .i64 (rd l0 x6_1)] rfl zM ?_; (with_reducible refine (spec_l00Size.calls (rd l0 x6_1) t192 _ A7.out).mono ?_); rintro e w' ⟨rfl, ⟨nd, rfl⟩⟩; refine ⟨_, rfl, ?_⟩) | ((with_reducible refine gate_callee (f := 141) rfl ?_); refine goesL_ (some 23) rfl rfl Try.func141 (by kernel_rfl) rfl #[.int .i64 x5_1, .int .i64 t192] rfl zM ?_; (with_reducible refine (spec_l00Gcd.calls k1 x5_1 t192 t193 _ A8.out).mono ?_); rintro e w' ⟨rfl, ⟨nd, rfl⟩⟩; refine ⟨_, rfl, ?_⟩))
     go_roundg k1
     case measure => have := HK1.out; omega
     case rel => exact ⟨(t193), (wrap64 (x6_1 + 1)), (zF), (zF), H', ⟨by have := HK1.out; omega⟩, ⟨zb BK189.out⟩, ⟨zB2 HB.out GE189.out⟩⟩
    ·rw [if_neg c6] at H
     exact absurd H (by simp)
   ·rw [if_neg c5] at H
    have c5b0 : decide (x6_1 < (l0.length : Int)) = false := decide_eq_false c5; clear c5; have HC9 := Aside0.mk H; clear H
    go_upto_if 25 with (fail)
    go_cut [5] (fun v5 wc => ∃ (kq : Nat) (x5_8 : Int), v5 = .int .i64 x5_8 ∧ Aside0 (spec_l09Lowest.j1 kq l0 a1 x5_8 = some (r1, r2)) ∧ Aside0 (kq ≤ k1) ∧ Aside0 (wc.heap[gb189]? = some (.cells #[(.slice none 0 0), .int .i64 0] 35 (0, 0))) ∧ Aside0 (Below w.heap.size w wc))
    case first =>
     have H := HC9.out; clear HC9
     by_cases c10 : a1 < 0
     ·rw [if_pos c10] at H
      have c10b0 : decide (a1 < 0) = true := decide_eq_true c10; clear c10
      (first | rw [c10b0] | (simp only [i64_w, i32_w]; rw [c10b0]) | skip)
      have H' := Aside0.mk H; clear H
      go_wp2
      go_meet
      case rel => exact ⟨_, (wrap64 (-x5_1)), (zF), H', ⟨by have := HK1.out; first | omega | exact Nat.le_refl _⟩, ⟨zb BK189.out⟩, ⟨zB2 HB.out GE189.out⟩⟩
     ·rw [if_neg c10] at H
      have c10b0 : decide (a1 < 0) = false := decide_eq_false c10; clear c10
      (first | rw [c10b0] | (simp only [i64_w, i32_w]; rw [c10b0]) | skip)
      have H' := Aside0.mk H; clear H
      go_wp2
      go_meet
      case rel => exact ⟨_, (x5_1), (zF), H', ⟨by have := HK1.out; first | omega | exact Nat.le_refl _⟩, ⟨zb BK189.out⟩, ⟨zB2 HB.out GE189.out⟩⟩
    case rest =>
     clear HC9; (try clear c1); (try clear p1); (try clear q1); (try clear hx1); (try clear p2); (try clear c5); (try clear c5b0); (try clear c6); (try clear c6b0); (try clear p6); (try clear c9); (try clear c10); (try clear c10b0); (try clear hx191_0); (try clear p191); (try clear p2); (try clear q191); obtain ⟨kq, x5_8, rfl, HA, HJ8, BK189, HB⟩ := hcut
     cases kq with
     | zero => exact absurd HA.out (by simp [spec_l09Lowest.j1])
     | succ kj8 =>
      have H := HA.out; clear HA
      simp only [spec_l09Lowest.j1] at H
      obtain ⟨y194, hy194⟩ : ∃ y_ : List Int, y_ = (([] : List Int)) := ⟨_, rfl⟩
      replace H : (if x5_8 = 0 then (none) else (spec_l09Lowest.l1 kj8 l0 x5_8 0 y194 (wrap64 (Int.tdiv a1 x5_8)))) = some (r1, r2) := by first | (rw [hy194]; with_reducible exact H) | (have H2_ := (Option.bind_some _ _).symm.trans H; rw [hy194]; with_reducible exact H2_) | (have H2_ := (Option.bind_some _ _).symm.trans H; with_reducible exact H2_) | with_reducible exact H | (rw [hy194]; exact H) | exact H
      have Ny194 := Aside0.mk hy194; clear hy194
      by_cases c11 : x5_8 = 0
      ·rw [if_pos c11] at H
       exact absurd H (by simp)
      ·rw [if_neg c11] at H
       have c11b0 : (x5_8 == 0) = false := beq_eq_false_iff_ne.mpr c11; have c11b1 : (x5_8 != 0) = true := bne_iff_ne.mpr c11; have H' := Aside0.mk H; clear H
       go_wp2_with (first | ((with_reducible refine gate_dst (N := 28) rfl ?_); refine Kd.R_lit (Kd.int .i64) _ 2 ?hg (N := 28) ?hd (xs := ([] : List Int)) (inner := []) (ok := fun _ => True) (okp := fun _ => True) ?hr ?hp (fun _ hk => hk) trivial (Below.refl _ _) (Nat.le_refl _) (by simp) ?_; (case hd => rfl); (case hg => rfl); (case hr => first | (go_simp; done) | (go_simp; rfl)); (case hp => exact (Reps.none _ _)); intro v195 w12 ho13 hb hg_ hnew_; clear hg_ hnew_; (first | rw [← Ny194.out] at ho13 | (simp only [Int.reduceToNat] at ho13; rw [← Ny194.out] at ho13)); have n0_ := Aside0.mk (Kd.R_lower ho13 (below_size (zB2 HB.out GE189.out))); have n1_ := Aside0.mk (blk_below (g := gb189) (o := .cells #[.slice none 0 0, .int .i64 0] 35 (0, 0)) (zb BK189.out) hb); have n2_ := Aside0.mk (below_step (zB2 HB.out GE189.out) hb); clear BK189; clear HB; have HO196 := n0_; have BK189 := n1_; have HB := n2_; clear n0_ n1_ n2_; clear hb ho13; obtain ⟨Ao14, co14, eo14⟩ := Kd.R_slice HO196.out; subst eo14) | ((with_reducible refine gate_dst (N := 7) rfl ?_); refine zbx (N := 7) (cs := #[.slice none 0 0, .int .i64 0]) (t := 35) ?_; intro gb197 hg w15 hbox hb; have n0_ := Aside0.mk (Kd.R_below (zR HO196.out) hb); have n1_ := Aside0.mk (blk_below (g := gb189) (o := .cells #[.slice none 0 0, .int .i64 0] 35 (0, 0)) (zb BK189.out) hb); have n2_ := Aside0.mk (below_step (zB2 HB.out GE189.out) hb); have n3_ := Aside0.mk (hbox); have n4_ := Aside0.mk ((by rw [hg]; exact (below_size (zB2 HB.out GE189.out)) : w.heap.size ≤ gb197)); have n5_ := Aside0.mk ((by rw [hg]; exact (below_size (zB2 HB.out GE189.out)) : w.heap.size ≤ gb197)); have n6_ := Aside0.mk ((by rw [hg]; exact Nat.ne_of_lt (blk_lt (g := gb189) (o := .cells #[.slice none 0 0, .int .i64 0] 35 (0, 0)) (zb BK189.out)) : gb189 ≠ gb197)); have n7_ := Aside0.mk ((by rw [hg]; exact Nat.ne_of_gt (blk_lt (g := gb189) (o := .cells #[.slice none 0 0, .int .i64 0] 35 (0, 0)) (zb BK189.out)) : gb197 ≠ gb189)); clear HO196; clear BK189; clear HB; have HO196 := n0_; have BK189 := n1_; have HB := n2_; have BK197 := n3_; have GW197 := n4_; have GE197 := n5_; have NB189_197 := n6_; have NB197_189 := n7_; clear n0_ n1_ n2_ n3_ n4_ n5_ n6_ n7_; clear hb hbox hg; have hnb16 := NB197_189.out; have hnc16 := NB189_197.out; have hcz17_0 : w15.cell? ⟨gb197, 0, none⟩ = some (.slice none 0 0) := (blk_cell BK197.out 0).trans rfl; have hcz17_1 : w15.cell? ⟨gb197, 1, none⟩ = some (.int .i64 0) := (blk_cell BK197.out 1).trans rfl; have hfz17_0 := blk_frozen BK197.out 0; have hfz17_1 := blk_frozen BK197.out 1))
       go_loopg [8] kj8 (fun kq v8 w' => ∃ (x8_3 : Int) (x198000_3 : List Int) (u198000 : Value), v8 = .int .i64 x8_3 ∧ Aside0 (spec_l09Lowest.l1 kq l0 x5_8 x8_3 x198000_3 (wrap64 (Int.tdiv a1 x5_8)) = some (r1, r2)) ∧ Aside0 (kq ≤ kj8) ∧ Aside0 (Kd.R (Kd.int .i64) 2 w' w.heap.size (fun _ => True) u198000 x198000_3) ∧ Aside0 (w'.heap[gb189]? = some (.cells #[(.slice none 0 0), .int .i64 0] 35 (0, 0))) ∧ Aside0 (w'.heap[gb197]? = some (.cells #[u198000, .int .i64 (wrap64 (Int.tdiv a1 x5_8))] 35 (0, 0))) ∧ Aside0 (Below w.heap.size w w'))
       case atStart => exact ⟨(0), (y194), (.slice Ao14 y194.length co14), (zF), H', ⟨Nat.le_refl _⟩, ⟨by (with_reducible repeat (first | apply Kd.R_alloc | apply Kd.R_drewN | apply Kd.R_drew)); exact Kd.R_mono (Kd.R_far (p := ⟨gb197, 1, none⟩) (Kd.R_far (p := ⟨gb197, 0, none⟩) (Kd.R_types HO196.out BK197.out (by decide)) (fun _ hk => hk.2) (.slice Ao14 y194.length co14)) (fun _ hk => hk.2) (.int .i64 (wrap64 (Int.tdiv a1 x5_8)))) (fun _ hk => trivial)⟩, ⟨by refine zb ?_; refine blk_far ?_ NB189_197.out _; refine zb ?_; refine blk_far ?_ NB189_197.out _; refine zb ?_; exact BK189.out⟩, ⟨by refine zb ?_; refine blk_put (cs := #[.slice Ao14 y194.length co14, .int .i64 0]) ?_ 1 _ rfl; refine zb ?_; refine blk_put (cs := #[.slice none 0 0, .int .i64 0]) ?_ 0 _ rfl; refine zb ?_; exact BK197.out⟩, ⟨zB3 HB.out GE189.out GE197.out⟩⟩
       case round =>
        clear H'; (try clear c1); (try clear p1); (try clear q1); (try clear hx1); (try clear p2); (try clear c5); (try clear c5b0); (try clear c6); (try clear c6b0); (try clear p6); (try clear c9); (try clear c10); (try clear c10b0); (try clear c11); (try clear c11b0); (try clear c11b1); (try clear c12); (try clear c14); (try clear c16); (try clear hcz17_0); (try clear hcz17_1); (try clear hfz17_0); (try clear hfz17_1); (try clear hx191_0); (try clear p1); (try clear p191); (try clear p2); (try clear p6); (try clear q1); (try clear q191); obtain ⟨x8_3, x198000_3, u198000, rfl, HA, HK3, HO_198000, BK189, BK197, HB⟩ := hrel
        cases gk with
        | zero => exact absurd HA.out (by simp [spec_l09Lowest.l1])
        | succ k3 =>
         have H := HA.out; clear HA
         simp only [spec_l09Lowest.l1] at H
         by_cases c18 : x8_3 < (l0.length : Int)
         ·rw [if_pos c18] at H
          have c18b0 : decide (x8_3 < (l0.length : Int)) = true := decide_eq_true c18; clear c18
          by_cases c19 : 0 ≤ x8_3
          ·rw [if_pos c19] at H
           have c19b0 : decide (0 ≤ x8_3) = true := decide_eq_true c19; clear c19
           by_cases c20 : x5_8 = 0
           ·rw [if_pos c20] at H
            exact absurd H (by simp)
           ·rw [if_neg c20] at H
            have c20b0 : (x5_8 == 0) = false := beq_eq_false_iff_ne.mpr c20; have c20b1 : (x5_8 != 0) = true := bne_iff_ne.mpr c20
            by_cases c21 : x198000_3.length < 17592186044416
            ·rw [if_pos c21] at H
             have LMc21 := Aside0.mk c21; clear c21; obtain ⟨y199, hy199⟩ : ∃ y_ : List Int, y_ = (x198000_3 ++ [wrap64 (Int.tdiv (rd l0 x8_3) x5_8)]) := ⟨_, rfl⟩
             replace H : (spec_l09Lowest.l1 k3 l0 x5_8 (wrap64 (x8_3 + 1)) y199 (wrap64 (Int.tdiv a1 x5_8))) = some (r1, r2) := by first | (rw [hy199]; with_reducible exact H) | (have H2_ := (Option.bind_some _ _).symm.trans H; rw [hy199]; with_reducible exact H2_) | (have H2_ := (Option.bind_some _ _).symm.trans H; with_reducible exact H2_) | with_reducible exact H | (rw [hy199]; exact H) | exact H
             have Ny199 := Aside0.mk hy199; clear hy199; have H' := Aside0.mk H; clear H
             try go_wp2
             have n0_ := Aside0.mk (Kd.R_drew HO_198000.out); have n1_ := Aside0.mk (blk_drew BK189.out); have n2_ := Aside0.mk (blk_drew BK197.out); have n3_ := Aside0.mk (below_drew1 HB.out); clear HO_198000; clear BK189; clear BK197; clear HB; have HO_198000 := n0_; have BK189 := n1_; have BK197 := n2_; have HB := n3_; clear n0_ n1_ n2_ n3_; have p198 : 0 ≤ (x8_3 : Int) := of_decide_eq_true zA; have q198 : x8_3 < (l0.length : Int) := of_decide_eq_true zA; obtain ⟨ad198, e198, hx198_0⟩ := Kd.at_int HR0.out x8_3 p198 q198; have hw198_0 := hx198_0
             cases e198
             replace hx198_0 := zw HB.out hx198_0; replace p198 := eq_true p198; replace q198 := eq_true q198
             refine zs (fun w' => w'.cell? ⟨gb197, 0, none⟩ = some (u198000) ∧ w'.cell? ⟨gb197, 1, none⟩ = some (.int .i64 (wrap64 (Int.tdiv a1 x5_8))) ∧ w'.cell? (ad198.add (x8_3).toNat) = some (.int .i64 (rd l0 x8_3))) [11] 12 ⟨(blk_cell BK197.out 0).trans rfl, (blk_cell BK197.out 1).trans rfl, ((HB.out.cell (World.block_lt_of_cell? w _ hw198_0)).trans hw198_0)⟩ (fun hHeld => ?_); refine with_tabW spec_l09Lowest.tab12 spec_l09Lowest.bits12 (fun HT_ HW_ => ?_)
             generalize wr.drew = w22 at HO_198000 BK189 BK197 HB hx198_0 hHeld ⊢
             refine zp 0 39 ?_
             refine zp 2 41 ?_
             refine zp 3 42 ?_
             refine zp 4 43 ?_
             refine zp 6 45 ?_
             refine zt 1 40 hHeld ?_
             refine zt 5 44 hHeld ?_
             refine zp 7 46 ?_
             refine zo 8 (some 47) (fun K hK => ?_)
             refine value_ (w1 := ?_) (v := ?_) (by rfl) rfl ?_ ?_
             rotate_left 2
             ·go_simp
              constructor
              ·rfl
              ·rfl
             refine hK.out _ _ ⟨(blk_cell (blk_alloc BK197.out _) 0).trans rfl, (blk_cell (blk_alloc BK197.out _) 1).trans rfl, (World.cell?_alloc_lt _ _ _ (World.block_lt_of_cell? _ _ (((HB.out.cell (World.block_lt_of_cell? w _ hw198_0)).trans hw198_0)))).trans (((HB.out.cell (World.block_lt_of_cell? w _ hw198_0)).trans hw198_0))⟩ (fun hHeld => ?_)
             clear hK K
             refine zn 47 ?_
             refine zo 9 (some 48) (fun K hK => ?_)
             refine Kd.R_append_step (Kd.int .i64) (w0 := w) w.heap.size (by rfl) (.tmp 40) (.tmp 47) 31 2 (.int .i64 0) 8 rfl Try.underlying31 info2 rfl (by decide) (by omega) u198000 x198000_3 (wrap64 (Int.tdiv (rd l0 x8_3) x5_8)) [.int .i64 (wrap64 (Int.tdiv (rd l0 x8_3) x5_8))] (fun _ => True) (fun _ => False) rfl rfl ?aP (fun _ hk => hk.elim) ?aF ?aO ?aB ?aS ?aL ?_
             (case aP => exact rfl)
             (case aB => exact (zB3 HB.out GE189.out GE197.out))
             (case aF => exact (fun _ _ => trivial))
             (case aO => exact (zR HO_198000.out))
             (case aS => exact (below_size (zB3 HB.out GE189.out GE197.out)))
             (case aL => have := LMc21.out; omega)
             intro v200 w23 ho hb hg hat
             rw [← Ny199.out] at ho; have n0_ := Aside0.mk (blk_grown (g := gb189) (o := .cells #[.slice none 0 0, .int .i64 0] 35 (0, 0)) (zb BK189.out) hg (Kd.R_ne HO_198000.out BK189.out (by decide))); have n1_ := Aside0.mk (blk_grown (g := gb197) (o := .cells #[u198000, .int .i64 (wrap64 (Int.tdiv a1 x5_8))] 35 (0, 0)) (zb BK197.out) hg (Kd.R_ne HO_198000.out BK197.out (by decide))); have n2_ := Aside0.mk (hb); have n3_ := Aside0.mk (ho); clear BK189; clear BK197; clear HB; clear HO_198000; have BK189 := n0_; have BK197 := n1_; have HB := n2_; have HO201 := n3_; clear n0_ n1_ n2_ n3_; clear ho hb hg hat; obtain ⟨Ao24, co24, eo24⟩ := Kd.R_slice HO201.out
             (first | subst eo24 | (injection eo24 with f1_ f2_ f3_; have f4_ := f1_.symm; have f5_ := f3_.symm; clear f1_ f2_ f3_; subst f4_; subst f5_))
             refine hK.out _ _ ⟨(blk_cell BK197.out 0).trans rfl, (blk_cell BK197.out 1).trans rfl, ((HB.out.cell (World.block_lt_of_cell? w _ hw198_0)).trans hw198_0)⟩ (fun hHeld => ?_)
             clear hK K
             refine zn 48 ?_
             refine zp 10 49 ?_
             refine last_ (i := 11) (N := none) (zm 12 4095) rfl rfl (one_of HT_.out (by kernel_rfl)) (by decide) (fun K hK => ?_)
             have hs25 : w23.cell? ⟨gb197, 0, none⟩ = some (u198000) := (blk_cell BK197.out 0).trans rfl; have hfs25 := blk_frozen BK197.out 0; have hns25_0 := NB189_197.out; have hms25_0 := NB197_189.out
             refine skip_ (w1 := ?_) (by rfl) rfl ?_ ?_
             rotate_left
             ·go_simp
              rfl
             refine hK.out _ _ ?_
             clear hK K
             refine done_ (done_of HT_.out (by kernel_rfl)) ?_
             try go_wp2
             go_roundg k3
             case measure => have := HK1.out; have := HJ8.out; have := HK3.out; omega
             case rel => exact ⟨(wrap64 (x8_3 + 1)), (y199), (.slice Ao24 y199.length co24), (zF), H', ⟨by have := HK1.out; have := HJ8.out; have := HK3.out; omega⟩, ⟨by (with_reducible repeat (first | apply Kd.R_alloc | apply Kd.R_drewN | apply Kd.R_drew)); exact Kd.R_mono (Kd.R_far (p := ⟨gb197, 0, none⟩) (Kd.R_types HO201.out BK197.out (by decide)) (fun _ hk => hk.2) (.slice Ao24 y199.length co24)) (fun _ hk => trivial)⟩, ⟨by refine zb ?_; refine blk_far ?_ NB189_197.out _; refine zb ?_; exact BK189.out⟩, ⟨by refine zb ?_; refine blk_put (cs := #[u198000, .int .i64 (wrap64 (Int.tdiv a1 x5_8))]) ?_ 0 _ rfl; refine zb ?_; exact BK197.out⟩, ⟨zB3 HB.out GE189.out GE197.out⟩⟩
            ·rw [if_neg c21] at H
             exact absurd H (by simp)
          ·rw [if_neg c19] at H
           exact absurd H (by simp)
         ·rw [if_neg c18] at H
          have c18b0 : decide (x8_3 < (l0.length : Int)) = false := decide_eq_false c18; clear c18
          simp only [Option.some.injEq, Prod.mk.injEq] at H
          obtain ⟨rfl, rfl⟩ := H; have hnb26 := NB197_189.out; have hnc26 := NB189_197.out; have hcz27_0 : wr.cell? ⟨gb197, 0, none⟩ = some (u198000) := (blk_cell BK197.out 0).trans rfl; have hcz27_1 : wr.cell? ⟨gb197, 1, none⟩ = some (.int .i64 (wrap64 (Int.tdiv a1 x5_8))) := (blk_cell BK197.out 1).trans rfl; have hfz27_0 := blk_frozen BK197.out 0; have hfz27_1 := blk_frozen BK197.out 1; obtain ⟨Ao28, co28, eo28⟩ := Kd.R_slice HO_198000.out; subst eo28; have hcz29_0 : wr.cell? ⟨gb189, 0, none⟩ = some (.slice none 0 0) := (blk_cell BK189.out 0).trans rfl; have hcz29_1 : wr.cell? ⟨gb189, 1, none⟩ = some (.int .i64 0) := (blk_cell BK189.out 1).trans rfl; have hfz29_0 := blk_frozen BK189.out 0; have hfz29_1 := blk_frozen BK189.out 1
          go_wp2
          refine bodyPost_ret (results_cell_row rfl _ _ gb189 35 #[.slice Ao28 x198000_3.length co28, .int .i64 (wrap64 (Int.tdiv a1 x5_8))] (0, 0) _ rfl (by refine zb ?_; refine blk_put (cs := #[.slice Ao28 x198000_3.length co28, .int .i64 0]) ?_ 1 _ rfl; refine zb ?_; refine blk_put (cs := #[.slice none 0 0, .int .i64 0]) ?_ 0 _ rfl; refine zb ?_; exact BK189.out) Try.underlying35 rfl (by kernel_rfl)) rfl ?_
          exact ⟨_, zE, by (with_reducible repeat (first | apply Kd.R_alloc | apply Kd.R_drewN | apply Kd.R_drew)); exact Kd.R_mono (Kd.R_far (p := ⟨gb189, 1, none⟩) (Kd.R_far (p := ⟨gb189, 0, none⟩) (Kd.R_types HO_198000.out BK189.out (by decide)) (fun _ hk => hk.2) (.slice Ao28 x198000_3.length co28)) (fun _ hk => hk.2) (.int .i64 (wrap64 (Int.tdiv a1 x5_8)))) (fun _ hk => trivial), zB3 HB.out GE189.out GE197.out⟩

end Go.Proofs.Ytimjblgepbhoaaa.PFnExactCanHold
