/- The walks of the functions that the law reaches: each computes what its Lean function says. No condition beyond each contract's own. -/
import Derived.Test.YtimjblgepbhoaaaHFnExactCanHoldx0
import Derived.Test.YtimjblgepbhoaaaHFnExactCanHoldx7
import Derived.Test.YtimjblgepbhoaaaHFnExactCanHoldx10
import Derived.Test.YtimjblgepbhoaaaHFnExactCanHoldx12
namespace Go.Proofs.Ytimjblgepbhoaaa.PFnExactCanHold
noncomputable section
open Go.RowKit Go.Proofs.YtimjblgepbhoaaaW.PrintWords Go.Proofs.YtimjblgepbhoaaaW.PrintLast Go.Proofs.YtimjblgepbhoaaaW.PrintMore
attribute [local go_sem] max2_int min2_int max_two min_two max_three min_three max_four min_four   -- for this text's walks alone
set_option linter.unusedVariables false
set_option linter.unusedSimpArgs false

/-! ### spec_l09Pushed: function 81 -/
def spec_l09Pushed.l0 : Nat → List Int → Int → List (S164) → List (S115) → List Int → Int → Option (List Int)
 | 0, _, _, _, _, _, _ => none
 | k + 1, x5, x6, x1000, x1001, x2000, x2001 => if x6 < (x1001.length : Int) then (if 0 ≤ x6 then (if ((rd_T115 x1001 x6).f2 = true) then (spec_l09Pushed.l0 k x5 (wrap64 (x6 + 1)) x1000 x1001 x2000 x2001) else (if x6 < (x2000.length : Int) then (if (rd x2000 x6) < 0 then (if x5.length < 17592186044416 then (spec_l09Pushed.l0 k (x5 ++ [x6]) (wrap64 (x6 + 1)) x1000 x1001 x2000 x2001) else (none)) else (spec_l09Pushed.l0 k x5 (wrap64 (x6 + 1)) x1000 x1001 x2000 x2001)) else (none))) else (none)) else (some x5)
def spec_l09Pushed.f (k : Nat) (l0_0 : List (S164)) (l0_1 : List (S115)) (l1_0 : List Int) (a1_1 : Int) : Option (List Int) := spec_l09Pushed.l0 k (([] : List Int)) 0 l0_0 l0_1 l1_0 a1_1
theorem spec_l09Pushed.mono_l : ∀ k, (∀ y0 y1 y2 y3 y4 y5, LeO (spec_l09Pushed.l0 k y0 y1 y2 y3 y4 y5) (spec_l09Pushed.l0 (k + 1) y0 y1 y2 y3 y4 y5))
 | 0 => fun _ _ _ _ _ _ r h => by simp [spec_l09Pushed.l0] at h
 | k + 1 => by
  have ih0 := spec_l09Pushed.mono_l k
  ·intro y0 y1 y2 y3 y4 y5
   unfold spec_l09Pushed.l0
   repeat' first
   | (with_reducible exact ih0 _ _ _ _ _ _)
   | (with_reducible exact LeO.refl _)
   | (with_reducible exact LeO.none _)
   | (with_reducible refine LeO.ite ?_ ?_)
   | (with_reducible refine LeO.bind ?_ (fun _ => ?_))
   | exact ih0 _ _ _ _ _ _
   | exact LeO.none _
   | refine LeO.ite ?_ ?_
   | refine LeO.bind ?_ (fun _ => ?_)
theorem spec_l09Pushed.mono : ∀ a0 a1 a2 a3 k, LeO (spec_l09Pushed.f k a0 a1 a2 a3) (spec_l09Pushed.f (k + 1) a0 a1 a2 a3) := by
 intro a0 a1 a2 a3 k
 have ih0 := spec_l09Pushed.mono_l k
 unfold spec_l09Pushed.f
 repeat' first
   | (with_reducible exact ih0 _ _ _ _ _ _)
   | (with_reducible exact LeO.refl _)
   | (with_reducible exact LeO.none _)
   | (with_reducible refine LeO.ite ?_ ?_)
   | (with_reducible refine LeO.bind ?_ (fun _ => ?_))
   | exact ih0 _ _ _ _ _ _
   | exact LeO.none _
   | refine LeO.ite ?_ ?_
   | refine LeO.bind ?_ (fun _ => ?_)
set_option maxHeartbeats 8000000 in
set_option maxRecDepth 100000 in
theorem spec_l09Pushed.calls (k : Nat) (g0 : Nat) (A0_0 : Option Addr) (c0_0 : Nat) (l0_0 : List (S164)) (A0_1 : Option Addr) (c0_1 : Nat) (l0_1 : List (S115)) (g1 : Nat) (A1_0 : Option Addr) (c1_0 : Nat) (l1_0 : List Int) (a1_1 : Int) (r : List Int) (w : World) (hbk0 : w.heap[g0]? = some (.cells #[.slice A0_0 l0_0.length c0_0, .slice A0_1 l0_1.length c0_1] 27 (0, 0))) (hbk1 : w.heap[g1]? = some (.cells #[.slice A1_0 l1_0.length c1_0, .int .i64 a1_1] 35 (0, 0))) (hr0_0 : Kd.C k164 w A0_0 l0_0.length l0_0) (hc0_0 : l0_0.length ≤ c0_0) (hr0_1 : Kd.C k115 w A0_1 l0_1.length l0_1) (hc0_1 : l0_1.length ≤ c0_1) (hr1_0 : Kd.C (Kd.int .i64) w A1_0 l1_0.length l1_0) (hc1_0 : l1_0.length ≤ c1_0) (h : spec_l09Pushed.f k l0_0 l0_1 l1_0 a1_1 = some r) :
  Calls Try.prog 81 #[.pointer (some ⟨g0, 0, none⟩), .pointer (some ⟨g1, 0, none⟩)] w fun e w' => ∃ v0_ : Value, e = .returned (v0_) ∧ Kd.R (Kd.int .i64) 2 w' w.heap.size (fun _ => True) v0_ r ∧ Below w.heap.size w w' := by
 have HR0_0 := Aside0.mk hr0_0
 have HC0_0 := Aside0.mk hc0_0
 clear hr0_0 hc0_0
 have HR0_1 := Aside0.mk hr0_1
 have HC0_1 := Aside0.mk hc0_1
 clear hr0_1 hc0_1
 have HR1_0 := Aside0.mk hr1_0
 have HC1_0 := Aside0.mk hc1_0
 clear hr1_0 hc1_0
 have BK0 := Aside0.mk hbk0
 clear hbk0
 have BK1 := Aside0.mk hbk1
 clear hbk1
 have NB0_1 := Aside0.mk (show g0 ≠ g1 from fun e_ => by have h_ := BK0.out; rw [e_, BK1.out] at h_; simp at h_)
 have NB1_0 := Aside0.mk (show g1 ≠ g0 from fun e_ => by have h_ := BK1.out; rw [e_, BK0.out] at h_; simp at h_)
 have HB := Aside0.mk (Below.refl w.heap.size w)
 have H : (spec_l09Pushed.l0 k (([] : List Int)) 0 l0_0 l0_1 l1_0 a1_1) = some r := h
 clear h
 obtain ⟨y202, hy202⟩ : ∃ y_ : List Int, y_ = (([] : List Int)) := ⟨_, rfl⟩
 replace H : (spec_l09Pushed.l0 k y202 0 l0_0 l0_1 l1_0 a1_1) = some r := by first | (rw [hy202]; with_reducible exact H) | (have H2_ := (Option.bind_some _ _).symm.trans H; rw [hy202]; with_reducible exact H2_) | (have H2_ := (Option.bind_some _ _).symm.trans H; with_reducible exact H2_) | with_reducible exact H | (rw [hy202]; exact H) | exact H
 have Ny202 := Aside0.mk hy202
 clear hy202
 have H' := Aside0.mk H
 clear H
 go_enter Try.func81, Try.ntmps81
 go_wp2_with (first | ((with_reducible refine gate_dst (N := 7) rfl ?_); refine Kd.R_lit (Kd.int .i64) _ 2 ?hg (N := 7) ?hd (xs := ([] : List Int)) (inner := []) (ok := fun _ => True) (okp := fun _ => True) ?hr ?hp (fun _ hk => hk) trivial (Below.refl _ _) (Nat.le_refl _) (by simp) ?_; (case hd => rfl); (case hg => rfl); (case hr => first | (go_simp; done) | (go_simp; rfl)); (case hp => exact (Reps.none _ _)); intro v203 w3 ho4 hb hg_ hnew_; clear hg_ hnew_; (first | rw [← Ny202.out] at ho4 | (simp only [Int.reduceToNat] at ho4; rw [← Ny202.out] at ho4)); have n0_ := Aside0.mk (Kd.R_lower ho4 (below_size (zB HB.out))); have n1_ := Aside0.mk (blk_below (g := g0) (o := .cells #[.slice A0_0 l0_0.length c0_0, .slice A0_1 l0_1.length c0_1] 27 (0, 0)) (zb BK0.out) hb); have n2_ := Aside0.mk (blk_below (g := g1) (o := .cells #[.slice A1_0 l1_0.length c1_0, .int .i64 a1_1] 35 (0, 0)) (zb BK1.out) hb); have n3_ := Aside0.mk (below_step (zB HB.out) hb); clear BK0; clear BK1; clear HB; have HO204 := n0_; have BK0 := n1_; have BK1 := n2_; have HB := n3_; clear n0_ n1_ n2_ n3_; clear hb ho4))
 go_loopg [5, 6] k (fun kq v5 v6 w' => ∃ (x5_1 : List Int) (x6_1 : Int), v6 = .int .i64 x6_1 ∧ Aside0 (spec_l09Pushed.l0 kq x5_1 x6_1 l0_0 l0_1 l1_0 a1_1 = some r) ∧ Aside0 (kq ≤ k) ∧ Aside0 (Kd.R (Kd.int .i64) 2 w' w.heap.size (fun _ => True) v5 x5_1) ∧ Aside0 (w'.heap[g0]? = some (.cells #[(.slice A0_0 l0_0.length c0_0), (.slice A0_1 l0_1.length c0_1)] 27 (0, 0))) ∧ Aside0 (w'.heap[g1]? = some (.cells #[(.slice A1_0 l1_0.length c1_0), .int .i64 a1_1] 35 (0, 0))) ∧ Aside0 (Below w.heap.size w w'))
 case atStart => exact ⟨(y202), (0), (zF), H', ⟨Nat.le_refl _⟩, ⟨zR HO204.out⟩, ⟨zb BK0.out⟩, ⟨zb BK1.out⟩, ⟨zB HB.out⟩⟩
 case round =>
  clear H'; (try clear c1); (try clear p2); obtain ⟨x5_1, x6_1, rfl, HA, HK1, HO_5, BK0, BK1, HB⟩ := hrel
  cases gk with
  | zero => exact absurd HA.out (by simp [spec_l09Pushed.l0])
  | succ k1 =>
   have H := HA.out; clear HA
   simp only [spec_l09Pushed.l0] at H
   by_cases c5 : x6_1 < (l0_1.length : Int)
   ·rw [if_pos c5] at H
    have c5b0 : decide (x6_1 < (l0_1.length : Int)) = true := decide_eq_true c5; clear c5
    by_cases c6 : 0 ≤ x6_1
    ·rw [if_pos c6] at H
     have c6b0 : decide (0 ≤ x6_1) = true := decide_eq_true c6; clear c6; obtain ⟨bq7, hbq7⟩ : ∃ b_ : Bool, b_ = ((rd_T115 l0_1 x6_1).f2) := ⟨_, rfl⟩
     replace H : (if (bq7 = true) then (spec_l09Pushed.l0 k1 x5_1 (wrap64 (x6_1 + 1)) l0_0 l0_1 l1_0 a1_1) else (if x6_1 < (l1_0.length : Int) then (if (rd l1_0 x6_1) < 0 then (if x5_1.length < 17592186044416 then (spec_l09Pushed.l0 k1 (x5_1 ++ [x6_1]) (wrap64 (x6_1 + 1)) l0_0 l0_1 l1_0 a1_1) else (none)) else (spec_l09Pushed.l0 k1 x5_1 (wrap64 (x6_1 + 1)) l0_0 l0_1 l1_0 a1_1)) else (none))) = some r := by rw [← hbq7] at H; exact H
     have Nbq7 := Aside0.mk hbq7; clear hbq7
     by_cases c8 : (bq7 = true)
     ·subst c8
      have H1 : (spec_l09Pushed.l0 k1 x5_1 (wrap64 (x6_1 + 1)) l0_0 l0_1 l1_0 a1_1) = some r := by rw [if_pos rfl] at H; exact H
      clear H; have H := H1; clear H1; have H' := Aside0.mk H; clear H; have hnb9 := NB0_1.out; have hnc9 := NB1_0.out; have hcz10_0 : wr.cell? ⟨g0, 0, none⟩ = some (.slice A0_0 l0_0.length c0_0) := (blk_cell BK0.out 0).trans rfl; have hcz10_1 : wr.cell? ⟨g0, 1, none⟩ = some (.slice A0_1 l0_1.length c0_1) := (blk_cell BK0.out 1).trans rfl; have hfz10_0 := blk_frozen BK0.out 0; have hfz10_1 := blk_frozen BK0.out 1; have p205 : 0 ≤ (x6_1 : Int) := of_decide_eq_true zA; have q205 : x6_1 < (l0_1.length : Int) := of_decide_eq_true zA; obtain ⟨ad205, e205, hx205_0, hx205_1, hx205_2⟩ := at_T115 HR0_1.out x6_1 p205 q205
      (try rw [← Nbq7.out] at hx205_2)
      cases e205
      replace hx205_0 := zw HB.out hx205_0; replace hx205_1 := zw HB.out hx205_1; replace hx205_2 := zw HB.out hx205_2; replace p205 := eq_true p205; replace q205 := eq_true q205
      go_wp2
      go_roundg k1
      case measure => have := HK1.out; omega
      case rel => exact ⟨(x5_1), (wrap64 (x6_1 + 1)), (zF), H', ⟨by have := HK1.out; omega⟩, ⟨zR HO_5.out⟩, ⟨zb BK0.out⟩, ⟨zb BK1.out⟩, ⟨zB HB.out⟩⟩
     ·replace c8 := Bool.eq_false_iff.mpr c8
      subst c8
      have H1 : (if x6_1 < (l1_0.length : Int) then (if (rd l1_0 x6_1) < 0 then (if x5_1.length < 17592186044416 then (spec_l09Pushed.l0 k1 (x5_1 ++ [x6_1]) (wrap64 (x6_1 + 1)) l0_0 l0_1 l1_0 a1_1) else (none)) else (spec_l09Pushed.l0 k1 x5_1 (wrap64 (x6_1 + 1)) l0_0 l0_1 l1_0 a1_1)) else (none)) = some r := by rw [if_neg (show ¬ (false = true) by decide)] at H; exact H
      clear H; have H := H1; clear H1
      by_cases c11 : x6_1 < (l1_0.length : Int)
      ·rw [if_pos c11] at H
       have c11b0 : decide (x6_1 < (l1_0.length : Int)) = true := decide_eq_true c11; clear c11
       by_cases c12 : (rd l1_0 x6_1) < 0
       ·rw [if_pos c12] at H
        have c12b0 : decide ((rd l1_0 x6_1) < 0) = true := decide_eq_true c12; clear c12
        by_cases c13 : x5_1.length < 17592186044416
        ·rw [if_pos c13] at H
         have LMc13 := Aside0.mk c13; clear c13; obtain ⟨y207, hy207⟩ : ∃ y_ : List Int, y_ = (x5_1 ++ [x6_1]) := ⟨_, rfl⟩
         replace H : (spec_l09Pushed.l0 k1 y207 (wrap64 (x6_1 + 1)) l0_0 l0_1 l1_0 a1_1) = some r := by first | (rw [hy207]; with_reducible exact H) | (have H2_ := (Option.bind_some _ _).symm.trans H; rw [hy207]; with_reducible exact H2_) | (have H2_ := (Option.bind_some _ _).symm.trans H; with_reducible exact H2_) | with_reducible exact H | (rw [hy207]; exact H) | exact H
         have Ny207 := Aside0.mk hy207; clear hy207; have H' := Aside0.mk H; clear H; have hnb14 := NB0_1.out; have hnc14 := NB1_0.out; have hcz15_0 : wr.cell? ⟨g0, 0, none⟩ = some (.slice A0_0 l0_0.length c0_0) := (blk_cell BK0.out 0).trans rfl; have hcz15_1 : wr.cell? ⟨g0, 1, none⟩ = some (.slice A0_1 l0_1.length c0_1) := (blk_cell BK0.out 1).trans rfl; have hfz15_0 := blk_frozen BK0.out 0; have hfz15_1 := blk_frozen BK0.out 1; have p205 : 0 ≤ (x6_1 : Int) := of_decide_eq_true zA; have q205 : x6_1 < (l0_1.length : Int) := of_decide_eq_true zA; obtain ⟨ad205, e205, hx205_0, hx205_1, hx205_2⟩ := at_T115 HR0_1.out x6_1 p205 q205
         (try rw [← Nbq7.out] at hx205_2)
         cases e205
         replace hx205_0 := zw HB.out hx205_0; replace hx205_1 := zw HB.out hx205_1; replace hx205_2 := zw HB.out hx205_2; replace p205 := eq_true p205; replace q205 := eq_true q205; have hcz16_0 : wr.cell? ⟨g1, 0, none⟩ = some (.slice A1_0 l1_0.length c1_0) := (blk_cell BK1.out 0).trans rfl; have hcz16_1 : wr.cell? ⟨g1, 1, none⟩ = some (.int .i64 a1_1) := (blk_cell BK1.out 1).trans rfl; have hfz16_0 := blk_frozen BK1.out 0; have hfz16_1 := blk_frozen BK1.out 1; have p206 : 0 ≤ (x6_1 : Int) := of_decide_eq_true zA; have q206 : x6_1 < (l1_0.length : Int) := of_decide_eq_true zA; obtain ⟨ad206, e206, hx206_0⟩ := Kd.at_int HR1_0.out x6_1 p206 q206
         cases e206
         replace hx206_0 := zw HB.out hx206_0; replace p206 := eq_true p206; replace q206 := eq_true q206
         go_wp2_with (first | ((with_reducible refine gate_builtin (b := .append) (xs := #[.tmp 36, .tmp 38]) rfl ?_); at_builtin; refine Kd.R_append (Kd.int .i64) (w0 := w) w.heap.size rfl (.tmp 36) (.tmp 38) 31 2 (.int .i64 0) 8 rfl Try.underlying31 info2 rfl (by decide) (by omega) u5 x5_1 x6_1 [.int .i64 x6_1] (fun _ => True) (fun _ => False) rfl rfl ?aP (fun _ hk => hk.elim) ?aF ?aO ?aB ?aS ?aL ?_; (case aP => exact rfl); (case aB => exact (zB HB.out)); (case aF => exact (fun _ _ => trivial)); (case aO => exact (zR HO_5.out)); (case aS => exact (below_size (zB HB.out))); (case aL => have := LMc13.out; omega); intro v208 w17 ho hb hg hat; rw [← Ny207.out] at ho; have n0_ := Aside0.mk (blk_grown (g := g0) (o := .cells #[.slice A0_0 l0_0.length c0_0, .slice (some ad205) l0_1.length c0_1] 27 (0, 0)) (zb BK0.out) hg (Kd.R_ne HO_5.out BK0.out (by decide))); have n1_ := Aside0.mk (blk_grown (g := g1) (o := .cells #[.slice (some ad206) l1_0.length c1_0, .int .i64 a1_1] 35 (0, 0)) (zb BK1.out) hg (Kd.R_ne HO_5.out BK1.out (by decide))); have n2_ := Aside0.mk (hb); have n3_ := Aside0.mk (ho); clear BK0; clear BK1; clear HB; clear HO_5; have BK0 := n0_; have BK1 := n1_; have HB := n2_; have HO209 := n3_; clear n0_ n1_ n2_ n3_; clear ho hb hg hat))
         go_roundg k1
         case measure => have := HK1.out; omega
         case rel => exact ⟨(y207), (wrap64 (x6_1 + 1)), (zF), H', ⟨by have := HK1.out; omega⟩, ⟨zR HO209.out⟩, ⟨zb BK0.out⟩, ⟨zb BK1.out⟩, ⟨zB HB.out⟩⟩
        ·rw [if_neg c13] at H
         exact absurd H (by simp)
       ·rw [if_neg c12] at H
        have c12b0 : decide ((rd l1_0 x6_1) < 0) = false := decide_eq_false c12; clear c12; have H' := Aside0.mk H; clear H; have hnb18 := NB0_1.out; have hnc18 := NB1_0.out; have hcz19_0 : wr.cell? ⟨g0, 0, none⟩ = some (.slice A0_0 l0_0.length c0_0) := (blk_cell BK0.out 0).trans rfl; have hcz19_1 : wr.cell? ⟨g0, 1, none⟩ = some (.slice A0_1 l0_1.length c0_1) := (blk_cell BK0.out 1).trans rfl; have hfz19_0 := blk_frozen BK0.out 0; have hfz19_1 := blk_frozen BK0.out 1; have p205 : 0 ≤ (x6_1 : Int) := of_decide_eq_true zA; have q205 : x6_1 < (l0_1.length : Int) := of_decide_eq_true zA; obtain ⟨ad205, e205, hx205_0, hx205_1, hx205_2⟩ := at_T115 HR0_1.out x6_1 p205 q205
        (try rw [← Nbq7.out] at hx205_2)
        cases e205
        replace hx205_0 := zw HB.out hx205_0; replace hx205_1 := zw HB.out hx205_1; replace hx205_2 := zw HB.out hx205_2; replace p205 := eq_true p205; replace q205 := eq_true q205; have hcz20_0 : wr.cell? ⟨g1, 0, none⟩ = some (.slice A1_0 l1_0.length c1_0) := (blk_cell BK1.out 0).trans rfl; have hcz20_1 : wr.cell? ⟨g1, 1, none⟩ = some (.int .i64 a1_1) := (blk_cell BK1.out 1).trans rfl; have hfz20_0 := blk_frozen BK1.out 0; have hfz20_1 := blk_frozen BK1.out 1; have p206 : 0 ≤ (x6_1 : Int) := of_decide_eq_true zA; have q206 : x6_1 < (l1_0.length : Int) := of_decide_eq_true zA; obtain ⟨ad206, e206, hx206_0⟩ := Kd.at_int HR1_0.out x6_1 p206 q206
        cases e206
        replace hx206_0 := zw HB.out hx206_0; replace p206 := eq_true p206; replace q206 := eq_true q206
        go_wp2
        go_roundg k1
        case measure => have := HK1.out; omega
        case rel => exact ⟨(x5_1), (wrap64 (x6_1 + 1)), (zF), H', ⟨by have := HK1.out; omega⟩, ⟨zR HO_5.out⟩, ⟨zb BK0.out⟩, ⟨zb BK1.out⟩, ⟨zB HB.out⟩⟩
      ·rw [if_neg c11] at H
       exact absurd H (by simp)
    ·rw [if_neg c6] at H
     exact absurd H (by simp)
   ·rw [if_neg c5] at H
    have c5b0 : decide (x6_1 < (l0_1.length : Int)) = false := decide_eq_false c5; clear c5; obtain rfl := Option.some.inj H; have hnb21 := NB0_1.out; have hnc21 := NB1_0.out; have hcz22_0 : wr.cell? ⟨g0, 0, none⟩ = some (.slice A0_0 l0_0.length c0_0) := (blk_cell BK0.out 0).trans rfl; have hcz22_1 : wr.cell? ⟨g0, 1, none⟩ = some (.slice A0_1 l0_1.length c0_1) := (blk_cell BK0.out 1).trans rfl; have hfz22_0 := blk_frozen BK0.out 0; have hfz22_1 := blk_frozen BK0.out 1
    go_wp2
    go_ret
    exact ⟨_, zE, zR HO_5.out, zB HB.out⟩

/-! ### spec_l11Holds: function 74 -/
/-! by hand: spec.l11Holds -/
noncomputable def spec_l11Holds.f (k : Nat) (l0_0 : List S164) (l0_1 : List S115) (l1 : List S113) (l2 : List Int) : Option (List Int × Int × Bool) :=
 (spec_l09Solve.f k l0_0 l0_1 l1 l2).bind fun x => if x.2.2 = true then (spec_l09Pushed.f k l0_0 l0_1 x.1 x.2.1).bind fun p => if 0 < p.length then some ([], 0, false) else some (x.1, x.2.1, true) else some ([], 0, false)
theorem spec_l11Holds.mono : ∀ a0 a1 a2 a3 k, LeO (spec_l11Holds.f k a0 a1 a2 a3) (spec_l11Holds.f (k + 1) a0 a1 a2 a3) := by
 intro a0 a1 a2 a3 k
 unfold spec_l11Holds.f
 exact LeO.bind (spec_l09Solve.mono _ _ _ _ _) (fun _ => LeO.ite (LeO.bind (spec_l09Pushed.mono _ _ _ _ _) (fun _ => LeO.refl _)) (LeO.refl _))
set_option maxHeartbeats 8000000 in
set_option maxRecDepth 100000 in
theorem spec_l11Holds.calls (k : Nat) (g0 : Nat) (A0_0 : Option Addr) (c0_0 : Nat) (l0_0 : List S164) (A0_1 : Option Addr) (c0_1 : Nat) (l0_1 : List S115) (A1 : Option Addr) (c1 : Nat) (l1 : List S113) (A2 : Option Addr) (c2 : Nat) (l2 : List Int) (r1 : List Int) (r2 : Int) (r3 : Bool) (w : World) (hbk0 : w.heap[g0]? = some (.cells #[.slice A0_0 l0_0.length c0_0, .slice A0_1 l0_1.length c0_1] 27 (0, 0))) (hr0_0 : Kd.C k164 w A0_0 l0_0.length l0_0) (hc0_0 : l0_0.length ≤ c0_0) (hr0_1 : Kd.C k115 w A0_1 l0_1.length l0_1) (hc0_1 : l0_1.length ≤ c0_1) (hr1 : Kd.C k113 w A1 l1.length l1) (hc1 : l1.length ≤ c1) (hr2 : Kd.C (Kd.int .i64) w A2 l2.length l2) (hc2 : l2.length ≤ c2) (h : spec_l11Holds.f k l0_0 l0_1 l1 l2 = some (r1, r2, r3)) :
  Calls Try.prog 74 #[.pointer (some ⟨g0, 0, none⟩), .slice A1 l1.length c1, .slice A2 l2.length c2] w fun e w' => ∃ v0_ : Value, e = .returned (.tuple #[.agg #[v0_, .int .i64 r2], .bool r3]) ∧ Kd.R (Kd.int .i64) 2 w' w.heap.size (fun _ => True) v0_ r1 ∧ Below w.heap.size w w' := by
 have hu31 := Try.underlying31
 have hu35 := Try.underlying35
 unfold spec_l11Holds.f at h
 obtain ⟨⟨x1, x2, x3⟩, h0, h⟩ := Option.bind_eq_some_iff.mp h
 have HBK := Aside0.mk hbk0
 have HR0 := Aside0.mk hr0_0
 have HC0 := Aside0.mk hc0_0
 have HR1 := Aside0.mk hr0_1
 have HC1 := Aside0.mk hc0_1
 have HR2 := Aside0.mk hr1
 have HC2 := Aside0.mk hc1
 have HR3 := Aside0.mk hr2
 have HC3 := Aside0.mk hc2
 have H0 := Aside0.mk h0
 clear hbk0 hr0_0 hc0_0 hr0_1 hc0_1 hr1 hc1 hr2 hc2 h0
 cases x3 with
 | false =>
  obtain ⟨rfl, rfl, rfl⟩ : r1 = [] ∧ r2 = 0 ∧ r3 = false := by
   simp at h
   exact ⟨h.1.symm ▸ rfl, h.2.1.symm, h.2.2⟩
  clear h
  go_enter Try.func74, Try.ntmps74
  go_wp2_with (first
   | ((with_reducible refine gate_dst (N := 6) rfl ?_); refine zbx (N := 6) (cs := #[.slice none 0 0, .int .i64 0]) (t := 35) ?_; intro gr hgr w1 hb1 hl1; have HB1 := Aside0.mk hl1; have BR1 := Aside0.mk hb1; have GR := Aside0.mk (show w.heap.size ≤ gr from by rw [hgr]; exact Nat.le_refl _); clear hb1 hl1 hgr)
   | (go_at_call 80; refine (spec_l09Solve.calls k g0 A0_0 c0_0 l0_0 A0_1 c0_1 l0_1 A1 c1 l1 A2 c2 l2 x1 x2 false _ (blk_below HBK.out HB1.out) (Kd.C_below HR0.out HB1.out) HC0.out (Kd.C_below HR1.out HB1.out) HC1.out (Kd.C_below HR2.out HB1.out) HC2.out (Kd.C_below HR3.out HB1.out) HC3.out H0.out).mono ?_; rintro e w2 ⟨v2, rfl, ho2, hb2⟩; obtain ⟨Ax, cx, ev2⟩ := Kd.R_slice ho2; subst ev2; have HO2 := Aside0.mk ho2; have HB2 := Aside0.mk (below_step HB1.out hb2); have BR2 := Aside0.mk (blk_below BR1.out hb2); have H12 := Aside0.mk (show w1.heap.size ≤ w2.heap.size ∧ gr < w1.heap.size from ⟨below_size hb2, blk_lt BR1.out⟩); clear ho2 hb2)
   | ((with_reducible refine gate_dst (N := 8) rfl ?_); refine zbx (N := 8) (cs := #[.slice none 0 0, .int .i64 0]) (t := 35) ?_; intro gx hgx w3 hb3 hl3; have GX := Aside0.mk (show w.heap.size ≤ gx ∧ gr ≠ gx from by have := H12.out; rw [hgx]; exact ⟨below_size HB2.out, by omega⟩); have HO3 := Aside0.mk (Kd.R_below (R_tell (ok' := fun k => k ≠ gr ∧ k ≠ gx) rfl HO2.out (fun k e h_ hb_ hl_ => ⟨by have := H12.out; omega, by rw [hgx]; exact Nat.ne_of_lt hl_⟩)) hl3); have HB3 := Aside0.mk (below_step HB2.out hl3); have BR3 := Aside0.mk (blk_below BR2.out hl3); have BX3 := Aside0.mk hb3; have cx0 : w3.cell? ⟨gx, 0, none⟩ = some (.slice none 0 0) := (blk_cell hb3 0).trans rfl; have cx1 : w3.cell? ⟨gx, 1, none⟩ = some (.int .i64 0) := (blk_cell hb3 1).trans rfl; have fx0 := blk_frozen hb3 0; have fx1 := blk_frozen hb3 1; clear hb3 hl3 hgx)
   | ((with_reducible refine gate_store (t := 35) (p := 8) rfl ?_); refine store_event (t := 35) (p := 8) (v := ?vo_w4) (w1 := (w3.setCell ⟨gx, 0, none⟩ (.slice Ax x1.length cx)).setCell ⟨gx, 1, none⟩ (.int .i64 x2)) ?hg ?ho ?hn ?hr ?_; (case ho => rfl); (case hg => rfl); (case hn => rfl); (case hr => first | (go_simp; done) | (go_simp; rfl)); intro w4 hw4; have BX4 := Aside0.mk (show w4.heap[gx]? = some (.cells #[.slice Ax x1.length cx, .int .i64 x2] 35 (0, 0)) from by rw [hw4]; exact blk_put (cs := #[.slice Ax x1.length cx, .int .i64 0]) (blk_put (cs := #[.slice none 0 0, .int .i64 0]) BX3.out 0 _ rfl) 1 _ rfl); have BR4 := Aside0.mk (show w4.heap[gr]? = some (.cells #[.slice none 0 0, .int .i64 0] 35 (0, 0)) from by rw [hw4]; exact (Below.heap_setCell _ ⟨gx, 1, none⟩ _ gr GX.out.2).trans ((Below.heap_setCell _ ⟨gx, 0, none⟩ _ gr GX.out.2).trans BR3.out)); have HO4 := Aside0.mk (show Kd.R (Kd.int .i64) 2 w4 w1.heap.size (fun k => k ≠ gr ∧ k ≠ gx) (.slice Ax x1.length cx) x1 from by rw [hw4]; exact Kd.R_far (p := ⟨gx, 1, none⟩) (Kd.R_far (p := ⟨gx, 0, none⟩) HO3.out (fun _ hk => hk.2) _) (fun _ hk => hk.2) _); have HB4 := Aside0.mk (show Below w.heap.size w w4 from by rw [hw4]; exact below_set (below_set HB3.out GX.out.1) GX.out.1); clear hw4 cx0 cx1 fx0 fx1; have cr0 : w4.cell? ⟨gr, 0, none⟩ = some (.slice none 0 0) := (blk_cell BR4.out 0).trans rfl; have cr1 : w4.cell? ⟨gr, 1, none⟩ = some (.int .i64 0) := (blk_cell BR4.out 1).trans rfl; have fr0 := blk_frozen BR4.out 0; have fr1 := blk_frozen BR4.out 1))
  refine bodyPost_ret (results_ct rfl _ _ gr 35 #[.slice none 0 0, .int .i64 0] (0, 0) _ rfl (by refine zb ?_; refine blk_put (cs := #[.slice none 0 0, .int .i64 0]) ?_ 1 _ rfl; refine blk_put (cs := #[.slice none 0 0, .int .i64 0]) ?_ 0 _ rfl; refine zb ?_; exact BR4.out) Try.underlying35 rfl (by kernel_rfl)) rfl ?_
  exact ⟨_, by first | rfl | (simp; done), Kd.R_nil _ _ _ _ _, by repeat (first | (with_reducible first | exact HB4.out | apply pw_below_drewN | apply below_drew1 | refine below_set ?_ GR.out) | exact HB4.out)⟩
 | true =>
  simp only [if_true] at h
  obtain ⟨p, hp, h⟩ := Option.bind_eq_some_iff.mp h; have HP := Aside0.mk hp; clear hp
  by_cases hpl : 0 < p.length
  ·rw [if_pos hpl] at h
   simp only [Option.some.injEq, Prod.mk.injEq] at h
   obtain ⟨rfl, rfl, rfl⟩ := h; have hpb : decide ((p.length : Int) > 0) = true := decide_eq_true (by omega); have hpb2 : decide (0 < (p.length : Int)) = true := decide_eq_true (by omega); have hpb3 : decide (0 < p.length) = true := decide_eq_true hpl
   go_enter Try.func74, Try.ntmps74
   go_wp2_with (first
    | ((with_reducible refine gate_dst (N := 6) rfl ?_); refine zbx (N := 6) (cs := #[.slice none 0 0, .int .i64 0]) (t := 35) ?_; intro gr hgr w1 hb1 hl1; have HB1 := Aside0.mk hl1; have BR1 := Aside0.mk hb1; have GR := Aside0.mk (show w.heap.size ≤ gr from by rw [hgr]; exact Nat.le_refl _); clear hb1 hl1 hgr)
    | (go_at_call 80; refine (spec_l09Solve.calls k g0 A0_0 c0_0 l0_0 A0_1 c0_1 l0_1 A1 c1 l1 A2 c2 l2 x1 x2 true _ (blk_below HBK.out HB1.out) (Kd.C_below HR0.out HB1.out) HC0.out (Kd.C_below HR1.out HB1.out) HC1.out (Kd.C_below HR2.out HB1.out) HC2.out (Kd.C_below HR3.out HB1.out) HC3.out H0.out).mono ?_; rintro e w2 ⟨v2, rfl, ho2, hb2⟩; obtain ⟨Ax, cx, ev2⟩ := Kd.R_slice ho2; subst ev2; have HO2 := Aside0.mk ho2; have HB2 := Aside0.mk (below_step HB1.out hb2); have BR2 := Aside0.mk (blk_below BR1.out hb2); have H12 := Aside0.mk (show w1.heap.size ≤ w2.heap.size ∧ gr < w1.heap.size from ⟨below_size hb2, blk_lt BR1.out⟩); clear ho2 hb2)
    | ((with_reducible refine gate_dst (N := 8) rfl ?_); refine zbx (N := 8) (cs := #[.slice none 0 0, .int .i64 0]) (t := 35) ?_; intro gx hgx w3 hb3 hl3; have GX := Aside0.mk (show w.heap.size ≤ gx ∧ gr ≠ gx from by have := H12.out; rw [hgx]; exact ⟨below_size HB2.out, by omega⟩); have HO3 := Aside0.mk (Kd.R_below (R_tell (ok' := fun k => k ≠ gr ∧ k ≠ gx) rfl HO2.out (fun k e h_ hb_ hl_ => ⟨by have := H12.out; omega, by rw [hgx]; exact Nat.ne_of_lt hl_⟩)) hl3); have HB3 := Aside0.mk (below_step HB2.out hl3); have BR3 := Aside0.mk (blk_below BR2.out hl3); have BX3 := Aside0.mk hb3; have cx0 : w3.cell? ⟨gx, 0, none⟩ = some (.slice none 0 0) := (blk_cell hb3 0).trans rfl; have cx1 : w3.cell? ⟨gx, 1, none⟩ = some (.int .i64 0) := (blk_cell hb3 1).trans rfl; have fx0 := blk_frozen hb3 0; have fx1 := blk_frozen hb3 1; clear hb3 hl3 hgx)
    | ((with_reducible refine gate_store (t := 35) (p := 8) rfl ?_); refine store_event (t := 35) (p := 8) (v := ?vo_w4) (w1 := (w3.setCell ⟨gx, 0, none⟩ (.slice Ax x1.length cx)).setCell ⟨gx, 1, none⟩ (.int .i64 x2)) ?hg ?ho ?hn ?hr ?_; (case ho => rfl); (case hg => rfl); (case hn => rfl); (case hr => first | (go_simp; done) | (go_simp; rfl)); intro w4 hw4; have BX4 := Aside0.mk (show w4.heap[gx]? = some (.cells #[.slice Ax x1.length cx, .int .i64 x2] 35 (0, 0)) from by rw [hw4]; exact blk_put (cs := #[.slice Ax x1.length cx, .int .i64 0]) (blk_put (cs := #[.slice none 0 0, .int .i64 0]) BX3.out 0 _ rfl) 1 _ rfl); have BR4 := Aside0.mk (show w4.heap[gr]? = some (.cells #[.slice none 0 0, .int .i64 0] 35 (0, 0)) from by rw [hw4]; exact (Below.heap_setCell _ ⟨gx, 1, none⟩ _ gr GX.out.2).trans ((Below.heap_setCell _ ⟨gx, 0, none⟩ _ gr GX.out.2).trans BR3.out)); have HO4 := Aside0.mk (show Kd.R (Kd.int .i64) 2 w4 w1.heap.size (fun k => k ≠ gr ∧ k ≠ gx) (.slice Ax x1.length cx) x1 from by rw [hw4]; exact Kd.R_far (p := ⟨gx, 1, none⟩) (Kd.R_far (p := ⟨gx, 0, none⟩) HO3.out (fun _ hk => hk.2) _) (fun _ hk => hk.2) _); have HB4 := Aside0.mk (show Below w.heap.size w w4 from by rw [hw4]; exact below_set (below_set HB3.out GX.out.1) GX.out.1); clear hw4 cx0 cx1 fx0 fx1; have cr0 : w4.cell? ⟨gr, 0, none⟩ = some (.slice none 0 0) := (blk_cell BR4.out 0).trans rfl; have cr1 : w4.cell? ⟨gr, 1, none⟩ = some (.int .i64 0) := (blk_cell BR4.out 1).trans rfl; have fr0 := blk_frozen BR4.out 0; have fr1 := blk_frozen BR4.out 1)
    | ((with_reducible refine gate_callee (f := 81) rfl ?_); (try (refine gate_guard (by rfl) ?_; dsimp only)); refine goesL_ (some 21) rfl rfl Try.func81 (by kernel_rfl) rfl #[.pointer (some ⟨g0, 0, none⟩), .pointer (some ⟨gx, 0, none⟩)] rfl (by (try simp only [List.map_toArray, List.map_cons, List.map_nil]); first | done | rfl) ?_; (with_reducible refine (spec_l09Pushed.calls k g0 A0_0 c0_0 l0_0 A0_1 c0_1 l0_1 gx Ax cx x1 x2 p _ (blk_below HBK.out HB4.out) BX4.out (Kd.C_below HR0.out HB4.out) HC0.out (Kd.C_below HR1.out HB4.out) HC1.out (Kd.R_reads' HO4.out).2.2 (Kd.R_reads' HO4.out).2.1 HP.out).mono ?_); rintro e w5 ⟨v5, rfl, ho5, hb5⟩; refine ⟨_, rfl, ?_⟩; obtain ⟨Ap, cp, ev5⟩ := Kd.R_slice ho5; subst ev5; have HB5 := Aside0.mk (below_step HB4.out hb5); have BR5 := Aside0.mk (blk_below BR4.out hb5); have BX5 := Aside0.mk (blk_below BX4.out hb5); have HO5 := Aside0.mk (Kd.R_below HO4.out hb5); have cr0 : w5.cell? ⟨gr, 0, none⟩ = some (.slice none 0 0) := (blk_cell BR5.out 0).trans rfl; have cr1 : w5.cell? ⟨gr, 1, none⟩ = some (.int .i64 0) := (blk_cell BR5.out 1).trans rfl; have fr0 := blk_frozen BR5.out 0; have fr1 := blk_frozen BR5.out 1; have cx0 : w5.cell? ⟨gx, 0, none⟩ = some (.slice Ax x1.length cx) := (blk_cell BX5.out 0).trans rfl; have cx1 : w5.cell? ⟨gx, 1, none⟩ = some (.int .i64 x2) := (blk_cell BX5.out 1).trans rfl; clear ho5 hb5))
   refine bodyPost_ret (results_ct rfl _ _ gr 35 #[.slice none 0 0, .int .i64 0] (0, 0) _ rfl (by refine zb ?_; refine blk_put (cs := #[.slice none 0 0, .int .i64 0]) ?_ 1 _ rfl; refine blk_put (cs := #[.slice none 0 0, .int .i64 0]) ?_ 0 _ rfl; refine zb ?_; exact BR5.out) Try.underlying35 rfl (by kernel_rfl)) rfl ?_
   exact ⟨_, by first | rfl | (simp; done), Kd.R_nil _ _ _ _ _, by repeat (first | (with_reducible first | exact HB5.out | apply pw_below_drewN | apply below_drew1 | refine below_set ?_ GR.out) | exact HB5.out)⟩
  ·rw [if_neg hpl] at h
   simp only [Option.some.injEq, Prod.mk.injEq] at h
   obtain ⟨rfl, rfl, rfl⟩ := h; have hpb : decide ((p.length : Int) > 0) = false := decide_eq_false (by omega); have hpb2 : decide (0 < (p.length : Int)) = false := decide_eq_false (by omega); have hpb3 : decide (0 < p.length) = false := decide_eq_false hpl
   go_enter Try.func74, Try.ntmps74
   go_wp2_with (first
    | ((with_reducible refine gate_dst (N := 6) rfl ?_); refine zbx (N := 6) (cs := #[.slice none 0 0, .int .i64 0]) (t := 35) ?_; intro gr hgr w1 hb1 hl1; have HB1 := Aside0.mk hl1; have BR1 := Aside0.mk hb1; have GR := Aside0.mk (show w.heap.size ≤ gr from by rw [hgr]; exact Nat.le_refl _); clear hb1 hl1 hgr)
    | (go_at_call 80; refine (spec_l09Solve.calls k g0 A0_0 c0_0 l0_0 A0_1 c0_1 l0_1 A1 c1 l1 A2 c2 l2 x1 x2 true _ (blk_below HBK.out HB1.out) (Kd.C_below HR0.out HB1.out) HC0.out (Kd.C_below HR1.out HB1.out) HC1.out (Kd.C_below HR2.out HB1.out) HC2.out (Kd.C_below HR3.out HB1.out) HC3.out H0.out).mono ?_; rintro e w2 ⟨v2, rfl, ho2, hb2⟩; obtain ⟨Ax, cx, ev2⟩ := Kd.R_slice ho2; subst ev2; have HO2 := Aside0.mk ho2; have HB2 := Aside0.mk (below_step HB1.out hb2); have BR2 := Aside0.mk (blk_below BR1.out hb2); have H12 := Aside0.mk (show w1.heap.size ≤ w2.heap.size ∧ gr < w1.heap.size from ⟨below_size hb2, blk_lt BR1.out⟩); clear ho2 hb2)
    | ((with_reducible refine gate_dst (N := 8) rfl ?_); refine zbx (N := 8) (cs := #[.slice none 0 0, .int .i64 0]) (t := 35) ?_; intro gx hgx w3 hb3 hl3; have GX := Aside0.mk (show w.heap.size ≤ gx ∧ gr ≠ gx from by have := H12.out; rw [hgx]; exact ⟨below_size HB2.out, by omega⟩); have HO3 := Aside0.mk (Kd.R_below (R_tell (ok' := fun k => k ≠ gr ∧ k ≠ gx) rfl HO2.out (fun k e h_ hb_ hl_ => ⟨by have := H12.out; omega, by rw [hgx]; exact Nat.ne_of_lt hl_⟩)) hl3); have HB3 := Aside0.mk (below_step HB2.out hl3); have BR3 := Aside0.mk (blk_below BR2.out hl3); have BX3 := Aside0.mk hb3; have cx0 : w3.cell? ⟨gx, 0, none⟩ = some (.slice none 0 0) := (blk_cell hb3 0).trans rfl; have cx1 : w3.cell? ⟨gx, 1, none⟩ = some (.int .i64 0) := (blk_cell hb3 1).trans rfl; have fx0 := blk_frozen hb3 0; have fx1 := blk_frozen hb3 1; clear hb3 hl3 hgx)
    | ((with_reducible refine gate_store (t := 35) (p := 8) rfl ?_); refine store_event (t := 35) (p := 8) (v := ?vo_w4) (w1 := (w3.setCell ⟨gx, 0, none⟩ (.slice Ax x1.length cx)).setCell ⟨gx, 1, none⟩ (.int .i64 x2)) ?hg ?ho ?hn ?hr ?_; (case ho => rfl); (case hg => rfl); (case hn => rfl); (case hr => first | (go_simp; done) | (go_simp; rfl)); intro w4 hw4; have BX4 := Aside0.mk (show w4.heap[gx]? = some (.cells #[.slice Ax x1.length cx, .int .i64 x2] 35 (0, 0)) from by rw [hw4]; exact blk_put (cs := #[.slice Ax x1.length cx, .int .i64 0]) (blk_put (cs := #[.slice none 0 0, .int .i64 0]) BX3.out 0 _ rfl) 1 _ rfl); have BR4 := Aside0.mk (show w4.heap[gr]? = some (.cells #[.slice none 0 0, .int .i64 0] 35 (0, 0)) from by rw [hw4]; exact (Below.heap_setCell _ ⟨gx, 1, none⟩ _ gr GX.out.2).trans ((Below.heap_setCell _ ⟨gx, 0, none⟩ _ gr GX.out.2).trans BR3.out)); have HO4 := Aside0.mk (show Kd.R (Kd.int .i64) 2 w4 w1.heap.size (fun k => k ≠ gr ∧ k ≠ gx) (.slice Ax x1.length cx) x1 from by rw [hw4]; exact Kd.R_far (p := ⟨gx, 1, none⟩) (Kd.R_far (p := ⟨gx, 0, none⟩) HO3.out (fun _ hk => hk.2) _) (fun _ hk => hk.2) _); have HB4 := Aside0.mk (show Below w.heap.size w w4 from by rw [hw4]; exact below_set (below_set HB3.out GX.out.1) GX.out.1); clear hw4 cx0 cx1 fx0 fx1; have cr0 : w4.cell? ⟨gr, 0, none⟩ = some (.slice none 0 0) := (blk_cell BR4.out 0).trans rfl; have cr1 : w4.cell? ⟨gr, 1, none⟩ = some (.int .i64 0) := (blk_cell BR4.out 1).trans rfl; have fr0 := blk_frozen BR4.out 0; have fr1 := blk_frozen BR4.out 1)
    | ((with_reducible refine gate_callee (f := 81) rfl ?_); (try (refine gate_guard (by rfl) ?_; dsimp only)); refine goesL_ (some 21) rfl rfl Try.func81 (by kernel_rfl) rfl #[.pointer (some ⟨g0, 0, none⟩), .pointer (some ⟨gx, 0, none⟩)] rfl (by (try simp only [List.map_toArray, List.map_cons, List.map_nil]); first | done | rfl) ?_; (with_reducible refine (spec_l09Pushed.calls k g0 A0_0 c0_0 l0_0 A0_1 c0_1 l0_1 gx Ax cx x1 x2 p _ (blk_below HBK.out HB4.out) BX4.out (Kd.C_below HR0.out HB4.out) HC0.out (Kd.C_below HR1.out HB4.out) HC1.out (Kd.R_reads' HO4.out).2.2 (Kd.R_reads' HO4.out).2.1 HP.out).mono ?_); rintro e w5 ⟨v5, rfl, ho5, hb5⟩; refine ⟨_, rfl, ?_⟩; obtain ⟨Ap, cp, ev5⟩ := Kd.R_slice ho5; subst ev5; have HB5 := Aside0.mk (below_step HB4.out hb5); have BR5 := Aside0.mk (blk_below BR4.out hb5); have BX5 := Aside0.mk (blk_below BX4.out hb5); have HO5 := Aside0.mk (Kd.R_below HO4.out hb5); have cr0 : w5.cell? ⟨gr, 0, none⟩ = some (.slice none 0 0) := (blk_cell BR5.out 0).trans rfl; have cr1 : w5.cell? ⟨gr, 1, none⟩ = some (.int .i64 0) := (blk_cell BR5.out 1).trans rfl; have fr0 := blk_frozen BR5.out 0; have fr1 := blk_frozen BR5.out 1; have cx0 : w5.cell? ⟨gx, 0, none⟩ = some (.slice Ax x1.length cx) := (blk_cell BX5.out 0).trans rfl; have cx1 : w5.cell? ⟨gx, 1, none⟩ = some (.int .i64 x2) := (blk_cell BX5.out 1).trans rfl; clear ho5 hb5))
   refine bodyPost_ret (results_ct rfl _ _ gr 35 #[.slice Ax x1.length cx, .int .i64 x2] (0, 0) _ rfl (by refine zb ?_; refine blk_put (cs := #[.slice Ax x1.length cx, .int .i64 0]) ?_ 1 _ rfl; refine blk_put (cs := #[.slice none 0 0, .int .i64 0]) ?_ 0 _ rfl; refine zb ?_; exact BR5.out) Try.underlying35 rfl (by kernel_rfl)) rfl ?_
   exact ⟨_, by first | rfl | (simp; done), by (with_reducible repeat (first | apply Kd.R_alloc | apply Kd.R_drewN | apply Kd.R_drew)); exact Kd.R_lower (Kd.R_mono (Kd.R_far (p := ⟨gr, 1, none⟩) (Kd.R_far (p := ⟨gr, 0, none⟩) HO5.out (fun _ hk => hk.1) _) (fun _ hk => hk.1) _) (fun _ _ => trivial)) (below_size HB1.out), by repeat (first | (with_reducible first | exact HB5.out | apply pw_below_drewN | apply below_drew1 | refine below_set ?_ GR.out) | exact HB5.out)⟩

/-! ### spec_l11Part: function 111 -/
def spec_l11Part.l0 : Nat → List Int → Int → List Int → Int → Option (List Int)
 | 0, _, _, _, _ => none
 | k + 1, x0, x1, x5, x6 => if x6 < (x0.length : Int) then (if 0 ≤ (IntKind.u64.wrap (x6)) then (if (Go.bits .and .i64 (shr .i64 x1 (IntKind.u64.wrap (x6))) 1) = 1 then (if 0 ≤ x6 then (if x5.length < 17592186044416 then (spec_l11Part.l0 k x0 x1 (x5 ++ [rd x0 x6]) (wrap64 (x6 + 1))) else (none)) else (none)) else (spec_l11Part.l0 k x0 x1 x5 (wrap64 (x6 + 1)))) else (none)) else (some x5)
def spec_l11Part.f (k : Nat) (l0 : List Int) (a1 : Int) : Option (List Int) := spec_l11Part.l0 k l0 a1 (([] : List Int)) 0
theorem spec_l11Part.mono_l : ∀ k, (∀ y0 y1 y2 y3, LeO (spec_l11Part.l0 k y0 y1 y2 y3) (spec_l11Part.l0 (k + 1) y0 y1 y2 y3))
 | 0 => fun _ _ _ _ r h => by simp [spec_l11Part.l0] at h
 | k + 1 => by
  have ih0 := spec_l11Part.mono_l k
  ·intro y0 y1 y2 y3
   unfold spec_l11Part.l0
   repeat' first
   | (with_reducible exact ih0 _ _ _ _)
   | (with_reducible exact LeO.refl _)
   | (with_reducible exact LeO.none _)
   | (with_reducible refine LeO.ite ?_ ?_)
   | (with_reducible refine LeO.bind ?_ (fun _ => ?_))
   | exact ih0 _ _ _ _
   | exact LeO.none _
   | refine LeO.ite ?_ ?_
   | refine LeO.bind ?_ (fun _ => ?_)
theorem spec_l11Part.mono : ∀ a0 a1 k, LeO (spec_l11Part.f k a0 a1) (spec_l11Part.f (k + 1) a0 a1) := by
 intro a0 a1 k
 have ih0 := spec_l11Part.mono_l k
 unfold spec_l11Part.f
 repeat' first
   | (with_reducible exact ih0 _ _ _ _)
   | (with_reducible exact LeO.refl _)
   | (with_reducible exact LeO.none _)
   | (with_reducible refine LeO.ite ?_ ?_)
   | (with_reducible refine LeO.bind ?_ (fun _ => ?_))
   | exact ih0 _ _ _ _
   | exact LeO.none _
   | refine LeO.ite ?_ ?_
   | refine LeO.bind ?_ (fun _ => ?_)
set_option maxHeartbeats 8000000 in
set_option maxRecDepth 100000 in
theorem spec_l11Part.calls (k : Nat) (A0 : Option Addr) (c0 : Nat) (l0 : List Int) (a1 : Int) (r : List Int) (w : World) (hr0 : Kd.C (Kd.int .i64) w A0 l0.length l0) (hc0 : l0.length ≤ c0) (h : spec_l11Part.f k l0 a1 = some r) :
  Calls Try.prog 111 #[.slice A0 l0.length c0, .int .i64 a1] w fun e w' => ∃ v0_ : Value, e = .returned (v0_) ∧ Kd.R (Kd.int .i64) 2 w' w.heap.size (fun _ => True) v0_ r ∧ Below w.heap.size w w' := by
 have HR0 := Aside0.mk hr0
 have HC0 := Aside0.mk hc0
 clear hr0 hc0
 have HB := Aside0.mk (Below.refl w.heap.size w)
 have H : (spec_l11Part.l0 k l0 a1 (([] : List Int)) 0) = some r := h
 clear h
 obtain ⟨y210, hy210⟩ : ∃ y_ : List Int, y_ = (([] : List Int)) := ⟨_, rfl⟩
 replace H : (spec_l11Part.l0 k l0 a1 y210 0) = some r := by first | (rw [hy210]; with_reducible exact H) | (have H2_ := (Option.bind_some _ _).symm.trans H; rw [hy210]; with_reducible exact H2_) | (have H2_ := (Option.bind_some _ _).symm.trans H; with_reducible exact H2_) | with_reducible exact H | (rw [hy210]; exact H) | exact H
 have Ny210 := Aside0.mk hy210
 clear hy210
 have H' := Aside0.mk H
 clear H
 go_enter Try.func111, Try.ntmps111
 go_wp2_with (first | ((with_reducible refine gate_dst (N := 7) rfl ?_); refine Kd.R_lit (Kd.int .i64) _ 2 ?hg (N := 7) ?hd (xs := ([] : List Int)) (inner := []) (ok := fun _ => True) (okp := fun _ => True) ?hr ?hp (fun _ hk => hk) trivial (Below.refl _ _) (Nat.le_refl _) (by simp) ?_; (case hd => rfl); (case hg => rfl); (case hr => first | (go_simp; done) | (go_simp; rfl)); (case hp => exact (Reps.none _ _)); intro v211 w3 ho4 hb hg_ hnew_; clear hg_ hnew_; (first | rw [← Ny210.out] at ho4 | (simp only [Int.reduceToNat] at ho4; rw [← Ny210.out] at ho4)); have n0_ := Aside0.mk (Kd.R_lower ho4 (below_size (zB HB.out))); have n1_ := Aside0.mk (below_step (zB HB.out) hb); clear HB; have HO212 := n0_; have HB := n1_; clear n0_ n1_; clear hb ho4))
 go_loopg [5, 6] k (fun kq v5 v6 w' => ∃ (x5_1 : List Int) (x6_1 : Int), v6 = .int .i64 x6_1 ∧ Aside0 (spec_l11Part.l0 kq l0 a1 x5_1 x6_1 = some r) ∧ Aside0 (kq ≤ k) ∧ Aside0 (Kd.R (Kd.int .i64) 2 w' w.heap.size (fun _ => True) v5 x5_1) ∧ Aside0 (Below w.heap.size w w'))
 case atStart => exact ⟨(y210), (0), (zF), H', ⟨Nat.le_refl _⟩, ⟨zR HO212.out⟩, ⟨zB HB.out⟩⟩
 case round =>
  clear H'; (try clear c1); (try clear p2); obtain ⟨x5_1, x6_1, rfl, HA, HK1, HO_5, HB⟩ := hrel
  cases gk with
  | zero => exact absurd HA.out (by simp [spec_l11Part.l0])
  | succ k1 =>
   have H := HA.out; clear HA
   simp only [spec_l11Part.l0] at H
   by_cases c5 : x6_1 < (l0.length : Int)
   ·rw [if_pos c5] at H
    have c5b0 : decide (x6_1 < (l0.length : Int)) = true := decide_eq_true c5; clear c5; obtain ⟨ji6, hji6⟩ : ∃ j_ : Int, (IntKind.u64.wrap (x6_1)) = j_ := ⟨_, rfl⟩
    replace H : (if 0 ≤ (ji6) then (if (Go.bits .and .i64 (shr .i64 a1 (ji6)) 1) = 1 then (if 0 ≤ x6_1 then (if x5_1.length < 17592186044416 then (spec_l11Part.l0 k1 l0 a1 (x5_1 ++ [rd l0 x6_1]) (wrap64 (x6_1 + 1))) else (none)) else (none)) else (spec_l11Part.l0 k1 l0 a1 x5_1 (wrap64 (x6_1 + 1)))) else (none)) = some r := by first | (rw [hji6] at H; exact H) | (simp only [hji6] at H ⊢; exact H)
    by_cases c7 : 0 ≤ (ji6)
    ·rw [if_pos c7] at H
     have c7b0 := eq_true c7; have c7b1 : decide (0 ≤ (ji6)) = true := decide_eq_true c7; clear c7; obtain ⟨ji8, hji8⟩ : ∃ j_ : Int, (shr .i64 a1 (ji6)) = j_ := ⟨_, rfl⟩
     replace H : (if (Go.bits .and .i64 (ji8) 1) = 1 then (if 0 ≤ x6_1 then (if x5_1.length < 17592186044416 then (spec_l11Part.l0 k1 l0 a1 (x5_1 ++ [rd l0 x6_1]) (wrap64 (x6_1 + 1))) else (none)) else (none)) else (spec_l11Part.l0 k1 l0 a1 x5_1 (wrap64 (x6_1 + 1)))) = some r := by first | (rw [hji8] at H; exact H) | (simp only [hji8] at H ⊢; exact H)
     have hji8_ : (a1 / 2 ^ min (ji6).toNat 64) = ji8 := hji8; have hji8z : (ji6) ≤ 64 → (a1 / 2 ^ (ji6).toNat) = ji8 := shr_small hji8
     by_cases c9 : (Go.bits .and .i64 (ji8) 1) = 1
     ·rw [if_pos c9] at H
      have c9b0 : ((Go.bits .and .i64 (ji8) 1) == 1) = true := beq_iff_eq.mpr c9; have c9b1 : ((Go.bits .and .i64 (ji8) 1) != 1) = false := bne_eq_false_iff_eq.mpr c9; clear c9
      by_cases c10 : 0 ≤ x6_1
      ·rw [if_pos c10] at H
       have c10b0 : decide (0 ≤ x6_1) = true := decide_eq_true c10; clear c10
       by_cases c11 : x5_1.length < 17592186044416
       ·rw [if_pos c11] at H
        have LMc11 := Aside0.mk c11; clear c11; obtain ⟨y214, hy214⟩ : ∃ y_ : List Int, y_ = (x5_1 ++ [rd l0 x6_1]) := ⟨_, rfl⟩
        replace H : (spec_l11Part.l0 k1 l0 a1 y214 (wrap64 (x6_1 + 1))) = some r := by first | (rw [hy214]; with_reducible exact H) | (have H2_ := (Option.bind_some _ _).symm.trans H; rw [hy214]; with_reducible exact H2_) | (have H2_ := (Option.bind_some _ _).symm.trans H; with_reducible exact H2_) | with_reducible exact H | (rw [hy214]; exact H) | exact H
        have Ny214 := Aside0.mk hy214; clear hy214; have H' := Aside0.mk H; clear H; have p213 : 0 ≤ (x6_1 : Int) := of_decide_eq_true zA; have q213 : x6_1 < (l0.length : Int) := of_decide_eq_true zA; obtain ⟨ad213, e213, hx213_0⟩ := Kd.at_int HR0.out x6_1 p213 q213
        cases e213
        replace hx213_0 := zw HB.out hx213_0; replace p213 := eq_true p213; replace q213 := eq_true q213
        go_wp2_with (first | ((with_reducible refine gate_builtin (b := .append) (xs := #[.tmp 20, .tmp 25]) rfl ?_); at_builtin; refine Kd.R_append (Kd.int .i64) (w0 := w) w.heap.size rfl (.tmp 20) (.tmp 25) 31 2 (.int .i64 0) 8 rfl Try.underlying31 info2 rfl (by decide) (by omega) u5 x5_1 (rd l0 x6_1) [.int .i64 (rd l0 x6_1)] (fun _ => True) (fun _ => False) rfl rfl ?aP (fun _ hk => hk.elim) ?aF ?aO ?aB ?aS ?aL ?_; (case aP => exact rfl); (case aB => exact (zB HB.out)); (case aF => exact (fun _ _ => trivial)); (case aO => exact (zR HO_5.out)); (case aS => exact (below_size (zB HB.out))); (case aL => have := LMc11.out; omega); intro v215 w12 ho hb hg hat; rw [← Ny214.out] at ho; have n0_ := Aside0.mk (hb); have n1_ := Aside0.mk (ho); clear HB; clear HO_5; have HB := n0_; have HO216 := n1_; clear n0_ n1_; clear ho hb hg hat))
        go_roundg k1
        case measure => have := HK1.out; omega
        case rel => exact ⟨(y214), (wrap64 (x6_1 + 1)), (zF), H', ⟨by have := HK1.out; omega⟩, ⟨zR HO216.out⟩, ⟨zB HB.out⟩⟩
       ·rw [if_neg c11] at H
        exact absurd H (by simp)
      ·rw [if_neg c10] at H
       exact absurd H (by simp)
     ·rw [if_neg c9] at H
      have c9b0 : ((Go.bits .and .i64 (ji8) 1) == 1) = false := beq_eq_false_iff_ne.mpr c9; have c9b1 : ((Go.bits .and .i64 (ji8) 1) != 1) = true := bne_iff_ne.mpr c9; have H' := Aside0.mk H; clear H
      go_wp2
      go_roundg k1
      case measure => have := HK1.out; omega
      case rel => exact ⟨(x5_1), (wrap64 (x6_1 + 1)), (zF), H', ⟨by have := HK1.out; omega⟩, ⟨zR HO_5.out⟩, ⟨zB HB.out⟩⟩
    ·rw [if_neg c7] at H
     exact absurd H (by simp)
   ·rw [if_neg c5] at H
    have c5b0 : decide (x6_1 < (l0.length : Int)) = false := decide_eq_false c5; clear c5; obtain rfl := Option.some.inj H
    go_wp2
    go_ret
    exact ⟨_, zE, zR HO_5.out, zB HB.out⟩

/-! ### spec_l11Can: function 83 -/
def spec_l11Can.l0 : Nat → List (S113) → List Int → Int → List (S164) → List (S115) → Option (Bool)
 | 0, _, _, _, _, _ => none
 | k + 1, x1, x2, x7, x1000, x1001 => if 0 ≤ (IntKind.u64.wrap ((x2.length : Int))) then (if x7 < (shl .i64 1 (IntKind.u64.wrap ((x2.length : Int)))) then ((spec_l11Part.f k x2 x7).bind fun t217 => ((spec_l11Holds.f k x1000 x1001 x1 t217).bind fun bt220 => (if bt220.2.2 = true then (some true) else (spec_l11Can.l0 k x1 x2 (wrap64 (x7 + 1)) x1000 x1001)))) else (some false)) else (none)
def spec_l11Can.f (k : Nat) (l0_0 : List (S164)) (l0_1 : List (S115)) (l1 : List (S113)) (l2 : List Int) : Option (Bool) := spec_l11Can.l0 k l1 l2 0 l0_0 l0_1
theorem spec_l11Can.mono_l : ∀ k, (∀ y0 y1 y2 y3 y4, LeO (spec_l11Can.l0 k y0 y1 y2 y3 y4) (spec_l11Can.l0 (k + 1) y0 y1 y2 y3 y4))
 | 0 => fun _ _ _ _ _ r h => by simp [spec_l11Can.l0] at h
 | k + 1 => by
  have ih0 := spec_l11Can.mono_l k
  ·intro y0 y1 y2 y3 y4
   unfold spec_l11Can.l0
   repeat' first
   | (with_reducible exact ih0 _ _ _ _ _)
   | (with_reducible exact spec_l11Holds.mono _ _ _ _ _)
   | (with_reducible exact spec_l11Part.mono _ _ _)
   | (with_reducible exact LeO.refl _)
   | (with_reducible exact LeO.none _)
   | (with_reducible refine LeO.ite ?_ ?_)
   | (with_reducible refine LeO.bind ?_ (fun _ => ?_))
   | exact ih0 _ _ _ _ _
   | exact spec_l11Holds.mono _ _ _ _ _
   | exact spec_l11Part.mono _ _ _
   | exact LeO.none _
   | refine LeO.ite ?_ ?_
   | refine LeO.bind ?_ (fun _ => ?_)
theorem spec_l11Can.mono : ∀ a0 a1 a2 a3 k, LeO (spec_l11Can.f k a0 a1 a2 a3) (spec_l11Can.f (k + 1) a0 a1 a2 a3) := by
 intro a0 a1 a2 a3 k
 have ih0 := spec_l11Can.mono_l k
 unfold spec_l11Can.f
 repeat' first
   | (with_reducible exact ih0 _ _ _ _ _)
   | (with_reducible exact spec_l11Holds.mono _ _ _ _ _)
   | (with_reducible exact spec_l11Part.mono _ _ _)
   | (with_reducible exact LeO.refl _)
   | (with_reducible exact LeO.none _)
   | (with_reducible refine LeO.ite ?_ ?_)
   | (with_reducible refine LeO.bind ?_ (fun _ => ?_))
   | exact ih0 _ _ _ _ _
   | exact spec_l11Holds.mono _ _ _ _ _
   | exact spec_l11Part.mono _ _ _
   | exact LeO.none _
   | refine LeO.ite ?_ ?_
   | refine LeO.bind ?_ (fun _ => ?_)
set_option maxHeartbeats 8000000 in
set_option maxRecDepth 100000 in
theorem spec_l11Can.calls (k : Nat) (g0 : Nat) (A0_0 : Option Addr) (c0_0 : Nat) (l0_0 : List (S164)) (A0_1 : Option Addr) (c0_1 : Nat) (l0_1 : List (S115)) (A1 : Option Addr) (c1 : Nat) (l1 : List (S113)) (A2 : Option Addr) (c2 : Nat) (l2 : List Int) (r : Bool) (w : World) (hbk0 : w.heap[g0]? = some (.cells #[.slice A0_0 l0_0.length c0_0, .slice A0_1 l0_1.length c0_1] 27 (0, 0))) (hr0_0 : Kd.C k164 w A0_0 l0_0.length l0_0) (hc0_0 : l0_0.length ≤ c0_0) (hr0_1 : Kd.C k115 w A0_1 l0_1.length l0_1) (hc0_1 : l0_1.length ≤ c0_1) (hr1 : Kd.C k113 w A1 l1.length l1) (hc1 : l1.length ≤ c1) (hr2 : Kd.C (Kd.int .i64) w A2 l2.length l2) (hc2 : l2.length ≤ c2) (h : spec_l11Can.f k l0_0 l0_1 l1 l2 = some r) :
  Calls Try.prog 83 #[.pointer (some ⟨g0, 0, none⟩), .slice A1 l1.length c1, .slice A2 l2.length c2] w fun e w' => e = .returned (.bool r) ∧ Below w.heap.size w w' := by
 have hu35 := Try.underlying35
 have HR0_0 := Aside0.mk hr0_0
 have HC0_0 := Aside0.mk hc0_0
 clear hr0_0 hc0_0
 have HR0_1 := Aside0.mk hr0_1
 have HC0_1 := Aside0.mk hc0_1
 clear hr0_1 hc0_1
 have HR1 := Aside0.mk hr1
 have HC1 := Aside0.mk hc1
 clear hr1 hc1
 have HR2 := Aside0.mk hr2
 have HC2 := Aside0.mk hc2
 clear hr2 hc2
 have BK0 := Aside0.mk hbk0
 clear hbk0
 have HB := Aside0.mk (Below.refl w.heap.size w)
 have H : (spec_l11Can.l0 k l1 l2 0 l0_0 l0_1) = some r := h
 clear h
 have H' := Aside0.mk H
 clear H
 go_enter Try.func83, Try.ntmps83
 go_wp2
 go_loopg [7] k (fun kq v7 w' => ∃ (x7_1 : Int), v7 = .int .i64 x7_1 ∧ Aside0 (spec_l11Can.l0 kq l1 l2 x7_1 l0_0 l0_1 = some r) ∧ Aside0 (kq ≤ k) ∧ Aside0 (w'.heap[g0]? = some (.cells #[(.slice A0_0 l0_0.length c0_0), (.slice A0_1 l0_1.length c0_1)] 27 (0, 0))) ∧ Aside0 (Below w.heap.size w w'))
 case atStart => exact ⟨(0), (zF), H', ⟨Nat.le_refl _⟩, ⟨zb BK0.out⟩, ⟨zB HB.out⟩⟩
 case round =>
  clear H'; (try clear c1); (try clear c2); (try clear p2); obtain ⟨x7_1, rfl, HA, HK1, BK0, HB⟩ := hrel
  cases gk with
  | zero => exact absurd HA.out (by simp [spec_l11Can.l0])
  | succ k1 =>
   have H := HA.out; clear HA
   simp only [spec_l11Can.l0] at H
   obtain ⟨ji4, hji4⟩ : ∃ j_ : Int, (IntKind.u64.wrap ((l2.length : Int))) = j_ := ⟨_, rfl⟩
   replace H : (if 0 ≤ (ji4) then (if x7_1 < (shl .i64 1 (ji4)) then ((spec_l11Part.f k1 l2 x7_1).bind fun t217 => ((spec_l11Holds.f k1 l0_0 l0_1 l1 t217).bind fun bt220 => (if bt220.2.2 = true then (some true) else (spec_l11Can.l0 k1 l1 l2 (wrap64 (x7_1 + 1)) l0_0 l0_1)))) else (some false)) else (none)) = some r := by first | (rw [hji4] at H; exact H) | (simp only [hji4] at H ⊢; exact H)
   by_cases c5 : 0 ≤ (ji4)
   ·rw [if_pos c5] at H
    have c5b0 := eq_true c5; have c5b1 : decide (0 ≤ (ji4)) = true := decide_eq_true c5; clear c5; obtain ⟨ji6, hji6⟩ : ∃ j_ : Int, (shl .i64 1 (ji4)) = j_ := ⟨_, rfl⟩
    replace H : (if x7_1 < (ji6) then ((spec_l11Part.f k1 l2 x7_1).bind fun t217 => ((spec_l11Holds.f k1 l0_0 l0_1 l1 t217).bind fun bt220 => (if bt220.2.2 = true then (some true) else (spec_l11Can.l0 k1 l1 l2 (wrap64 (x7_1 + 1)) l0_0 l0_1)))) else (some false)) = some r := by first | (rw [hji6] at H; exact H) | (simp only [hji6] at H ⊢; exact H)
    have hji6_ : (IntKind.i64.wrap (1 * 2 ^ min (ji4).toNat 64)) = ji6 := hji6; have hji6z : (ji4) ≤ 64 → (IntKind.i64.wrap (1 * 2 ^ (ji4).toNat)) = ji6 := shl_small hji6
    have hji6u : (IntKind.i64.wrap (2 ^ min (ji4).toNat 64)) = ji6 := by have h_ := hji6_; rw [Int.one_mul] at h_; exact h_
    have hji6v : (ji4) ≤ 64 → (IntKind.i64.wrap (2 ^ (ji4).toNat)) = ji6 := fun hle_ => by have h_ := hji6z hle_; rw [Int.one_mul] at h_; exact h_
    have hji6y : (wrap64 (1 * 2 ^ min (ji4).toNat 64)) = ji6 := (i64_w _).symm.trans hji6_
    have hji6x : (ji4) ≤ 64 → (wrap64 (1 * 2 ^ (ji4).toNat)) = ji6 := fun h_ => (i64_w _).symm.trans (hji6z h_)
    by_cases c7 : x7_1 < (ji6)
    ·rw [if_pos c7] at H
     have c7b0 : decide (x7_1 < (ji6)) = true := decide_eq_true c7; clear c7; replace H := Option.bind_eq_some_iff.mp H; obtain ⟨t217, A80, H⟩ := H; replace H : ((spec_l11Holds.f k1 l0_0 l0_1 l1 t217).bind fun bt220 => (if bt220.2.2 = true then (some true) else (spec_l11Can.l0 k1 l1 l2 (wrap64 (x7_1 + 1)) l0_0 l0_1))) = some r := H; have A8 := Aside0.mk A80; clear A80; replace H := Option.bind_eq_some_iff.mp H; obtain ⟨⟨t220, t223, t224⟩, A90, H⟩ := H; replace H : (if t224 = true then (some true) else (spec_l11Can.l0 k1 l1 l2 (wrap64 (x7_1 + 1)) l0_0 l0_1)) = some r := H; have A9 := Aside0.mk A90; clear A90
     by_cases c10 : t224 = true
     ·subst c10
      have H1 : (some true) = some r := by rw [if_pos rfl] at H; exact H
      clear H; have H := H1; clear H1; obtain rfl := Option.some.inj H
      go_wp2_with (first | ((with_reducible refine gate_callee (f := 111) rfl ?_); refine goesL_ (some 23) rfl rfl Try.func111 (by kernel_rfl) rfl #[.slice A2 l2.length c2, .int .i64 x7_1] rfl zM ?_; (with_reducible refine (spec_l11Part.calls k1 _ _ l2 x7_1 t217 _ ?side1 ?side2 A8.out).mono ?_); (case side1 => exact zC HR2.out HB.out); (case side2 => exact HC2.out); rintro e w11 ⟨v218, rfl, ho0, hb⟩; refine ⟨_, rfl, ?_⟩; have n0_ := Aside0.mk (Kd.R_lower ho0 (below_size (zB HB.out))); have n1_ := Aside0.mk (blk_below (g := g0) (o := .cells #[.slice A0_0 l0_0.length c0_0, .slice A0_1 l0_1.length c0_1] 27 (0, 0)) (zb BK0.out) hb); have n2_ := Aside0.mk (below_step (zB HB.out) hb); clear BK0; clear HB; have HO219 := n0_; have BK0 := n1_; have HB := n2_; clear n0_ n1_ n2_; (try clear hb); (try clear hb2); (try clear hk); (try clear hi); (try clear ho0); obtain ⟨Ao12, co12, eo12⟩ := Kd.R_slice HO219.out; subst eo12) | ((with_reducible refine gate_callee (f := 74) rfl ?_); refine goesL_ (some 24) rfl rfl Try.func74 (by kernel_rfl) rfl #[.pointer (some ⟨g0, 0, none⟩), .slice A1 l1.length c1, .slice Ao12 t217.length co12] rfl zM ?_; (with_reducible refine (spec_l11Holds.calls k1 g0 A0_0 c0_0 l0_0 A0_1 c0_1 l0_1 _ _ l1 _ _ t217 t220 t223 true _ ?side1 ?side2 ?side3 ?side4 ?side5 ?side6 ?side7 ?side8 ?side9 A9.out).mono ?_); (case side1 => refine zb ?_; exact BK0.out); (case side2 => exact zC HR0_0.out HB.out); (case side3 => exact HC0_0.out); (case side4 => exact zC HR0_1.out HB.out); (case side5 => exact HC0_1.out); (case side6 => exact zC HR1.out HB.out); (case side7 => exact HC1.out); (case side8 => repeat (first | exact (Kd.R_reads' HO219.out).2.2 | (with_reducible refine Kd.C_alloc ?_ _) | (with_reducible refine Kd.C_drewN ?_ _) | (with_reducible refine Kd.C_drew ?_))); (case side9 => exact (Kd.R_reads' HO219.out).2.1); rintro e w13 ⟨v221, rfl, ho0, hb⟩; refine ⟨_, rfl, ?_⟩; have n0_ := Aside0.mk (Kd.R_elder' (zR HO219.out) (Kd.R_base ho0) hb); have n1_ := Aside0.mk (Kd.R_lower (Kd.R_new' ho0 (Kd.R_lt (zR HO219.out))) (below_size (zB HB.out))); have n2_ := Aside0.mk (blk_below (g := g0) (o := .cells #[.slice A0_0 l0_0.length c0_0, .slice A0_1 l0_1.length c0_1] 27 (0, 0)) (zb BK0.out) hb); have n3_ := Aside0.mk (below_step (zB HB.out) hb); clear HO219; clear BK0; clear HB; have HO219 := n0_; have HO222 := n1_; have BK0 := n2_; have HB := n3_; clear n0_ n1_ n2_ n3_; (try clear hb); (try clear hb2); (try clear hk); (try clear hi); (try clear ho0)) | ((with_reducible refine gate_dst (N := 8) rfl ?_); refine zbx (N := 8) (cs := #[.slice none 0 0, .int .i64 0]) (t := 35) ?_; intro gb225 hg w14 hbox hb; have n0_ := Aside0.mk (Kd.R_below (zR HO219.out) hb); have n1_ := Aside0.mk (Kd.R_below (zR HO222.out) hb); have n2_ := Aside0.mk (blk_below (g := g0) (o := .cells #[.slice A0_0 l0_0.length c0_0, .slice A0_1 l0_1.length c0_1] 27 (0, 0)) (zb BK0.out) hb); have n3_ := Aside0.mk (below_step (zB HB.out) hb); have n4_ := Aside0.mk (hbox); have n5_ := Aside0.mk ((by rw [hg]; exact (below_size (zB HB.out)) : w.heap.size ≤ gb225)); have n6_ := Aside0.mk ((by rw [hg]; exact (below_size (zB HB.out)) : w.heap.size ≤ gb225)); have n7_ := Aside0.mk ((by rw [hg]; exact Nat.ne_of_lt (blk_lt (g := g0) (o := .cells #[.slice A0_0 l0_0.length c0_0, .slice A0_1 l0_1.length c0_1] 27 (0, 0)) (zb BK0.out)) : g0 ≠ gb225)); have n8_ := Aside0.mk ((by rw [hg]; exact Nat.ne_of_gt (blk_lt (g := g0) (o := .cells #[.slice A0_0 l0_0.length c0_0, .slice A0_1 l0_1.length c0_1] 27 (0, 0)) (zb BK0.out)) : gb225 ≠ g0)); clear HO219; clear HO222; clear BK0; clear HB; have HO219 := n0_; have HO222 := n1_; have BK0 := n2_; have HB := n3_; have BK225 := n4_; have GW225 := n5_; have GE225 := n6_; have NB0_225 := n7_; have NB225_0 := n8_; clear n0_ n1_ n2_ n3_ n4_ n5_ n6_ n7_ n8_; clear hb hbox hg; obtain ⟨Ao15, co15, eo15⟩ := Kd.R_slice HO222.out; subst eo15; have hnb16 := NB225_0.out; have hnc16 := NB0_225.out; have hcz17_0 : w14.cell? ⟨gb225, 0, none⟩ = some (.slice none 0 0) := (blk_cell BK225.out 0).trans rfl; have hcz17_1 : w14.cell? ⟨gb225, 1, none⟩ = some (.int .i64 0) := (blk_cell BK225.out 1).trans rfl; have hfz17_0 := blk_frozen BK225.out 0; have hfz17_1 := blk_frozen BK225.out 1))
      go_ret
      exact ⟨by first | rfl | (simp [errW_none, errW_some] <;> rfl) | (simp only [← hji4, ← hji6]; first | rfl | (simp [errW_none, errW_some] <;> rfl)) | (simp [*, errW_none, errW_some] <;> rfl), zB2 HB.out GE225.out⟩
     ·replace c10 := Bool.eq_false_iff.mpr c10
      subst c10
      have H1 : (spec_l11Can.l0 k1 l1 l2 (wrap64 (x7_1 + 1)) l0_0 l0_1) = some r := by rw [if_neg (show ¬ (false = true) by decide)] at H; exact H
      clear H; have H := H1; clear H1; have H' := Aside0.mk H; clear H
      go_wp2_with (first | ((with_reducible refine gate_callee (f := 111) rfl ?_); refine goesL_ (some 23) rfl rfl Try.func111 (by kernel_rfl) rfl #[.slice A2 l2.length c2, .int .i64 x7_1] rfl zM ?_; (with_reducible refine (spec_l11Part.calls k1 _ _ l2 x7_1 t217 _ ?side1 ?side2 A8.out).mono ?_); (case side1 => exact zC HR2.out HB.out); (case side2 => exact HC2.out); rintro e w18 ⟨v218, rfl, ho0, hb⟩; refine ⟨_, rfl, ?_⟩; have n0_ := Aside0.mk (Kd.R_lower ho0 (below_size (zB HB.out))); have n1_ := Aside0.mk (blk_below (g := g0) (o := .cells #[.slice A0_0 l0_0.length c0_0, .slice A0_1 l0_1.length c0_1] 27 (0, 0)) (zb BK0.out) hb); have n2_ := Aside0.mk (below_step (zB HB.out) hb); clear BK0; clear HB; have HO219 := n0_; have BK0 := n1_; have HB := n2_; clear n0_ n1_ n2_; (try clear hb); (try clear hb2); (try clear hk); (try clear hi); (try clear ho0); obtain ⟨Ao19, co19, eo19⟩ := Kd.R_slice HO219.out; subst eo19) | ((with_reducible refine gate_callee (f := 74) rfl ?_); refine goesL_ (some 24) rfl rfl Try.func74 (by kernel_rfl) rfl #[.pointer (some ⟨g0, 0, none⟩), .slice A1 l1.length c1, .slice Ao19 t217.length co19] rfl zM ?_; (with_reducible refine (spec_l11Holds.calls k1 g0 A0_0 c0_0 l0_0 A0_1 c0_1 l0_1 _ _ l1 _ _ t217 t220 t223 false _ ?side1 ?side2 ?side3 ?side4 ?side5 ?side6 ?side7 ?side8 ?side9 A9.out).mono ?_); (case side1 => refine zb ?_; exact BK0.out); (case side2 => exact zC HR0_0.out HB.out); (case side3 => exact HC0_0.out); (case side4 => exact zC HR0_1.out HB.out); (case side5 => exact HC0_1.out); (case side6 => exact zC HR1.out HB.out); (case side7 => exact HC1.out); (case side8 => repeat (first | exact (Kd.R_reads' HO219.out).2.2 | (with_reducible refine Kd.C_alloc ?_ _) | (with_reducible refine Kd.C_drewN ?_ _) | (with_reducible refine Kd.C_drew ?_))); (case side9 => exact (Kd.R_reads' HO219.out).2.1); rintro e w20 ⟨v221, rfl, ho0, hb⟩; refine ⟨_, rfl, ?_⟩; have n0_ := Aside0.mk (Kd.R_elder' (zR HO219.out) (Kd.R_base ho0) hb); have n1_ := Aside0.mk (Kd.R_lower (Kd.R_new' ho0 (Kd.R_lt (zR HO219.out))) (below_size (zB HB.out))); have n2_ := Aside0.mk (blk_below (g := g0) (o := .cells #[.slice A0_0 l0_0.length c0_0, .slice A0_1 l0_1.length c0_1] 27 (0, 0)) (zb BK0.out) hb); have n3_ := Aside0.mk (below_step (zB HB.out) hb); clear HO219; clear BK0; clear HB; have HO219 := n0_; have HO222 := n1_; have BK0 := n2_; have HB := n3_; clear n0_ n1_ n2_ n3_; (try clear hb); (try clear hb2); (try clear hk); (try clear hi); (try clear ho0)) | ((with_reducible refine gate_dst (N := 8) rfl ?_); refine zbx (N := 8) (cs := #[.slice none 0 0, .int .i64 0]) (t := 35) ?_; intro gb225 hg w21 hbox hb; have n0_ := Aside0.mk (Kd.R_below (zR HO219.out) hb); have n1_ := Aside0.mk (Kd.R_below (zR HO222.out) hb); have n2_ := Aside0.mk (blk_below (g := g0) (o := .cells #[.slice A0_0 l0_0.length c0_0, .slice A0_1 l0_1.length c0_1] 27 (0, 0)) (zb BK0.out) hb); have n3_ := Aside0.mk (below_step (zB HB.out) hb); have n4_ := Aside0.mk (hbox); have n5_ := Aside0.mk ((by rw [hg]; exact (below_size (zB HB.out)) : w.heap.size ≤ gb225)); have n6_ := Aside0.mk ((by rw [hg]; exact (below_size (zB HB.out)) : w.heap.size ≤ gb225)); have n7_ := Aside0.mk ((by rw [hg]; exact Nat.ne_of_lt (blk_lt (g := g0) (o := .cells #[.slice A0_0 l0_0.length c0_0, .slice A0_1 l0_1.length c0_1] 27 (0, 0)) (zb BK0.out)) : g0 ≠ gb225)); have n8_ := Aside0.mk ((by rw [hg]; exact Nat.ne_of_gt (blk_lt (g := g0) (o := .cells #[.slice A0_0 l0_0.length c0_0, .slice A0_1 l0_1.length c0_1] 27 (0, 0)) (zb BK0.out)) : gb225 ≠ g0)); clear HO219; clear HO222; clear BK0; clear HB; have HO219 := n0_; have HO222 := n1_; have BK0 := n2_; have HB := n3_; have BK225 := n4_; have GW225 := n5_; have GE225 := n6_; have NB0_225 := n7_; have NB225_0 := n8_; clear n0_ n1_ n2_ n3_ n4_ n5_ n6_ n7_ n8_; clear hb hbox hg; obtain ⟨Ao22, co22, eo22⟩ := Kd.R_slice HO222.out; subst eo22; have hnb23 := NB225_0.out; have hnc23 := NB0_225.out; have hcz24_0 : w21.cell? ⟨gb225, 0, none⟩ = some (.slice none 0 0) := (blk_cell BK225.out 0).trans rfl; have hcz24_1 : w21.cell? ⟨gb225, 1, none⟩ = some (.int .i64 0) := (blk_cell BK225.out 1).trans rfl; have hfz24_0 := blk_frozen BK225.out 0; have hfz24_1 := blk_frozen BK225.out 1))
      go_roundg k1
      case measure => have := HK1.out; omega
      case rel => exact ⟨(wrap64 (x7_1 + 1)), (zF), H', ⟨by have := HK1.out; omega⟩, ⟨by refine zb ?_; refine blk_far ?_ NB0_225.out _; refine zb ?_; refine blk_far ?_ NB0_225.out _; refine zb ?_; exact BK0.out⟩, ⟨zB2 HB.out GE225.out⟩⟩
    ·rw [if_neg c7] at H
     have c7b0 : decide (x7_1 < (ji6)) = false := decide_eq_false c7; clear c7; obtain rfl := Option.some.inj H
     go_wp2
     go_ret
     exact ⟨by first | rfl | (simp [errW_none, errW_some] <;> rfl) | (simp only [← hji4, ← hji6]; first | rfl | (simp [errW_none, errW_some] <;> rfl)) | (simp [*, errW_none, errW_some] <;> rfl), zB HB.out⟩
   ·rw [if_neg c5] at H
    exact absurd H (by simp)

/-! ### spec_CanHold: function 26 -/
def spec_CanHold.f (k : Nat) (l0_0 : List (S164)) (l0_1 : List (S115)) (l1 : List (S113)) (l2 : List Int) : Option (Bool × Int) := (spec_l11Code.f k l0_0 l0_1 l1 l2).bind fun t227 => (if t227 = 0 then ((spec_l11Can.f k l0_0 l0_1 l1 l2).bind fun t228 => (some (t228, 0))) else (some (false, t227)))
theorem spec_CanHold.mono : ∀ a0 a1 a2 a3 k, LeO (spec_CanHold.f k a0 a1 a2 a3) (spec_CanHold.f (k + 1) a0 a1 a2 a3) := by
 intro a0 a1 a2 a3 k
 unfold spec_CanHold.f
 repeat' first
   | (with_reducible exact spec_l11Can.mono _ _ _ _ _)
   | (with_reducible exact spec_l11Code.mono _ _ _ _ _)
   | (with_reducible exact LeO.refl _)
   | (with_reducible exact LeO.none _)
   | (with_reducible refine LeO.ite ?_ ?_)
   | (with_reducible refine LeO.bind ?_ (fun _ => ?_))
   | exact spec_l11Can.mono _ _ _ _ _
   | exact spec_l11Code.mono _ _ _ _ _
   | exact LeO.none _
   | refine LeO.ite ?_ ?_
   | refine LeO.bind ?_ (fun _ => ?_)
set_option maxHeartbeats 8000000 in
set_option maxRecDepth 100000 in
theorem spec_CanHold.calls (k : Nat) (A0_0 : Option Addr) (c0_0 : Nat) (l0_0 : List (S164)) (A0_1 : Option Addr) (c0_1 : Nat) (l0_1 : List (S115)) (A1 : Option Addr) (c1 : Nat) (l1 : List (S113)) (A2 : Option Addr) (c2 : Nat) (l2 : List Int) (r1 : Bool) (r2 : Int) (w : World) (hr0_0 : Kd.C k164 w A0_0 l0_0.length l0_0) (hc0_0 : l0_0.length ≤ c0_0) (hr0_1 : Kd.C k115 w A0_1 l0_1.length l0_1) (hc0_1 : l0_1.length ≤ c0_1) (hr1 : Kd.C k113 w A1 l1.length l1) (hc1 : l1.length ≤ c1) (hr2 : Kd.C (Kd.int .i64) w A2 l2.length l2) (hc2 : l2.length ≤ c2) (h : spec_CanHold.f k l0_0 l0_1 l1 l2 = some (r1, r2)) :
  Calls Try.prog 26 #[.agg #[.slice A0_0 l0_0.length c0_0, .slice A0_1 l0_1.length c0_1], .slice A1 l1.length c1, .slice A2 l2.length c2] w fun e w' => e = .returned (.tuple #[.bool r1, .int .i64 r2]) ∧ Below w.heap.size w w' := by
 have hu27 := Try.underlying27
 have HR0_0 := Aside0.mk hr0_0
 have HC0_0 := Aside0.mk hc0_0
 clear hr0_0 hc0_0
 have HR0_1 := Aside0.mk hr0_1
 have HC0_1 := Aside0.mk hc0_1
 clear hr0_1 hc0_1
 have HR1 := Aside0.mk hr1
 have HC1 := Aside0.mk hc1
 clear hr1 hc1
 have HR2 := Aside0.mk hr2
 have HC2 := Aside0.mk hc2
 clear hr2 hc2
 have HB := Aside0.mk (Below.refl w.heap.size w)
 have H : ((spec_l11Code.f k l0_0 l0_1 l1 l2).bind fun t227 => (if t227 = 0 then ((spec_l11Can.f k l0_0 l0_1 l1 l2).bind fun t228 => (some (t228, 0))) else (some (false, t227)))) = some (r1, r2) := h
 clear h
 replace H := Option.bind_eq_some_iff.mp H
 obtain ⟨t227, A40, H⟩ := H
 replace H : (if t227 = 0 then ((spec_l11Can.f k l0_0 l0_1 l1 l2).bind fun t228 => (some (t228, 0))) else (some (false, t227))) = some (r1, r2) := H
 have A4 := Aside0.mk A40
 clear A40
 by_cases c5 : t227 = 0
 ·rw [if_pos c5] at H
  have c5b0 : (t227 == 0) = true := beq_iff_eq.mpr c5; have c5b1 : (t227 != 0) = false := bne_eq_false_iff_eq.mpr c5; clear c5; replace H := Option.bind_eq_some_iff.mp H; obtain ⟨t228, A60, H⟩ := H; replace H : (some (t228, 0)) = some (r1, r2) := H; have A6 := Aside0.mk A60; clear A60
  simp only [Option.some.injEq, Prod.mk.injEq] at H
  obtain ⟨rfl, rfl⟩ := H
  go_enter Try.func26, Try.ntmps26
  go_wp2_with (first | ((with_reducible refine gate_dst (N := 3) rfl ?_); refine zbx (N := 3) (cs := #[.slice A0_0 l0_0.length c0_0, .slice A0_1 l0_1.length c0_1]) (t := 27) ?_; intro gb226 hg w7 hbox hb; have n0_ := Aside0.mk (below_step (zB HB.out) hb); have n1_ := Aside0.mk (hbox); have n2_ := Aside0.mk ((by rw [hg]; exact (below_size (zB HB.out)) : w.heap.size ≤ gb226)); have n3_ := Aside0.mk ((by rw [hg]; exact (below_size (zB HB.out)) : w.heap.size ≤ gb226)); clear HB; have HB := n0_; have BK226 := n1_; have GW226 := n2_; have GE226 := n3_; clear n0_ n1_ n2_ n3_; clear hb hbox hg) | ((with_reducible refine gate_callee (f := 71) rfl ?_); refine goesL_ (some 11) rfl rfl Try.func71 (by kernel_rfl) rfl #[.pointer (some ⟨gb226, 0, none⟩), .slice A1 l1.length c1, .slice A2 l2.length c2] rfl zM ?_; (with_reducible refine (spec_l11Code.calls k gb226 A0_0 c0_0 l0_0 A0_1 c0_1 l0_1 _ _ l1 _ _ l2 t227 _ ?side1 ?side2 ?side3 ?side4 ?side5 ?side6 ?side7 ?side8 ?side9 A4.out).mono ?_); (case side1 => refine zb ?_; exact BK226.out); (case side2 => exact zC HR0_0.out HB.out); (case side3 => exact HC0_0.out); (case side4 => exact zC HR0_1.out HB.out); (case side5 => exact HC0_1.out); (case side6 => exact zC HR1.out HB.out); (case side7 => exact HC1.out); (case side8 => exact zC HR2.out HB.out); (case side9 => exact HC2.out); rintro e w8 ⟨rfl, hb⟩; refine ⟨_, rfl, ?_⟩; have n0_ := Aside0.mk (blk_below (g := gb226) (o := .cells #[.slice A0_0 l0_0.length c0_0, .slice A0_1 l0_1.length c0_1] 27 (0, 0)) (zb BK226.out) hb); have n1_ := Aside0.mk (below_step (zB2 HB.out GE226.out) hb); clear BK226; clear HB; have BK226 := n0_; have HB := n1_; clear n0_ n1_; (try clear hb); (try clear hb2); (try clear hk); (try clear hi)) | ((with_reducible refine gate_callee (f := 83) rfl ?_); refine goesL_ (some 17) rfl rfl Try.func83 (by kernel_rfl) rfl #[.pointer (some ⟨gb226, 0, none⟩), .slice A1 l1.length c1, .slice A2 l2.length c2] rfl zM ?_; (with_reducible refine (spec_l11Can.calls k gb226 A0_0 c0_0 l0_0 A0_1 c0_1 l0_1 _ _ l1 _ _ l2 t228 _ ?side1 ?side2 ?side3 ?side4 ?side5 ?side6 ?side7 ?side8 ?side9 A6.out).mono ?_); (case side1 => refine zb ?_; exact BK226.out); (case side2 => exact zC HR0_0.out HB.out); (case side3 => exact HC0_0.out); (case side4 => exact zC HR0_1.out HB.out); (case side5 => exact HC0_1.out); (case side6 => exact zC HR1.out HB.out); (case side7 => exact HC1.out); (case side8 => exact zC HR2.out HB.out); (case side9 => exact HC2.out); rintro e w9 ⟨rfl, hb⟩; refine ⟨_, rfl, ?_⟩; have n0_ := Aside0.mk (blk_below (g := gb226) (o := .cells #[.slice A0_0 l0_0.length c0_0, .slice A0_1 l0_1.length c0_1] 27 (0, 0)) (zb BK226.out) hb); have n1_ := Aside0.mk (below_step (zB2 HB.out GE226.out) hb); clear BK226; clear HB; have BK226 := n0_; have HB := n1_; clear n0_ n1_; (try clear hb); (try clear hb2); (try clear hk); (try clear hi)))
  go_ret2
  exact ⟨zE, zB2 HB.out GE226.out⟩
 ·rw [if_neg c5] at H
  have c5b0 : (t227 == 0) = false := beq_eq_false_iff_ne.mpr c5; have c5b1 : (t227 != 0) = true := bne_iff_ne.mpr c5
  simp only [Option.some.injEq, Prod.mk.injEq] at H
  obtain ⟨rfl, rfl⟩ := H
  go_enter Try.func26, Try.ntmps26
  go_wp2_with (first | ((with_reducible refine gate_dst (N := 3) rfl ?_); refine zbx (N := 3) (cs := #[.slice A0_0 l0_0.length c0_0, .slice A0_1 l0_1.length c0_1]) (t := 27) ?_; intro gb226 hg w10 hbox hb; have n0_ := Aside0.mk (below_step (zB HB.out) hb); have n1_ := Aside0.mk (hbox); have n2_ := Aside0.mk ((by rw [hg]; exact (below_size (zB HB.out)) : w.heap.size ≤ gb226)); have n3_ := Aside0.mk ((by rw [hg]; exact (below_size (zB HB.out)) : w.heap.size ≤ gb226)); clear HB; have HB := n0_; have BK226 := n1_; have GW226 := n2_; have GE226 := n3_; clear n0_ n1_ n2_ n3_; clear hb hbox hg) | ((with_reducible refine gate_callee (f := 71) rfl ?_); refine goesL_ (some 11) rfl rfl Try.func71 (by kernel_rfl) rfl #[.pointer (some ⟨gb226, 0, none⟩), .slice A1 l1.length c1, .slice A2 l2.length c2] rfl zM ?_; (with_reducible refine (spec_l11Code.calls k gb226 A0_0 c0_0 l0_0 A0_1 c0_1 l0_1 _ _ l1 _ _ l2 t227 _ ?side1 ?side2 ?side3 ?side4 ?side5 ?side6 ?side7 ?side8 ?side9 A4.out).mono ?_); (case side1 => refine zb ?_; exact BK226.out); (case side2 => exact zC HR0_0.out HB.out); (case side3 => exact HC0_0.out); (case side4 => exact zC HR0_1.out HB.out); (case side5 => exact HC0_1.out); (case side6 => exact zC HR1.out HB.out); (case side7 => exact HC1.out); (case side8 => exact zC HR2.out HB.out); (case side9 => exact HC2.out); rintro e w11 ⟨rfl, hb⟩; refine ⟨_, rfl, ?_⟩; have n0_ := Aside0.mk (blk_below (g := gb226) (o := .cells #[.slice A0_0 l0_0.length c0_0, .slice A0_1 l0_1.length c0_1] 27 (0, 0)) (zb BK226.out) hb); have n1_ := Aside0.mk (below_step (zB2 HB.out GE226.out) hb); clear BK226; clear HB; have BK226 := n0_; have HB := n1_; clear n0_ n1_; (try clear hb); (try clear hb2); (try clear hk); (try clear hi)))
  go_ret2
  exact ⟨zE, zB2 HB.out GE226.out⟩

/-! ### laws_szKnotS: function 95 -/
def laws_szKnotS.f (l0 : List (S166)) (a1 : Int) : Option (Int) := if (wrap64 (a1 - (l0.length : Int))) < 0 then (some (-1)) else (some (wrap64 (a1 - (l0.length : Int))))
set_option maxHeartbeats 8000000 in
set_option maxRecDepth 100000 in
theorem laws_szKnotS.calls (A0 : Option Addr) (c0 : Nat) (l0 : List (S166)) (a1 : Int) (r : Int) (w : World) (hr0 : Kd.C k166 w A0 l0.length l0) (hc0 : l0.length ≤ c0) (h : laws_szKnotS.f l0 a1 = some r) :
  Calls Try.prog 95 #[.slice A0 l0.length c0, .int .i64 a1] w fun e w' => e = .returned (.int .i64 r) ∧ Drawn0 w w' := by
 have HR0 := Aside0.mk hr0
 have HC0 := Aside0.mk hc0
 clear hr0 hc0
 have H : (if (wrap64 (a1 - (l0.length : Int))) < 0 then (some (-1)) else (some (wrap64 (a1 - (l0.length : Int))))) = some r := h
 clear h
 by_cases c3 : (wrap64 (a1 - (l0.length : Int))) < 0
 ·rw [if_pos c3] at H
  have c3b0 : decide ((wrap64 (a1 - (l0.length : Int))) < 0) = true := decide_eq_true c3; clear c3; obtain rfl := Option.some.inj H
  go_enter Try.func95, Try.ntmps95
  go_wp2
  go_ret
  exact ⟨zF, by repeat (first | exact Drawn0.refl _ | apply Drawn0.step)⟩
 ·rw [if_neg c3] at H
  have c3b0 : decide ((wrap64 (a1 - (l0.length : Int))) < 0) = false := decide_eq_false c3; clear c3; obtain rfl := Option.some.inj H
  go_enter Try.func95, Try.ntmps95
  go_wp2
  go_ret
  exact ⟨zF, by repeat (first | exact Drawn0.refl _ | apply Drawn0.step)⟩

/-! ### laws_szBarS: function 96 -/
def laws_szBarS.f (l0 : List (S168)) (a1 : Int) : Option (Int) := if (wrap64 (a1 - (l0.length : Int))) < 0 then (some (-1)) else (some (wrap64 (a1 - (l0.length : Int))))
set_option maxHeartbeats 8000000 in
set_option maxRecDepth 100000 in
theorem laws_szBarS.calls (A0 : Option Addr) (c0 : Nat) (l0 : List (S168)) (a1 : Int) (r : Int) (w : World) (hr0 : Kd.C k168 w A0 l0.length l0) (hc0 : l0.length ≤ c0) (h : laws_szBarS.f l0 a1 = some r) :
  Calls Try.prog 96 #[.slice A0 l0.length c0, .int .i64 a1] w fun e w' => e = .returned (.int .i64 r) ∧ Drawn0 w w' := by
 have HR0 := Aside0.mk hr0
 have HC0 := Aside0.mk hc0
 clear hr0 hc0
 have H : (if (wrap64 (a1 - (l0.length : Int))) < 0 then (some (-1)) else (some (wrap64 (a1 - (l0.length : Int))))) = some r := h
 clear h
 by_cases c3 : (wrap64 (a1 - (l0.length : Int))) < 0
 ·rw [if_pos c3] at H
  have c3b0 : decide ((wrap64 (a1 - (l0.length : Int))) < 0) = true := decide_eq_true c3; clear c3; obtain rfl := Option.some.inj H
  go_enter Try.func96, Try.ntmps96
  go_wp2
  go_ret
  exact ⟨zF, by repeat (first | exact Drawn0.refl _ | apply Drawn0.step)⟩
 ·rw [if_neg c3] at H
  have c3b0 : decide ((wrap64 (a1 - (l0.length : Int))) < 0) = false := decide_eq_false c3; clear c3; obtain rfl := Option.some.inj H
  go_enter Try.func96, Try.ntmps96
  go_wp2
  go_ret
  exact ⟨zF, by repeat (first | exact Drawn0.refl _ | apply Drawn0.step)⟩

/-! ### laws_szFrame: function 34 -/
def laws_szFrame.f (l0_0 : List (S166)) (l0_1 : List (S168)) (a1 : Int) : Option (Int) := (laws_szKnotS.f l0_0 a1).bind fun t230 => (if t230 < 0 then (some (-1)) else ((laws_szBarS.f l0_1 t230).bind fun t231 => (if t231 < 0 then (some (-1)) else (some t231))))
set_option maxHeartbeats 8000000 in
set_option maxRecDepth 100000 in
theorem laws_szFrame.calls (A0_0 : Option Addr) (c0_0 : Nat) (l0_0 : List (S166)) (A0_1 : Option Addr) (c0_1 : Nat) (l0_1 : List (S168)) (a1 : Int) (r : Int) (w : World) (hr0_0 : Kd.C k166 w A0_0 l0_0.length l0_0) (hc0_0 : l0_0.length ≤ c0_0) (hr0_1 : Kd.C k168 w A0_1 l0_1.length l0_1) (hc0_1 : l0_1.length ≤ c0_1) (h : laws_szFrame.f l0_0 l0_1 a1 = some r) :
  Calls Try.prog 34 #[.agg #[.slice A0_0 l0_0.length c0_0, .slice A0_1 l0_1.length c0_1], .int .i64 a1] w fun e w' => e = .returned (.int .i64 r) ∧ Below w.heap.size w w' := by
 have hu54 := Try.underlying54
 have HR0_0 := Aside0.mk hr0_0
 have HC0_0 := Aside0.mk hc0_0
 clear hr0_0 hc0_0
 have HR0_1 := Aside0.mk hr0_1
 have HC0_1 := Aside0.mk hc0_1
 clear hr0_1 hc0_1
 have HB := Aside0.mk (Below.refl w.heap.size w)
 have H : ((laws_szKnotS.f l0_0 a1).bind fun t230 => (if t230 < 0 then (some (-1)) else ((laws_szBarS.f l0_1 t230).bind fun t231 => (if t231 < 0 then (some (-1)) else (some t231))))) = some r := h
 clear h
 replace H := Option.bind_eq_some_iff.mp H
 obtain ⟨t230, A30, H⟩ := H
 replace H : (if t230 < 0 then (some (-1)) else ((laws_szBarS.f l0_1 t230).bind fun t231 => (if t231 < 0 then (some (-1)) else (some t231)))) = some r := H
 have A3 := Aside0.mk A30
 clear A30
 by_cases c4 : t230 < 0
 ·rw [if_pos c4] at H
  have c4b0 : decide (t230 < 0) = true := decide_eq_true c4; clear c4; obtain rfl := Option.some.inj H
  go_enter Try.func34, Try.ntmps34
  go_wp2_with (first | ((with_reducible refine gate_dst (N := 2) rfl ?_); refine zbx (N := 2) (cs := #[.slice A0_0 l0_0.length c0_0, .slice A0_1 l0_1.length c0_1]) (t := 54) ?_; intro gb229 hg w5 hbox hb; have n0_ := Aside0.mk (below_step (zB HB.out) hb); have n1_ := Aside0.mk (hbox); have n2_ := Aside0.mk ((by rw [hg]; exact (below_size (zB HB.out)) : w.heap.size ≤ gb229)); have n3_ := Aside0.mk ((by rw [hg]; exact (below_size (zB HB.out)) : w.heap.size ≤ gb229)); clear HB; have HB := n0_; have BK229 := n1_; have GW229 := n2_; have GE229 := n3_; clear n0_ n1_ n2_ n3_; clear hb hbox hg; have hcz6_0 : w5.cell? ⟨gb229, 0, none⟩ = some (.slice A0_0 l0_0.length c0_0) := (blk_cell BK229.out 0).trans rfl; have hcz6_1 : w5.cell? ⟨gb229, 1, none⟩ = some (.slice A0_1 l0_1.length c0_1) := (blk_cell BK229.out 1).trans rfl; have hfz6_0 := blk_frozen BK229.out 0; have hfz6_1 := blk_frozen BK229.out 1) | ((with_reducible refine gate_callee (f := 95) rfl ?_); refine goesL_ (some 8) rfl rfl Try.func95 (by kernel_rfl) rfl #[.slice A0_0 l0_0.length c0_0, .int .i64 a1] rfl zM ?_; (with_reducible refine (laws_szKnotS.calls _ _ l0_0 a1 t230 _ ?side1 ?side2 A3.out).mono ?_); (case side1 => exact zC HR0_0.out HB.out); (case side2 => exact HC0_0.out); rintro e w' ⟨rfl, ⟨nd, rfl⟩⟩; refine ⟨_, rfl, ?_⟩))
  go_ret
  exact ⟨zE, zB2 HB.out GE229.out⟩
 ·rw [if_neg c4] at H
  have c4b0 : decide (t230 < 0) = false := decide_eq_false c4; clear c4; replace H := Option.bind_eq_some_iff.mp H; obtain ⟨t231, A70, H⟩ := H; replace H : (if t231 < 0 then (some (-1)) else (some t231)) = some r := H; have A7 := Aside0.mk A70; clear A70
  by_cases c8 : t231 < 0
  ·rw [if_pos c8] at H
   have c8b0 : decide (t231 < 0) = true := decide_eq_true c8; clear c8; obtain rfl := Option.some.inj H
   go_enter Try.func34, Try.ntmps34
   go_wp2_with (first | ((with_reducible refine gate_dst (N := 2) rfl ?_); refine zbx (N := 2) (cs := #[.slice A0_0 l0_0.length c0_0, .slice A0_1 l0_1.length c0_1]) (t := 54) ?_; intro gb229 hg w9 hbox hb; have n0_ := Aside0.mk (below_step (zB HB.out) hb); have n1_ := Aside0.mk (hbox); have n2_ := Aside0.mk ((by rw [hg]; exact (below_size (zB HB.out)) : w.heap.size ≤ gb229)); have n3_ := Aside0.mk ((by rw [hg]; exact (below_size (zB HB.out)) : w.heap.size ≤ gb229)); clear HB; have HB := n0_; have BK229 := n1_; have GW229 := n2_; have GE229 := n3_; clear n0_ n1_ n2_ n3_; clear hb hbox hg; have hcz10_0 : w9.cell? ⟨gb229, 0, none⟩ = some (.slice A0_0 l0_0.length c0_0) := (blk_cell BK229.out 0).trans rfl; have hcz10_1 : w9.cell? ⟨gb229, 1, none⟩ = some (.slice A0_1 l0_1.length c0_1) := (blk_cell BK229.out 1).trans rfl; have hfz10_0 := blk_frozen BK229.out 0; have hfz10_1 := blk_frozen BK229.out 1) | ((with_reducible refine gate_callee (f := 95) rfl ?_); refine goesL_ (some 8) rfl rfl Try.func95 (by kernel_rfl) rfl #[.slice A0_0 l0_0.length c0_0, .int .i64 a1] rfl zM ?_; (with_reducible refine (laws_szKnotS.calls _ _ l0_0 a1 t230 _ ?side1 ?side2 A3.out).mono ?_); (case side1 => exact zC HR0_0.out HB.out); (case side2 => exact HC0_0.out); rintro e w' ⟨rfl, ⟨nd, rfl⟩⟩; refine ⟨_, rfl, ?_⟩) | ((with_reducible refine gate_callee (f := 96) rfl ?_); refine goesL_ (some 14) rfl rfl Try.func96 (by kernel_rfl) rfl #[.slice A0_1 l0_1.length c0_1, .int .i64 t230] rfl zM ?_; (with_reducible refine (laws_szBarS.calls _ _ l0_1 t230 t231 _ ?side1 ?side2 A7.out).mono ?_); (case side1 => repeat (first | exact (Kd.C_below HR0_1.out (zB2 HB.out GE229.out)) | (with_reducible refine Kd.C_alloc ?_ _) | (with_reducible refine Kd.C_drewN ?_ _) | (with_reducible refine Kd.C_drew ?_))); (case side2 => exact HC0_1.out); rintro e w' ⟨rfl, ⟨nd, rfl⟩⟩; refine ⟨_, rfl, ?_⟩))
   go_ret
   exact ⟨zE, zB2 HB.out GE229.out⟩
  ·rw [if_neg c8] at H
   have c8b0 : decide (t231 < 0) = false := decide_eq_false c8; clear c8; obtain rfl := Option.some.inj H
   go_enter Try.func34, Try.ntmps34
   go_wp2_with (first | ((with_reducible refine gate_dst (N := 2) rfl ?_); refine zbx (N := 2) (cs := #[.slice A0_0 l0_0.length c0_0, .slice A0_1 l0_1.length c0_1]) (t := 54) ?_; intro gb229 hg w11 hbox hb; have n0_ := Aside0.mk (below_step (zB HB.out) hb); have n1_ := Aside0.mk (hbox); have n2_ := Aside0.mk ((by rw [hg]; exact (below_size (zB HB.out)) : w.heap.size ≤ gb229)); have n3_ := Aside0.mk ((by rw [hg]; exact (below_size (zB HB.out)) : w.heap.size ≤ gb229)); clear HB; have HB := n0_; have BK229 := n1_; have GW229 := n2_; have GE229 := n3_; clear n0_ n1_ n2_ n3_; clear hb hbox hg; have hcz12_0 : w11.cell? ⟨gb229, 0, none⟩ = some (.slice A0_0 l0_0.length c0_0) := (blk_cell BK229.out 0).trans rfl; have hcz12_1 : w11.cell? ⟨gb229, 1, none⟩ = some (.slice A0_1 l0_1.length c0_1) := (blk_cell BK229.out 1).trans rfl; have hfz12_0 := blk_frozen BK229.out 0; have hfz12_1 := blk_frozen BK229.out 1) | ((with_reducible refine gate_callee (f := 95) rfl ?_); refine goesL_ (some 8) rfl rfl Try.func95 (by kernel_rfl) rfl #[.slice A0_0 l0_0.length c0_0, .int .i64 a1] rfl zM ?_; (with_reducible refine (laws_szKnotS.calls _ _ l0_0 a1 t230 _ ?side1 ?side2 A3.out).mono ?_); (case side1 => exact zC HR0_0.out HB.out); (case side2 => exact HC0_0.out); rintro e w' ⟨rfl, ⟨nd, rfl⟩⟩; refine ⟨_, rfl, ?_⟩) | ((with_reducible refine gate_callee (f := 96) rfl ?_); refine goesL_ (some 14) rfl rfl Try.func96 (by kernel_rfl) rfl #[.slice A0_1 l0_1.length c0_1, .int .i64 t230] rfl zM ?_; (with_reducible refine (laws_szBarS.calls _ _ l0_1 t230 t231 _ ?side1 ?side2 A7.out).mono ?_); (case side1 => repeat (first | exact (Kd.C_below HR0_1.out (zB2 HB.out GE229.out)) | (with_reducible refine Kd.C_alloc ?_ _) | (with_reducible refine Kd.C_drewN ?_ _) | (with_reducible refine Kd.C_drew ?_))); (case side2 => exact HC0_1.out); rintro e w' ⟨rfl, ⟨nd, rfl⟩⟩; refine ⟨_, rfl, ?_⟩))
   go_ret
   exact ⟨zE, zB2 HB.out GE229.out⟩

/-! ### laws_szPullS: function 35 -/
def laws_szPullS.f (l0 : List (S122)) (a1 : Int) : Option (Int) := if (wrap64 (a1 - (l0.length : Int))) < 0 then (some (-1)) else (some (wrap64 (a1 - (l0.length : Int))))
set_option maxHeartbeats 8000000 in
set_option maxRecDepth 100000 in
theorem laws_szPullS.calls (A0 : Option Addr) (c0 : Nat) (l0 : List (S122)) (a1 : Int) (r : Int) (w : World) (hr0 : Kd.C k122 w A0 l0.length l0) (hc0 : l0.length ≤ c0) (h : laws_szPullS.f l0 a1 = some r) :
  Calls Try.prog 35 #[.slice A0 l0.length c0, .int .i64 a1] w fun e w' => e = .returned (.int .i64 r) ∧ Drawn0 w w' := by
 have HR0 := Aside0.mk hr0
 have HC0 := Aside0.mk hc0
 clear hr0 hc0
 have H : (if (wrap64 (a1 - (l0.length : Int))) < 0 then (some (-1)) else (some (wrap64 (a1 - (l0.length : Int))))) = some r := h
 clear h
 by_cases c3 : (wrap64 (a1 - (l0.length : Int))) < 0
 ·rw [if_pos c3] at H
  have c3b0 : decide ((wrap64 (a1 - (l0.length : Int))) < 0) = true := decide_eq_true c3; clear c3; obtain rfl := Option.some.inj H
  go_enter Try.func35, Try.ntmps35
  go_wp2
  go_ret
  exact ⟨zF, by repeat (first | exact Drawn0.refl _ | apply Drawn0.step)⟩
 ·rw [if_neg c3] at H
  have c3b0 : decide ((wrap64 (a1 - (l0.length : Int))) < 0) = false := decide_eq_false c3; clear c3; obtain rfl := Option.some.inj H
  go_enter Try.func35, Try.ntmps35
  go_wp2
  go_ret
  exact ⟨zF, by repeat (first | exact Drawn0.refl _ | apply Drawn0.step)⟩

/-! ### laws_toKnot: function 131 -/
def laws_toKnot.f (a0_0 : Int) (a0_1 : Int) (a0_2 : Bool) : Option (Int × Int × Bool) := some (a0_0, a0_1, a0_2)
set_option maxHeartbeats 8000000 in
set_option maxRecDepth 100000 in
theorem laws_toKnot.calls (a0_0 : Int) (a0_1 : Int) (a0_2 : Bool) (r1 : Int) (r2 : Int) (r3 : Bool) (w : World) (h : laws_toKnot.f a0_0 a0_1 a0_2 = some (r1, r2, r3)) :
  Calls Try.prog 131 #[.agg #[.int .i64 a0_0, .int .i64 a0_1, .bool a0_2]] w fun e w' => e = .returned (.agg #[.int .i64 r1, .int .i64 r2, .bool r3]) ∧ Below w.heap.size w w' := by
 have hu166 := Try.underlying166
 have hu164 := Try.underlying164
 have HB := Aside0.mk (Below.refl w.heap.size w)
 have H : (some (a0_0, a0_1, a0_2)) = some (r1, r2, r3) := h
 clear h
 simp only [Option.some.injEq, Prod.mk.injEq] at H
 obtain ⟨rfl, rfl, rfl⟩ := H
 go_enter Try.func131, Try.ntmps131
 go_wp2_with (first | ((with_reducible refine gate_dst (N := 1) rfl ?_); refine zbx (N := 1) (cs := #[.int .i64 a0_0, .int .i64 a0_1, .bool a0_2]) (t := 166) ?_; intro gb232 hg w2 hbox hb; have n0_ := Aside0.mk (below_step (zB HB.out) hb); have n1_ := Aside0.mk (hbox); have n2_ := Aside0.mk ((by rw [hg]; exact (below_size (zB HB.out)) : w.heap.size ≤ gb232)); have n3_ := Aside0.mk ((by rw [hg]; exact (below_size (zB HB.out)) : w.heap.size ≤ gb232)); clear HB; have HB := n0_; have BK232 := n1_; have GW232 := n2_; have GE232 := n3_; clear n0_ n1_ n2_ n3_; clear hb hbox hg) | ((with_reducible refine gate_dst (N := 2) rfl ?_); refine zbx (N := 2) (cs := #[.int .i64 0, .int .i64 0, .bool false]) (t := 164) ?_; intro gb233 hg w3 hbox hb; have n0_ := Aside0.mk (blk_below (g := gb232) (o := .cells #[.int .i64 a0_0, .int .i64 a0_1, .bool a0_2] 166 (0, 0)) (zb BK232.out) hb); have n1_ := Aside0.mk (below_step (zB2 HB.out GE232.out) hb); have n2_ := Aside0.mk (hbox); have n3_ := Aside0.mk ((by rw [hg]; exact (below_size (zB2 HB.out GE232.out)) : w.heap.size ≤ gb233)); have n4_ := Aside0.mk ((by rw [hg]; exact (below_size (zB2 HB.out GE232.out)) : w.heap.size ≤ gb233)); have n5_ := Aside0.mk ((by rw [hg]; exact Nat.ne_of_lt (blk_lt (g := gb232) (o := .cells #[.int .i64 a0_0, .int .i64 a0_1, .bool a0_2] 166 (0, 0)) (zb BK232.out)) : gb232 ≠ gb233)); have n6_ := Aside0.mk ((by rw [hg]; exact Nat.ne_of_gt (blk_lt (g := gb232) (o := .cells #[.int .i64 a0_0, .int .i64 a0_1, .bool a0_2] 166 (0, 0)) (zb BK232.out)) : gb233 ≠ gb232)); clear BK232; clear HB; have BK232 := n0_; have HB := n1_; have BK233 := n2_; have GW233 := n3_; have GE233 := n4_; have NB232_233 := n5_; have NB233_232 := n6_; clear n0_ n1_ n2_ n3_ n4_ n5_ n6_; clear hb hbox hg) | ((with_reducible refine gate_dst (N := 3) rfl ?_); refine zbx (N := 3) (cs := #[.int .i64 0, .int .i64 0, .bool false]) (t := 164) ?_; intro gb234 hg w4 hbox hb; have n0_ := Aside0.mk (blk_below (g := gb232) (o := .cells #[.int .i64 a0_0, .int .i64 a0_1, .bool a0_2] 166 (0, 0)) (zb BK232.out) hb); have n1_ := Aside0.mk (blk_below (g := gb233) (o := .cells #[.int .i64 0, .int .i64 0, .bool false] 164 (0, 0)) (zb BK233.out) hb); have n2_ := Aside0.mk (below_step (zB3 HB.out GE232.out GE233.out) hb); have n3_ := Aside0.mk (hbox); have n4_ := Aside0.mk ((by rw [hg]; exact (below_size (zB3 HB.out GE232.out GE233.out)) : w.heap.size ≤ gb234)); have n5_ := Aside0.mk ((by rw [hg]; exact (below_size (zB3 HB.out GE232.out GE233.out)) : w.heap.size ≤ gb234)); have n6_ := Aside0.mk ((by rw [hg]; exact Nat.ne_of_lt (blk_lt (g := gb232) (o := .cells #[.int .i64 a0_0, .int .i64 a0_1, .bool a0_2] 166 (0, 0)) (zb BK232.out)) : gb232 ≠ gb234)); have n7_ := Aside0.mk ((by rw [hg]; exact Nat.ne_of_gt (blk_lt (g := gb232) (o := .cells #[.int .i64 a0_0, .int .i64 a0_1, .bool a0_2] 166 (0, 0)) (zb BK232.out)) : gb234 ≠ gb232)); have n8_ := Aside0.mk ((by rw [hg]; exact Nat.ne_of_lt (blk_lt (g := gb233) (o := .cells #[.int .i64 0, .int .i64 0, .bool false] 164 (0, 0)) (zb BK233.out)) : gb233 ≠ gb234)); have n9_ := Aside0.mk ((by rw [hg]; exact Nat.ne_of_gt (blk_lt (g := gb233) (o := .cells #[.int .i64 0, .int .i64 0, .bool false] 164 (0, 0)) (zb BK233.out)) : gb234 ≠ gb233)); clear BK232; clear BK233; clear HB; have BK232 := n0_; have BK233 := n1_; have HB := n2_; have BK234 := n3_; have GW234 := n4_; have GE234 := n5_; have NB232_234 := n6_; have NB234_232 := n7_; have NB233_234 := n8_; have NB234_233 := n9_; clear n0_ n1_ n2_ n3_ n4_ n5_ n6_ n7_ n8_ n9_; clear hb hbox hg; have hnb5 := NB232_233.out; have hnc5 := NB233_232.out; have hnb6 := NB232_234.out; have hnc6 := NB234_232.out; have hcz7_0 : w4.cell? ⟨gb232, 0, none⟩ = some (.int .i64 a0_0) := (blk_cell BK232.out 0).trans rfl; have hcz7_1 : w4.cell? ⟨gb232, 1, none⟩ = some (.int .i64 a0_1) := (blk_cell BK232.out 1).trans rfl; have hcz7_2 : w4.cell? ⟨gb232, 2, none⟩ = some (.bool a0_2) := (blk_cell BK232.out 2).trans rfl; have hfz7_0 := blk_frozen BK232.out 0; have hfz7_1 := blk_frozen BK232.out 1; have hfz7_2 := blk_frozen BK232.out 2; have hnb8 := NB234_233.out; have hnc8 := NB233_234.out; have hcz9_0 : w4.cell? ⟨gb234, 0, none⟩ = some (.int .i64 0) := (blk_cell BK234.out 0).trans rfl; have hcz9_1 : w4.cell? ⟨gb234, 1, none⟩ = some (.int .i64 0) := (blk_cell BK234.out 1).trans rfl; have hcz9_2 : w4.cell? ⟨gb234, 2, none⟩ = some (.bool false) := (blk_cell BK234.out 2).trans rfl; have hfz9_0 := blk_frozen BK234.out 0; have hfz9_1 := blk_frozen BK234.out 1; have hfz9_2 := blk_frozen BK234.out 2; have hcz10_0 : w4.cell? ⟨gb233, 0, none⟩ = some (.int .i64 0) := (blk_cell BK233.out 0).trans rfl; have hcz10_1 : w4.cell? ⟨gb233, 1, none⟩ = some (.int .i64 0) := (blk_cell BK233.out 1).trans rfl; have hcz10_2 : w4.cell? ⟨gb233, 2, none⟩ = some (.bool false) := (blk_cell BK233.out 2).trans rfl; have hfz10_0 := blk_frozen BK233.out 0; have hfz10_1 := blk_frozen BK233.out 1; have hfz10_2 := blk_frozen BK233.out 2))
 refine bodyPost_ret (results_cell_row rfl _ _ gb233 164 #[.int .i64 a0_0, .int .i64 a0_1, .bool a0_2] (0, 0) _ rfl (by refine zb ?_; refine blk_put (cs := #[.int .i64 a0_0, .int .i64 a0_1, .bool false]) ?_ 2 _ rfl; refine zb ?_; refine blk_put (cs := #[.int .i64 a0_0, .int .i64 0, .bool false]) ?_ 1 _ rfl; refine zb ?_; refine blk_put (cs := #[.int .i64 0, .int .i64 0, .bool false]) ?_ 0 _ rfl; refine zb ?_; refine blk_far ?_ NB233_234.out _; refine zb ?_; refine blk_far ?_ NB233_234.out _; refine zb ?_; refine blk_far ?_ NB233_234.out _; refine zb ?_; exact BK233.out) Try.underlying164 rfl (by kernel_rfl)) rfl ?_
 exact ⟨zE, by repeat (first | (with_reducible first | exact HB.out | apply below_alloc | apply pw_below_drewN | apply below_drew1 | refine below_set ?_ GE232.out | refine below_set ?_ GE233.out | refine below_set ?_ GE234.out) | exact HB.out)⟩

end
end Go.Proofs.Ytimjblgepbhoaaa.PFnExactCanHold
