/- The walks of the functions that the law reaches: each computes what its Lean function says. No condition beyond each contract's own. -/
import Derived.Test.YthfpaldhdohnkaaHFnExactEvenTurnsx0
import Derived.Test.YthfpaldhdohnkaaHFnExactEvenTurnsx4
import Derived.Test.YthfpaldhdohnkaaHFnExactEvenTurnsx5
namespace Go.Proofs.Ythfpaldhdohnkaa.PFnExactEvenTurns
open Go.RowKit Go.Proofs.YthfpaldhdohnkaaW.PrintWords Go.Proofs.YthfpaldhdohnkaaW.PrintLast Go.Proofs.YthfpaldhdohnkaaW.PrintMore
attribute [local go_sem] max2_int min2_int max_two min_two max_three min_three max_four min_four   -- for this text's walks alone
set_option linter.unusedVariables false
set_option linter.unusedSimpArgs false

/-! ### spec_l12After: function 68 -/
mutual
def spec_l12After.l0 : Nat → List Int → List Int → Int → List Int → List (List Int) → Option (List Int)
  | 0, _, _, _, _, _ => none
  | k + 1, x1, x5, x6, x1000, x1001 => if x6 < (x5.length : Int) then (spec_l12After.l1 k x1 x5 x6 0 x1000 x1001) else (some x5)
def spec_l12After.l1 : Nat → List Int → List Int → Int → Int → List Int → List (List Int) → Option (List Int)
  | 0, _, _, _, _, _, _ => none
  | k + 1, x1, x5, x6, x7, x1000, x1001 => if x7 < (x1.length : Int) then (if 0 ≤ x6 then (if x6 < (x5.length : Int) then (if x6 < (x1001.length : Int) then (if 0 ≤ x7 then (if x7 < ((rd_L1 x1001 x6).length : Int) then (spec_l12After.l1 k x1 (x5.set (x6 : Int).toNat (wrap64 ((rd x5 x6) + (wrap64 ((rd (rd_L1 x1001 x6) x7) * (rd x1 x7)))))) x6 (wrap64 (x7 + 1)) x1000 x1001) else (none)) else (none)) else (none)) else (none)) else (none)) else (spec_l12After.l0 k x1 x5 (wrap64 (x6 + 1)) x1000 x1001)
end
def spec_l12After.f (k : Nat) (l0_0 : List Int) (l0_1 : List (List Int)) (l1 : List Int) : Option (List Int) := (spec_l00Own.f l0_0).bind fun t176 => (spec_l12After.l0 k l1 t176 0 l0_0 l0_1)
theorem spec_l12After.mono_l : ∀ k, (∀ y0 y1 y2 y3 y4, LeO (spec_l12After.l0 k y0 y1 y2 y3 y4) (spec_l12After.l0 (k + 1) y0 y1 y2 y3 y4)) ∧ (∀ y0 y1 y2 y3 y4 y5, LeO (spec_l12After.l1 k y0 y1 y2 y3 y4 y5) (spec_l12After.l1 (k + 1) y0 y1 y2 y3 y4 y5))
  | 0 => ⟨fun _ _ _ _ _ r h => by simp [spec_l12After.l0] at h, fun _ _ _ _ _ _ r h => by simp [spec_l12After.l1] at h⟩
  | k + 1 => by
    obtain ⟨ih0, ih1⟩ := spec_l12After.mono_l k
    refine ⟨?_, ?_⟩
    · intro y0 y1 y2 y3 y4
      unfold spec_l12After.l0
      repeat' first
      | (with_reducible exact ih0 _ _ _ _ _)
      | (with_reducible exact ih1 _ _ _ _ _ _)
      | (with_reducible exact LeO.refl _)
      | (with_reducible exact LeO.none _)
      | (with_reducible refine LeO.ite ?_ ?_)
      | (with_reducible refine LeO.bind ?_ (fun _ => ?_))
      | exact ih0 _ _ _ _ _
      | exact ih1 _ _ _ _ _ _
      | exact LeO.none _
      | refine LeO.ite ?_ ?_
      | refine LeO.bind ?_ (fun _ => ?_)
    · intro y0 y1 y2 y3 y4 y5
      unfold spec_l12After.l1
      repeat' first
      | (with_reducible exact ih0 _ _ _ _ _)
      | (with_reducible exact ih1 _ _ _ _ _ _)
      | (with_reducible exact LeO.refl _)
      | (with_reducible exact LeO.none _)
      | (with_reducible refine LeO.ite ?_ ?_)
      | (with_reducible refine LeO.bind ?_ (fun _ => ?_))
      | exact ih0 _ _ _ _ _
      | exact ih1 _ _ _ _ _ _
      | exact LeO.none _
      | refine LeO.ite ?_ ?_
      | refine LeO.bind ?_ (fun _ => ?_)
theorem spec_l12After.mono : ∀ a0 a1 a2 k, LeO (spec_l12After.f k a0 a1 a2) (spec_l12After.f (k + 1) a0 a1 a2) := by
  intro a0 a1 a2 k
  obtain ⟨ih0, ih1⟩ := spec_l12After.mono_l k
  unfold spec_l12After.f
  repeat' first
      | (with_reducible exact ih0 _ _ _ _ _)
      | (with_reducible exact ih1 _ _ _ _ _ _)
      | (with_reducible exact LeO.refl _)
      | (with_reducible exact LeO.none _)
      | (with_reducible refine LeO.ite ?_ ?_)
      | (with_reducible refine LeO.bind ?_ (fun _ => ?_))
      | exact ih0 _ _ _ _ _
      | exact ih1 _ _ _ _ _ _
      | exact LeO.none _
      | refine LeO.ite ?_ ?_
      | refine LeO.bind ?_ (fun _ => ?_)
def spec_l12After.T8 : Bool × List (List Nat × List Nat) := (true, [([], []), ([], []), ([0, 1], [0, 1]), ([2], [2]), ([], []), ([4], [4]), ([5], [5]), ([6], [6]), ([], []), ([7, 8], [7, 8]), ([9], [9]), ([], []), ([10, 11], [10, 11]), ([12], [12]), ([], []), ([], []), ([14, 15], [14, 15]), ([16], [16]), ([13, 17], [13, 17]), ([3, 18], [3, 18]), ([0, 1, 0, 1, 2, 3, 4, 5, 6, 7, 8, 9, 10, 11, 12, 13, 14, 15, 16, 17, 18, 19], [0, 1]), ([20, 19, 0, 1, 2, 3, 4, 5, 6, 7, 8, 9, 10, 11, 12, 13, 14, 15, 16, 17, 18, 19], [19, 20])])
def spec_l12After.B8 : List Nat := [0, 0, 3, 7, 0, 16, 48, 112, 0, 496, 1008, 0, 4080, 8176, 0, 0, 49152, 114688, 262128, 524287, 1048575, 2097151]
theorem spec_l12After.tab8 : rtab .any (opsOf Try.f68 8) = spec_l12After.T8 := by kernel_rfl
theorem spec_l12After.bits8 : waitsOk spec_l12After.T8.2 spec_l12After.B8 = true := by kernel_rfl
set_option maxHeartbeats 8000000 in
set_option maxRecDepth 100000 in
theorem spec_l12After.calls (k : Nat) (g0 : Nat) (A0_0 : Option Addr) (c0_0 : Nat) (l0_0 : List Int) (A0_1 : Option Addr) (c0_1 : Nat) (l0_1 : List (List Int)) (A1 : Option Addr) (c1 : Nat) (l1 : List Int) (r : List Int) (w : World) (hbk0 : w.heap[g0]? = some (.cells #[.slice A0_0 l0_0.length c0_0, .slice A0_1 l0_1.length c0_1] 27 (0, 0))) (hr0_0 : Kd.C (Kd.int .i64) w A0_0 l0_0.length l0_0) (hc0_0 : l0_0.length ≤ c0_0) (hr0_1 : Kd.C (Kd.slice 2 (Kd.int .i64)) w A0_1 l0_1.length l0_1) (hc0_1 : l0_1.length ≤ c0_1) (hr1 : Kd.C (Kd.int .i64) w A1 l1.length l1) (hc1 : l1.length ≤ c1) (h : spec_l12After.f k l0_0 l0_1 l1 = some r) :
    Calls Try.prog 68 #[.pointer (some ⟨g0, 0, none⟩), .slice A1 l1.length c1] w fun e w' => ∃ v0_ : Value, e = .returned (v0_) ∧ Kd.R (Kd.int .i64) 2 w' w.heap.size (fun _ => True) v0_ r ∧ Below w.heap.size w w' := by
  have HR0_0 := Aside0.mk hr0_0
  have HC0_0 := Aside0.mk hc0_0
  clear hr0_0 hc0_0
  have HR0_1 := Aside0.mk hr0_1
  have HC0_1 := Aside0.mk hc0_1
  clear hr0_1 hc0_1
  have HR1 := Aside0.mk hr1
  have HC1 := Aside0.mk hc1
  clear hr1 hc1
  have BK0 := Aside0.mk hbk0
  clear hbk0
  have HB := Aside0.mk (Below.refl w.heap.size w)
  have H : ((spec_l00Own.f l0_0).bind fun t176 => (spec_l12After.l0 k l1 t176 0 l0_0 l0_1)) = some r := h
  clear h
  replace H := Option.bind_eq_some_iff.mp H
  obtain ⟨t176, A30, H⟩ := H
  replace H : (spec_l12After.l0 k l1 t176 0 l0_0 l0_1) = some r := H
  have A3 := Aside0.mk A30
  clear A30
  have H' := Aside0.mk H
  clear H
  have hcz4_0 : w.cell? ⟨g0, 0, none⟩ = some (.slice A0_0 l0_0.length c0_0) := (blk_cell BK0.out 0).trans rfl
  have hcz4_1 : w.cell? ⟨g0, 1, none⟩ = some (.slice A0_1 l0_1.length c0_1) := (blk_cell BK0.out 1).trans rfl
  have hfz4_0 := blk_frozen BK0.out 0
  have hfz4_1 := blk_frozen BK0.out 1
  go_enter Try.func68, Try.ntmps68
  go_wp2_with (first | ((with_reducible refine gate_callee (f := 77) rfl ?_); refine goesL_ (some 12) rfl rfl Try.func77 (by kernel_rfl) rfl #[.slice A0_0 l0_0.length c0_0] rfl (by (try simp only [List.map_toArray, List.map_cons, List.map_nil]); first | done | rfl | (simp only [List.length_drop, List.length_take]; rfl)) ?_; (with_reducible refine (spec_l00Own.calls _ _ l0_0 t176 _ ?side1 ?side2 A3.out).mono ?_); (case side1 => repeat (first | exact HR0_0.out | (with_reducible refine Kd.C_alloc ?_ _) | (with_reducible refine Kd.C_drewN ?_ _) | (with_reducible refine Kd.C_drew ?_))); (case side2 => exact HC0_0.out); rintro e w5 ⟨v177, rfl, ho0, hb⟩; refine ⟨_, rfl, ?_⟩; have n0_ := Aside0.mk (Kd.R_lower ho0 (below_size (by repeat (first | (with_reducible first | exact HB.out | apply below_alloc | apply pw_below_drewN | apply below_drew1 | refine below_set ?_ GE0.out) | exact HB.out)))); have n1_ := Aside0.mk (blk_below (g := g0) (o := .cells #[.slice A0_0 l0_0.length c0_0, .slice A0_1 l0_1.length c0_1] 27 (0, 0)) (by (with_reducible repeat (first | refine blk_drewN ?_ _ | refine blk_drew ?_ | refine blk_alloc ?_ _)); exact BK0.out) hb); have n2_ := Aside0.mk (below_step (by repeat (first | (with_reducible first | exact HB.out | apply below_alloc | apply pw_below_drewN | apply below_drew1 | refine below_set ?_ GE0.out) | exact HB.out)) hb); clear BK0; clear HB; have HO178 := n0_; have BK0 := n1_; have HB := n2_; clear n0_ n1_ n2_; (try clear hb); (try clear hb2); (try clear hk); (try clear hi); (try clear ho0)))
  go_loopg [6] k (fun kq v6 w' => ∃ (x5_1 : List Int) (x6_1 : Int), v6 = .int .i64 x6_1 ∧ Aside0 (spec_l12After.l0 kq l1 x5_1 x6_1 l0_0 l0_1 = some r) ∧ Aside0 (kq ≤ k) ∧ Aside0 (Kd.R (Kd.int .i64) 2 w' w.heap.size (fun _ => True) v177 x5_1) ∧ Aside0 (w'.heap[g0]? = some (.cells #[(.slice A0_0 l0_0.length c0_0), (.slice A0_1 l0_1.length c0_1)] 27 (0, 0))) ∧ Aside0 (Below w.heap.size w w'))
  case atStart => exact ⟨(t176), (0), (by first | rfl | (simp; done) | (simp [*]; done)), H', ⟨Nat.le_refl _⟩, ⟨by (with_reducible repeat (first | apply Kd.R_alloc | apply Kd.R_drewN | apply Kd.R_drew)); exact HO178.out⟩, ⟨by (with_reducible repeat (first | refine blk_drewN ?_ _ | refine blk_drew ?_ | refine blk_alloc ?_ _)); exact BK0.out⟩, ⟨by repeat (first | (with_reducible first | exact HB.out | apply below_alloc | apply pw_below_drewN | apply below_drew1 | refine below_set ?_ GE0.out) | exact HB.out)⟩⟩
  case round =>
    clear H'
    try clear c1
    try clear p2
    try clear hcz4_0
    try clear hcz4_1
    try clear hfz4_0
    try clear hfz4_1
    obtain ⟨x5_1, x6_1, rfl, HA, HK1, HO_5, BK0, HB⟩ := hrel
    cases gk with
    | zero => exact absurd HA.out (by simp [spec_l12After.l0])
    | succ k1 =>
      have H := HA.out
      clear HA
      simp only [spec_l12After.l0] at H
      by_cases c6 : x6_1 < (x5_1.length : Int)
      · rw [if_pos c6] at H
        have c6b0 : decide (x6_1 < (x5_1.length : Int)) = true := decide_eq_true c6
        clear c6
        have H' := Aside0.mk H
        clear H
        obtain ⟨Ao7, co7, eo7⟩ := Kd.R_slice HO_5.out
        subst eo7
        go_wp2
        go_loopg [7] k1 (fun kq v7 w' => ∃ (x5_2 : List Int) (x7_2 : Int), v7 = .int .i64 x7_2 ∧ Aside0 (spec_l12After.l1 kq l1 x5_2 x6_1 x7_2 l0_0 l0_1 = some r) ∧ Aside0 (kq ≤ k1) ∧ Aside0 (Kd.R (Kd.int .i64) 2 w' w.heap.size (fun _ => True) (.slice Ao7 x5_1.length co7) x5_2) ∧ Aside0 (w'.heap[g0]? = some (.cells #[(.slice A0_0 l0_0.length c0_0), (.slice A0_1 l0_1.length c0_1)] 27 (0, 0))) ∧ Aside0 (Below w.heap.size w w'))
        case atStart => exact ⟨(x5_1), (0), (by first | rfl | (simp; done) | (simp [*]; done)), H', ⟨Nat.le_refl _⟩, ⟨by (with_reducible repeat (first | apply Kd.R_alloc | apply Kd.R_drewN | apply Kd.R_drew)); exact HO_5.out⟩, ⟨by (with_reducible repeat (first | refine blk_drewN ?_ _ | refine blk_drew ?_ | refine blk_alloc ?_ _)); exact BK0.out⟩, ⟨by repeat (first | (with_reducible first | exact HB.out | apply below_alloc | apply pw_below_drewN | apply below_drew1 | refine below_set ?_ GE0.out) | exact HB.out)⟩⟩
        case round =>
          clear H'
          try clear c1
          try clear p2
          try clear c6
          try clear c6b0
          try clear c7
          try clear hcz4_0
          try clear hcz4_1
          try clear hfz4_0
          try clear hfz4_1
          try clear p2
          obtain ⟨x5_2, x7_2, rfl, HA, HK2, HO_5, BK0, HB⟩ := hrel
          have hl5_2 := (Kd.R_reads' HO_5.out).1
          rw [hl5_2] at HO_5
          (try simp only [hl5_2])
          (try simp only [hl5_2] at BK0)
          cases gk with
          | zero => exact absurd HA.out (by simp [spec_l12After.l1])
          | succ k2 =>
            have H := HA.out
            clear HA
            simp only [spec_l12After.l1] at H
            by_cases c8 : x7_2 < (l1.length : Int)
            · rw [if_pos c8] at H
              have c8b0 : decide (x7_2 < (l1.length : Int)) = true := decide_eq_true c8
              clear c8
              by_cases c9 : 0 ≤ x6_1
              · rw [if_pos c9] at H
                have c9b0 : decide (0 ≤ x6_1) = true := decide_eq_true c9
                clear c9
                by_cases c10 : x6_1 < (x5_2.length : Int)
                · rw [if_pos c10] at H
                  have c10b0 : decide (x6_1 < (x5_2.length : Int)) = true := decide_eq_true c10
                  clear c10
                  by_cases c11 : x6_1 < (l0_1.length : Int)
                  · rw [if_pos c11] at H
                    have c11b0 : decide (x6_1 < (l0_1.length : Int)) = true := decide_eq_true c11
                    clear c11
                    by_cases c12 : 0 ≤ x7_2
                    · rw [if_pos c12] at H
                      have c12b0 : decide (0 ≤ x7_2) = true := decide_eq_true c12
                      clear c12
                      by_cases c13 : x7_2 < ((rd_L1 l0_1 x6_1).length : Int)
                      · rw [if_pos c13] at H
                        have c13b0 : decide (x7_2 < ((rd_L1 l0_1 x6_1).length : Int)) = true := decide_eq_true c13
                        clear c13
                        obtain ⟨y183, hy183⟩ : ∃ y_ : List Int, y_ = (x5_2.set (x6_1 : Int).toNat (wrap64 ((rd x5_2 x6_1) + (wrap64 ((rd (rd_L1 l0_1 x6_1) x7_2) * (rd l1 x7_2)))))) := ⟨_, rfl⟩
                        replace H : (spec_l12After.l1 k2 l1 y183 x6_1 (wrap64 (x7_2 + 1)) l0_0 l0_1) = some r := by first | (rw [hy183]; with_reducible exact H) | (have H2_ := (Option.bind_some _ _).symm.trans H; rw [hy183]; with_reducible exact H2_) | (have H2_ := (Option.bind_some _ _).symm.trans H; with_reducible exact H2_) | with_reducible exact H | (rw [hy183]; exact H) | exact H
                        have Ny183 := Aside0.mk hy183
                        clear hy183
                        have H' := Aside0.mk H
                        clear H
                        try go_wp2
                        have n0_ := Aside0.mk (Kd.R_drew HO_5.out)
                        have n1_ := Aside0.mk (blk_drew BK0.out)
                        have n2_ := Aside0.mk (below_drew1 HB.out)
                        clear HO_5
                        clear BK0
                        clear HB
                        have HO_5 := n0_
                        have BK0 := n1_
                        have HB := n2_
                        clear n0_ n1_ n2_
                        have p179 : 0 ≤ (x6_1 : Int) := of_decide_eq_true (by first | (with_reducible assumption) | assumption)
                        have q179 : x6_1 < (x5_2.length : Int) := of_decide_eq_true (by first | (with_reducible assumption) | assumption)
                        obtain ⟨ad179, e179, hx179_0⟩ := Kd.at_int (Kd.R_reads' HO_5.out).2.2 x6_1 p179 q179
                        cases e179
                        replace p179 := eq_true p179
                        replace q179 := eq_true q179
                        have p180 : 0 ≤ (x6_1 : Int) := of_decide_eq_true (by first | (with_reducible assumption) | assumption)
                        have q180 : x6_1 < (l0_1.length : Int) := of_decide_eq_true (by first | (with_reducible assumption) | assumption)
                        obtain ⟨ad180, A180_0, c180_0, e180, hx180_0, hl180_0, hi180_0⟩ := at_L1 HR0_1.out x6_1 p180 q180
                        have hw180_0 := hx180_0
                        cases e180
                        replace hx180_0 := (HB.out.cell (World.block_lt_of_cell? w _ hx180_0)).trans hx180_0
                        have HR180_0 := Aside0.mk hi180_0
                        have HC180_0 := Aside0.mk hl180_0
                        clear hi180_0 hl180_0
                        replace p180 := eq_true p180
                        replace q180 := eq_true q180
                        have p181 : 0 ≤ (x7_2 : Int) := of_decide_eq_true (by first | (with_reducible assumption) | assumption)
                        have q181 : x7_2 < ((rd_L1 l0_1 x6_1).length : Int) := of_decide_eq_true (by first | (with_reducible assumption) | assumption)
                        obtain ⟨ad181, e181, hx181_0⟩ := Kd.at_int HR180_0.out x7_2 p181 q181
                        have hw181_0 := hx181_0
                        cases e181
                        replace hx181_0 := (HB.out.cell (World.block_lt_of_cell? w _ hx181_0)).trans hx181_0
                        replace p181 := eq_true p181
                        replace q181 := eq_true q181
                        have p182 : 0 ≤ (x7_2 : Int) := of_decide_eq_true (by first | (with_reducible assumption) | assumption)
                        have q182 : x7_2 < (l1.length : Int) := of_decide_eq_true (by first | (with_reducible assumption) | assumption)
                        obtain ⟨ad182, e182, hx182_0⟩ := Kd.at_int HR1.out x7_2 p182 q182
                        have hw182_0 := hx182_0
                        cases e182
                        replace hx182_0 := (HB.out.cell (World.block_lt_of_cell? w _ hx182_0)).trans hx182_0
                        replace p182 := eq_true p182
                        replace q182 := eq_true q182
                        have p14 : 0 ≤ (x6_1 : Int) := of_decide_eq_true (by first | (with_reducible assumption) | assumption)
                        have q14 : (x6_1 : Int) < ((x5_2.length : Int) : Int) := of_decide_eq_true (by first | (with_reducible assumption) | assumption)
                        obtain ⟨go14, co14, eo14, gb14, gl14, cl14, HG14⟩ := Kd.R_form HO_5.out (by omega)
                        (first | cases eo14 | (injection eo14 with ea_ en_ ec_; (first | subst ea_ | (injection ea_ with ea_; subst ea_)); subst ec_; clear en_))
                        have GB14 := Aside0.mk gb14
                        have GG14 := Aside0.mk HG14
                        clear gb14 gl14 HG14
                        (first | simp only [add_plain] at hx179_0 | skip)
                        obtain ⟨hx14_0, hf14_0⟩ := Kd.R_celln 0 HO_5.out (x6_1 : Int) p14 q14
                        replace p14 := eq_true p14
                        replace q14 := eq_true q14
                        have HP16 := Kd.R_putn HO_5.out (x6_1 : Int) (wrap64 ((rd x5_2 x6_1) + (wrap64 ((rd (rd_L1 l0_1 x6_1) x7_2) * (rd l1 x7_2)))))
                        rw [← Ny183.out] at HP16
                        have HQ16 := Aside0.mk HP16
                        clear HP16
                        refine start_ (n := 22) (S := fun w' => w'.cell? ⟨g0, 0, none⟩ = some (.slice A0_0 l0_0.length c0_0) ∧ w'.cell? ⟨g0, 1, none⟩ = some (.slice (some ad180) l0_1.length c0_1) ∧ w'.cell? ⟨go14, (x6_1).toNat, none⟩ = some (.int .i64 (rd x5_2 x6_1)) ∧ w'.cell? (ad180.add (x6_1).toNat) = some (.slice (some ad181) (rd_L1 l0_1 x6_1).length c180_0) ∧ w'.cell? (ad181.add (x7_2).toNat) = some (.int .i64 (rd (rd_L1 l0_1 x6_1) x7_2)) ∧ w'.cell? (ad182.add (x7_2).toNat) = some (.int .i64 (rd l1 x7_2))) (ds := [21]) #[false, false, false, false, false, false, false, false, false, false, false, false, false, false, false, false, false, false, false, false, false, false] (by kernel_rfl) rfl rfl ⟨(blk_cell BK0.out 0).trans rfl, (blk_cell BK0.out 1).trans rfl, hx179_0, ((HB.out.cell (World.block_lt_of_cell? w _ hw180_0)).trans hw180_0), ((HB.out.cell (World.block_lt_of_cell? w _ hw181_0)).trans hw181_0), ((HB.out.cell (World.block_lt_of_cell? w _ hw182_0)).trans hw182_0)⟩ (fun hHeld => ?_); refine with_tabW spec_l12After.tab8 spec_l12After.bits8 (fun HT_ HW_ => ?_)
                        generalize wr.drew = w15 at HO_5 BK0 HB GG14 HQ16 HR180_0 hf14_0 hx14_0 hx179_0 hx180_0 hx181_0 hx182_0 hHeld ⊢
                        refine pure_ (i := 0) (N := some 25) (v := ?_) (a' := ?_) #[true, false, false, false, false, false, false, false, false, false, false, false, false, false, false, false, false, false, false, false, false, false] rfl rfl (any_of HT_.out (by kernel_rfl)) (fun _ _ _ h => h) (Or.inl ⟨by rfl, ?_⟩) ?_ ?_
                        rotate_left
                        · intro w'
                          go_simp
                          with_reducible rfl
                        rotate_left
                        · simp only [Act.put, List.setIfInBounds_toArray, List.set_cons_zero, List.set_cons_succ, i64_w, i32_w]
                          rfl
                        refine pure_ (i := 1) (N := some 26) (v := ?_) (a' := ?_) #[true, true, false, false, false, false, false, false, false, false, false, false, false, false, false, false, false, false, false, false, false, false] rfl rfl (any_of HT_.out (by kernel_rfl)) (fun _ _ _ h => h) (Or.inl ⟨by rfl, ?_⟩) ?_ ?_
                        rotate_left
                        · intro w'
                          go_simp
                          with_reducible rfl
                        rotate_left
                        · simp only [Act.put, List.setIfInBounds_toArray, List.set_cons_zero, List.set_cons_succ, i64_w, i32_w]
                          rfl
                        refine pure_ (i := 2) (N := some 27) (v := ?_) (a' := ?_) #[true, true, true, false, false, false, false, false, false, false, false, false, false, false, false, false, false, false, false, false, false, false] rfl rfl (any_of HT_.out (by kernel_rfl)) (fun _ _ _ h => h) (Or.inl ⟨by rfl, ?_⟩) ?_ ?_
                        rotate_left
                        · intro w'
                          go_simp
                          with_reducible rfl
                        rotate_left
                        · simp only [Act.put, List.setIfInBounds_toArray, List.set_cons_zero, List.set_cons_succ, i64_w, i32_w]
                          rfl
                        refine pure_ (i := 4) (N := some 29) (v := ?_) (a' := ?_) #[true, true, true, false, true, false, false, false, false, false, false, false, false, false, false, false, false, false, false, false, false, false] rfl rfl (any_of HT_.out (by kernel_rfl)) (fun _ _ _ h => h) (Or.inl ⟨by rfl, ?_⟩) ?_ ?_
                        rotate_left
                        · intro w'
                          go_simp
                          with_reducible rfl
                        rotate_left
                        · simp only [Act.put, List.setIfInBounds_toArray, List.set_cons_zero, List.set_cons_succ, i64_w, i32_w]
                          rfl
                        refine pure_ (i := 5) (N := some 30) (v := ?_) (a' := ?_) #[true, true, true, false, true, true, false, false, false, false, false, false, false, false, false, false, false, false, false, false, false, false] rfl rfl (any_of HT_.out (by kernel_rfl)) (fun _ _ _ h => h) (Or.inl ⟨by rfl, ?_⟩) ?_ ?_
                        rotate_left
                        · intro w'
                          go_simp
                          with_reducible rfl
                        rotate_left
                        · simp only [Act.put, List.setIfInBounds_toArray, List.set_cons_zero, List.set_cons_succ, i64_w, i32_w]
                          rfl
                        refine pure_ (i := 6) (N := some 31) (v := ?_) (a' := ?_) #[true, true, true, false, true, true, true, false, false, false, false, false, false, false, false, false, false, false, false, false, false, false] rfl rfl (any_of HT_.out (by kernel_rfl)) (fun _ _ _ h => h) (Or.inl ⟨by rfl, ?_⟩) ?_ ?_
                        rotate_left
                        · intro w'
                          go_simp
                          with_reducible rfl
                        rotate_left
                        · simp only [Act.put, List.setIfInBounds_toArray, List.set_cons_zero, List.set_cons_succ, i64_w, i32_w]
                          rfl
                        refine pure_ (i := 8) (N := some 33) (v := ?_) (a' := ?_) #[true, true, true, false, true, true, true, false, true, false, false, false, false, false, false, false, false, false, false, false, false, false] rfl rfl (any_of HT_.out (by kernel_rfl)) (fun _ _ _ h => h) (Or.inl ⟨by rfl, ?_⟩) ?_ ?_
                        rotate_left
                        · intro w'
                          go_simp
                          with_reducible rfl
                        rotate_left
                        · simp only [Act.put, List.setIfInBounds_toArray, List.set_cons_zero, List.set_cons_succ, i64_w, i32_w]
                          rfl
                        refine pure_ (i := 11) (N := some 36) (v := ?_) (a' := ?_) #[true, true, true, false, true, true, true, false, true, false, false, true, false, false, false, false, false, false, false, false, false, false] rfl rfl (any_of HT_.out (by kernel_rfl)) (fun _ _ _ h => h) (Or.inl ⟨by rfl, ?_⟩) ?_ ?_
                        rotate_left
                        · intro w'
                          go_simp
                          with_reducible rfl
                        rotate_left
                        · simp only [Act.put, List.setIfInBounds_toArray, List.set_cons_zero, List.set_cons_succ, i64_w, i32_w]
                          rfl
                        refine pure_ (i := 14) (N := some 39) (v := ?_) (a' := ?_) #[true, true, true, false, true, true, true, false, true, false, false, true, false, false, true, false, false, false, false, false, false, false] rfl rfl (any_of HT_.out (by kernel_rfl)) (fun _ _ _ h => h) (Or.inl ⟨by rfl, ?_⟩) ?_ ?_
                        rotate_left
                        · intro w'
                          go_simp
                          with_reducible rfl
                        rotate_left
                        · simp only [Act.put, List.setIfInBounds_toArray, List.set_cons_zero, List.set_cons_succ, i64_w, i32_w]
                          rfl
                        refine pure_ (i := 15) (N := some 40) (v := ?_) (a' := ?_) #[true, true, true, false, true, true, true, false, true, false, false, true, false, false, true, true, false, false, false, false, false, false] rfl rfl (any_of HT_.out (by kernel_rfl)) (fun _ _ _ h => h) (Or.inl ⟨by rfl, ?_⟩) ?_ ?_
                        rotate_left
                        · intro w'
                          go_simp
                          with_reducible rfl
                        rotate_left
                        · simp only [Act.put, List.setIfInBounds_toArray, List.set_cons_zero, List.set_cons_succ, i64_w, i32_w]
                          rfl
                        refine pure_ (i := 16) (N := some 41) (v := ?_) (a' := ?_) #[true, true, true, false, true, true, true, false, true, false, false, true, false, false, true, true, true, false, false, false, false, false] rfl rfl (any_of HT_.out (by kernel_rfl)) (fun _ _ _ h => h) (Or.inl ⟨by rfl, ?_⟩) ?_ ?_
                        rotate_left
                        · intro w'
                          go_simp
                          with_reducible rfl
                        rotate_left
                        · simp only [Act.put, List.setIfInBounds_toArray, List.set_cons_zero, List.set_cons_succ, i64_w, i32_w]
                          rfl
                        refine take_ (i := 3) (N := some 28) (v := ?_) (a' := ?_) #[true, true, true, true, true, true, true, false, true, false, false, true, false, false, true, true, true, false, false, false, false, false] rfl rfl (take_ofW HT_.out HW_.out (by kernel_rfl)) (fun _ _ _ h => h) (Or.inl ⟨by rfl, ?_⟩) hHeld ?_ ?_
                        rotate_left
                        · rintro w' ⟨s0, s1, s2, s3, s4, s5⟩
                          go_simp
                          with_reducible rfl
                        rotate_left
                        · simp only [Act.put, List.setIfInBounds_toArray, List.set_cons_zero, List.set_cons_succ, i64_w, i32_w]
                          rfl
                        refine take_ (i := 7) (N := some 32) (v := ?_) (a' := ?_) #[true, true, true, true, true, true, true, true, true, false, false, true, false, false, true, true, true, false, false, false, false, false] rfl rfl (take_ofW HT_.out HW_.out (by kernel_rfl)) (fun _ _ _ h => h) (Or.inl ⟨by rfl, ?_⟩) hHeld ?_ ?_
                        rotate_left
                        · rintro w' ⟨s0, s1, s2, s3, s4, s5⟩
                          go_simp
                          with_reducible rfl
                        rotate_left
                        · simp only [Act.put, List.setIfInBounds_toArray, List.set_cons_zero, List.set_cons_succ, i64_w, i32_w]
                          rfl
                        refine pure_ (i := 9) (N := some 34) (v := ?_) (a' := ?_) #[true, true, true, true, true, true, true, true, true, true, false, true, false, false, true, true, true, false, false, false, false, false] rfl rfl (any_of HT_.out (by kernel_rfl)) (fun _ _ _ h => h) (Or.inl ⟨by rfl, ?_⟩) ?_ ?_
                        rotate_left
                        · intro w'
                          go_simp
                          with_reducible rfl
                        rotate_left
                        · simp only [Act.put, List.setIfInBounds_toArray, List.set_cons_zero, List.set_cons_succ, i64_w, i32_w]
                          rfl
                        refine take_ (i := 10) (N := some 35) (v := ?_) (a' := ?_) #[true, true, true, true, true, true, true, true, true, true, true, true, false, false, true, true, true, false, false, false, false, false] rfl rfl (take_ofW HT_.out HW_.out (by kernel_rfl)) (fun _ _ _ h => h) (Or.inl ⟨by rfl, ?_⟩) hHeld ?_ ?_
                        rotate_left
                        · rintro w' ⟨s0, s1, s2, s3, s4, s5⟩
                          go_simp
                          with_reducible rfl
                        rotate_left
                        · simp only [Act.put, List.setIfInBounds_toArray, List.set_cons_zero, List.set_cons_succ, i64_w, i32_w]
                          rfl
                        refine pure_ (i := 12) (N := some 37) (v := ?_) (a' := ?_) #[true, true, true, true, true, true, true, true, true, true, true, true, true, false, true, true, true, false, false, false, false, false] rfl rfl (any_of HT_.out (by kernel_rfl)) (fun _ _ _ h => h) (Or.inl ⟨by rfl, ?_⟩) ?_ ?_
                        rotate_left
                        · intro w'
                          go_simp
                          with_reducible rfl
                        rotate_left
                        · simp only [Act.put, List.setIfInBounds_toArray, List.set_cons_zero, List.set_cons_succ, i64_w, i32_w]
                          rfl
                        refine take_ (i := 13) (N := some 38) (v := ?_) (a' := ?_) #[true, true, true, true, true, true, true, true, true, true, true, true, true, true, true, true, true, false, false, false, false, false] rfl rfl (take_ofW HT_.out HW_.out (by kernel_rfl)) (fun _ _ _ h => h) (Or.inl ⟨by rfl, ?_⟩) hHeld ?_ ?_
                        rotate_left
                        · rintro w' ⟨s0, s1, s2, s3, s4, s5⟩
                          go_simp
                          with_reducible rfl
                        rotate_left
                        · simp only [Act.put, List.setIfInBounds_toArray, List.set_cons_zero, List.set_cons_succ, i64_w, i32_w]
                          rfl
                        refine take_ (i := 17) (N := some 42) (v := ?_) (a' := ?_) #[true, true, true, true, true, true, true, true, true, true, true, true, true, true, true, true, true, true, false, false, false, false] rfl rfl (take_ofW HT_.out HW_.out (by kernel_rfl)) (fun _ _ _ h => h) (Or.inl ⟨by rfl, ?_⟩) hHeld ?_ ?_
                        rotate_left
                        · rintro w' ⟨s0, s1, s2, s3, s4, s5⟩
                          go_simp
                          with_reducible rfl
                        rotate_left
                        · simp only [Act.put, List.setIfInBounds_toArray, List.set_cons_zero, List.set_cons_succ, i64_w, i32_w]
                          rfl
                        refine pure_ (i := 18) (N := some 43) (v := ?_) (a' := ?_) #[true, true, true, true, true, true, true, true, true, true, true, true, true, true, true, true, true, true, true, false, false, false] rfl rfl (any_of HT_.out (by kernel_rfl)) (fun _ _ _ h => h) (Or.inl ⟨by rfl, ?_⟩) ?_ ?_
                        rotate_left
                        · intro w'
                          go_simp
                          with_reducible rfl
                        rotate_left
                        · simp only [Act.put, List.setIfInBounds_toArray, List.set_cons_zero, List.set_cons_succ, i64_w, i32_w]
                          rfl
                        refine pure_ (i := 19) (N := some 44) (v := ?_) (a' := ?_) #[true, true, true, true, true, true, true, true, true, true, true, true, true, true, true, true, true, true, true, true, false, false] rfl rfl (any_of HT_.out (by kernel_rfl)) (fun _ _ _ h => h) (Or.inl ⟨by rfl, ?_⟩) ?_ ?_
                        rotate_left
                        · intro w'
                          go_simp
                          with_reducible rfl
                        rotate_left
                        · simp only [Act.put, List.setIfInBounds_toArray, List.set_cons_zero, List.set_cons_succ, i64_w, i32_w]
                          rfl
                        refine pure_ (i := 20) (N := some 45) (v := ?_) (a' := ?_) #[true, true, true, true, true, true, true, true, true, true, true, true, true, true, true, true, true, true, true, true, true, false] rfl rfl (any_of HT_.out (by kernel_rfl)) (fun _ _ _ h => h) (Or.inl ⟨by rfl, ?_⟩) ?_ ?_
                        rotate_left
                        · intro w'
                          go_simp
                          with_reducible rfl
                        rotate_left
                        · simp only [Act.put, List.setIfInBounds_toArray, List.set_cons_zero, List.set_cons_succ, i64_w, i32_w]
                          rfl
                        refine last_ (i := 21) (N := none) #[true, true, true, true, true, true, true, true, true, true, true, true, true, true, true, true, true, true, true, true, true, true] rfl rfl (one_of HT_.out (by kernel_rfl)) (by decide) (fun K hK => ?_)
                        refine skip_ (w1 := ?_) (by rfl) rfl ?_ ?_
                        rotate_left
                        · go_simp
                          rfl
                        refine hK.out _ _ ?_
                        clear hK K
                        refine done_ (done_of HT_.out (by kernel_rfl)) ?_
                        try go_wp2
                        (try simp only [← hl5_2])
                        go_roundg k2
                        case measure => have := HK1.out; have := HK2.out; omega
                        case rel => exact ⟨(y183), (wrap64 (x7_2 + 1)), (by first | rfl | (simp; done) | (simp [*]; done)), H', ⟨by have := HK1.out; have := HK2.out; omega⟩, ⟨by (try simp only [hl5_2]); (with_reducible repeat (first | apply Kd.R_alloc | apply Kd.R_drewN | apply Kd.R_drew)); exact HQ16.out⟩, ⟨by (try simp only [hl5_2]); (with_reducible repeat (first | refine blk_drewN ?_ _ | refine blk_drew ?_ | refine blk_alloc ?_ _)); refine blk_far ?_ (by have h_ := Kd.R_ne HO_5.out BK0.out (by decide); intro e_; exact h_ (by rw [e_]; rfl)) _; (with_reducible repeat (first | refine blk_drewN ?_ _ | refine blk_drew ?_ | refine blk_alloc ?_ _)); exact BK0.out⟩, ⟨by repeat (first | (with_reducible first | exact HB.out | apply below_alloc | apply pw_below_drewN | apply below_drew1 | refine below_set ?_ GB14.out | refine below_set ?_ GE0.out) | exact HB.out)⟩⟩
                      · rw [if_neg c13] at H
                        exact absurd H (by simp)
                    · rw [if_neg c12] at H
                      exact absurd H (by simp)
                  · rw [if_neg c11] at H
                    exact absurd H (by simp)
                · rw [if_neg c10] at H
                  exact absurd H (by simp)
              · rw [if_neg c9] at H
                exact absurd H (by simp)
            · rw [if_neg c8] at H
              have c8b0 : decide (x7_2 < (l1.length : Int)) = false := decide_eq_false c8
              clear c8
              have H' := Aside0.mk H
              clear H
              go_wp2
              (try simp only [← hl5_2])
              go_roundg k2
              case measure => have := HK1.out; have := HK2.out; omega
              case rel => exact ⟨(x5_2), (wrap64 (x6_1 + 1)), (by first | rfl | (simp; done) | (simp [*]; done)), H', ⟨by have := HK1.out; have := HK2.out; omega⟩, ⟨by (try simp only [hl5_2]); (with_reducible repeat (first | apply Kd.R_alloc | apply Kd.R_drewN | apply Kd.R_drew)); exact HO_5.out⟩, ⟨by (try simp only [hl5_2]); (with_reducible repeat (first | refine blk_drewN ?_ _ | refine blk_drew ?_ | refine blk_alloc ?_ _)); exact BK0.out⟩, ⟨by repeat (first | (with_reducible first | exact HB.out | apply below_alloc | apply pw_below_drewN | apply below_drew1 | refine below_set ?_ GE0.out) | exact HB.out)⟩⟩
      · rw [if_neg c6] at H
        have c6b0 : decide (x6_1 < (x5_1.length : Int)) = false := decide_eq_false c6
        clear c6
        obtain rfl := Option.some.inj H
        obtain ⟨Ao17, co17, eo17⟩ := Kd.R_slice HO_5.out
        subst eo17
        go_wp2
        go_ret
        exact ⟨_, by first | rfl | (simp [errW_none, errW_some] <;> rfl) | (simp [*, errW_none, errW_some] <;> rfl), by (with_reducible repeat (first | apply Kd.R_alloc | apply Kd.R_drewN | apply Kd.R_drew)); exact HO_5.out, by repeat (first | (with_reducible first | exact HB.out | apply below_alloc | apply pw_below_drewN | apply below_drew1 | refine below_set ?_ GE0.out) | exact HB.out)⟩

/-! ### spec_l00Min: function 79 -/
def spec_l00Min.f (a0 : Int) (a1 : Int) : Option (Int) := if a0 < a1 then (some a0) else (some a1)
set_option maxHeartbeats 8000000 in
set_option maxRecDepth 100000 in
theorem spec_l00Min.calls (a0 : Int) (a1 : Int) (r : Int) (w : World) (h : spec_l00Min.f a0 a1 = some r) :
    Calls Try.prog 79 #[.int .i64 a0, .int .i64 a1] w fun e w' => e = .returned (.int .i64 r) ∧ Drawn0 w w' := by
  have H : (if a0 < a1 then (some a0) else (some a1)) = some r := h
  clear h
  by_cases c3 : a0 < a1
  · rw [if_pos c3] at H
    have c3b0 : decide (a0 < a1) = true := decide_eq_true c3
    clear c3
    obtain rfl := Option.some.inj H
    go_enter Try.func79, Try.ntmps79
    go_wp2
    go_ret
    exact ⟨by first | rfl | (simp; done) | (simp [*]; done), by repeat (first | exact Drawn0.refl _ | apply Drawn0.step)⟩
  · rw [if_neg c3] at H
    have c3b0 : decide (a0 < a1) = false := decide_eq_false c3
    clear c3
    obtain rfl := Option.some.inj H
    go_enter Try.func79, Try.ntmps79
    go_wp2
    go_ret
    exact ⟨by first | rfl | (simp; done) | (simp [*]; done), by repeat (first | exact Drawn0.refl _ | apply Drawn0.step)⟩

/-! ### spec_l00Max: function 80 -/
def spec_l00Max.f (a0 : Int) (a1 : Int) : Option (Int) := if a0 > a1 then (some a0) else (some a1)
set_option maxHeartbeats 8000000 in
set_option maxRecDepth 100000 in
theorem spec_l00Max.calls (a0 : Int) (a1 : Int) (r : Int) (w : World) (h : spec_l00Max.f a0 a1 = some r) :
    Calls Try.prog 80 #[.int .i64 a0, .int .i64 a1] w fun e w' => e = .returned (.int .i64 r) ∧ Drawn0 w w' := by
  have H : (if a0 > a1 then (some a0) else (some a1)) = some r := h
  clear h
  by_cases c3 : a0 > a1
  · rw [if_pos c3] at H
    have c3b0 : decide (a1 < a0) = true := decide_eq_true c3
    clear c3
    obtain rfl := Option.some.inj H
    go_enter Try.func80, Try.ntmps80
    go_wp2
    go_ret
    exact ⟨by first | rfl | (simp; done) | (simp [*]; done), by repeat (first | exact Drawn0.refl _ | apply Drawn0.step)⟩
  · rw [if_neg c3] at H
    have c3b0 : decide (a1 < a0) = false := decide_eq_false c3
    clear c3
    obtain rfl := Option.some.inj H
    go_enter Try.func80, Try.ntmps80
    go_wp2
    go_ret
    exact ⟨by first | rfl | (simp; done) | (simp [*]; done), by repeat (first | exact Drawn0.refl _ | apply Drawn0.step)⟩

/-! ### spec_EvenTurns: function 44 -/
/-! by hand: (*l12W).walk, over whatever its cost computes -/
structure SpJ (w0 : World) (gt gw : Nat) (A0 : Option Addr) (n0 c0 : Nat) (A1 : Option Addr) (n1 c1 : Nat) (lv hv : Value) (M : Nat) (s : List Int × Int) (w : World) : Prop where
  b0 : w.heap[gt]? = some (.cells #[.slice A0 n0 c0, .slice A1 n1 c1] 27 (0, 0))
  rest : ∃ vb, w.heap[gw]? = some (.cells #[.pointer (some ⟨gt, 0, none⟩), lv, hv, vb, .int .i64 s.2] 75 (0, 0)) ∧ Kd.R (Kd.int .i64) 2 w w0.heap.size (fun k => M ≤ k) vb s.1
theorem SpJ.kept {w0 w w' : World} {gt gw : Nat} {A0 : Option Addr} {n0 c0 : Nat} {A1 : Option Addr} {n1 c1 : Nat} {lv hv : Value} {M : Nat} {s : List Int × Int} {S : Nat → Prop} (h : SpJ w0 gt gw A0 n0 c0 A1 n1 c1 lv hv M s w) (hk : Kept w w' S) (h0 : ¬ S gt) (h1 : ¬ S gw) (hN : ∀ k, M ≤ k → ¬ S k) : SpJ w0 gt gw A0 n0 c0 A1 n1 c1 lv hv M s w' := by
  obtain ⟨vb, e1, e2⟩ := h.rest
  exact ⟨blk_kept h.b0 hk h0, vb, blk_kept e1 hk h1, Kd.R_kept e2 hk hN⟩
def stepC (costF : List Int → Int) (s : List Int × Int) (tn : List Int) : List Int × Int :=
  if 0 ≤ costF tn ∧ (s.2 < 0 ∨ costF tn < s.2) then (tn, costF tn) else s
theorem R_fit1 {P : Program} {ops : Array Oper} {rest : List Oper} {o : Oper} {a : Act} {Q : Exit → Act → World → Prop} {W : World} (hgd : o.guard = none) (s x : Operand) (t e : TypeId) {z : Value} {bytes : Nat}
    (hop : o.op = Op.call { callee := Callee.builtin Builtin.append, args := #[s, x], argTypes := #[t, t] }) (ht : P.underlying t = some (.slice e)) (hinfo : (P.info? e).map (fun i => (i.zero, i.size, i.bytes)) = some (some z, 1, bytes))
    (base : Nat) (ok ok2 : Nat → Prop) (base2 : Nat) (g i cap c : Nat) (A : Option Addr) (pre : List Int) (v : Int) (hs : a.eval s = .slice (some ⟨g, 0, none⟩) i cap) (hx : a.eval x = .slice A 1 c) (hi : pre.length = i)
    (HO : Kd.R (Kd.int .i64) e W base ok (.slice (some ⟨g, 0, none⟩) i cap) pre) (HX : Kd.R (Kd.int .i64) e W base2 ok2 (.slice A 1 c) [v]) (hc : i + 1 ≤ cap)
    (h : ∀ w1, Kd.R (Kd.int .i64) e w1 base ok (.slice (some ⟨g, 0, none⟩) (i + 1) cap) (pre ++ [v]) → W.grownBy w1 (some g) → wpList P ops Q rest (a.put o.dst (.slice (some ⟨g, 0, none⟩) (i + 1) cap)) w1) : wpList P ops Q (o :: rest) a W := by
  obtain ⟨i0, hi0, hzz⟩ := Option.map_eq_some_iff.1 hinfo
  simp only [Prod.mk.injEq] at hzz
  obtain ⟨h0, inner, ho, hr⟩ := HO
  obtain ⟨gx, rfl⟩ := R_some HX (by omega)
  have hcx : W.cell? ⟨gx, 0, none⟩ = some (.int .i64 v) := (Kd.R_celln 0 HX 0 (by omega) (by simp)).1
  subst hi
  refine wpList_append_fits W hgd s x t hop base e i0 1 ht hi0 hzz.2.1 g pre.length cap inner hs ho ⟨gx, 0, none⟩ 1 c [.int .i64 v] hx rfl ?_ ?_ hc ?_
  · intro j u hj
    match j, hj with
    | 0, hj => simp at hj; subst hj; exact hcx
    | j + 1, hj => simp at hj
  · intro u hu
    rw [List.mem_singleton.1 hu]
    rfl
  · intro w' ho' hg'
    exact h w' ⟨h0, inner ++ [.int .i64 v], by rw [List.length_append]; exact ho', Reps.snoc (R := (Kd.int .i64).M w' base _) (c := [.int .i64 v]) (hr.imp_ (fun p c hp => hp)) (show [Value.int .i64 v] = [Value.int .i64 v] from rfl) rfl⟩ hg'
set_option maxHeartbeats 8000000 in
set_option maxRecDepth 100000 in
theorem walkC_calls (w0 : World) (gt gw gr n : Nat) (A0 : Option Addr) (c0 : Nat) (A1 : Option Addr) (n1 c1 : Nat) (lv hv : Value) (M : Nat) (hg : w0.heap.size ≤ gt ∧ gt < gw ∧ gw < gr ∧ gr < M) (hn1 : 1 ≤ n) (hn6 : n ≤ 1048576) (costF : List Int → Int)
    (hown : ∀ pre : List Int, pre.length = n → spec_l00Own.f pre = some pre)
    (hcost : ∀ s w cp pre, SpJ w0 gt gw A0 n c0 A1 n1 c1 lv hv M s w → Below w0.heap.size w0 w → pre.length = n → Kd.C (Kd.int .i64) w (some ⟨gr, 0, none⟩) pre.length pre → pre.length ≤ cp → Calls Try.prog 78 #[.pointer (some ⟨gw, 0, none⟩), .slice (some ⟨gr, 0, none⟩) pre.length cp] w fun e w' => e = .returned (.int .i64 (costF pre)) ∧ Below w.heap.size w w') :
    ∀ (m i : Nat) (s : List Int × Int) (pre : List Int) (w : World), n - i = m → i ≤ n → pre.length = i → SpJ w0 gt gw A0 n c0 A1 n1 c1 lv hv M s w → M ≤ w.heap.size → Below w0.heap.size w0 w → Kd.R (Kd.int .i64) 2 w w0.heap.size (fun k => k = gr) (.slice (some ⟨gr, 0, none⟩) i n) pre →
    Calls Try.prog 73 #[.pointer (some ⟨gw, 0, none⟩), .slice (some ⟨gr, 0, none⟩) i n] w fun e w' =>
      e = .returned (.tuple #[]) ∧ SpJ w0 gt gw A0 n c0 A1 n1 c1 lv hv M (fills (stepC costF) m s pre) w' ∧ M ≤ w'.heap.size ∧ Below w0.heap.size w0 w' ∧ Kd.R (Kd.int .i64) 2 w' w0.heap.size (fun k => k = gr) (.slice (some ⟨gr, 0, none⟩) i n) pre := by
  have hu24 := Try.underlying24
  have hu27 := Try.underlying27
  have hu75 := Try.underlying75
  intro m
  induction m with
  | zero =>
    intro i s pre w h1 h2 h3 hJ hM hB hR
    obtain rfl : i = n := by omega
    have hpre := hown pre h3
    have hc := hcost s w i pre hJ hB h3 (Kd.R_reads' (by rw [h3] at *; exact hR)).2.2 (by omega)
    rw [h3] at hc
    obtain ⟨vb, e1, e2⟩ := hJ.rest
    have hcases : (decide (0 ≤ costF pre) = false ∧ stepC costF s pre = s) ∨ (decide (0 ≤ costF pre) = true ∧ decide (s.2 < 0) = true ∧ stepC costF s pre = (pre, costF pre)) ∨ (decide (0 ≤ costF pre) = true ∧ decide (s.2 < 0) = false ∧ decide (costF pre < s.2) = true ∧ stepC costF s pre = (pre, costF pre)) ∨ (decide (0 ≤ costF pre) = true ∧ decide (s.2 < 0) = false ∧ decide (costF pre < s.2) = false ∧ stepC costF s pre = s) := by
      by_cases a1 : 0 ≤ costF pre
      · by_cases a2 : s.2 < 0
        · exact .inr (.inl ⟨decide_eq_true a1, decide_eq_true a2, if_pos ⟨a1, .inl a2⟩⟩)
        · by_cases a3 : costF pre < s.2
          · exact .inr (.inr (.inl ⟨decide_eq_true a1, decide_eq_false a2, decide_eq_true a3, if_pos ⟨a1, .inr a3⟩⟩))
          · exact .inr (.inr (.inr ⟨decide_eq_true a1, decide_eq_false a2, decide_eq_false a3, if_neg (fun h_ => h_.2.elim a2 a3)⟩))
      · exact .inl ⟨decide_eq_false a1, if_neg (fun h_ => a1 h_.1)⟩
    obtain ⟨sl, hsl⟩ : ∃ sl, s.2 = sl := ⟨_, rfl⟩
    rw [hsl] at hcases e1
    obtain ⟨cst, hcst⟩ : ∃ cst, costF pre = cst := ⟨_, rfl⟩
    rw [hcst] at hcases hc
    have cz0 : w.cell? ⟨gw, 0, none⟩ = some (.pointer (some ⟨gt, 0, none⟩)) := (blk_cell e1 0).trans rfl
    have ct : w.cell? ⟨gt, 0, none⟩ = some (.slice A0 i c0) := (blk_cell hJ.b0 0).trans rfl
    have hee : ((i : Int) == (i : Int)) = true := beq_self_eq_true _
    have HJ := Aside0.mk hJ
    have HE := Aside0.mk e1
    have HM := Aside0.mk hM
    have HB := Aside0.mk hB
    have HR := Aside0.mk hR
    have HC := Aside0.mk hc
    have HP := Aside0.mk hpre
    have HG := Aside0.mk hg
    have H3 := Aside0.mk h3
    have hnew : ∀ w5 w6 w7 v5, Below w.heap.size w w5 → Kd.R (Kd.int .i64) 2 w5 w0.heap.size (fun k => M ≤ k) v5 pre → w6 = w5.setCell ⟨gw, 3, none⟩ v5 → w7 = w6.setCell ⟨gw, 4, none⟩ (.int .i64 cst) → SpJ w0 gt gw A0 i c0 A1 n1 c1 lv hv M (pre, cst) w7 ∧ M ≤ w7.heap.size ∧ Below w0.heap.size w0 w7 ∧ Kd.R (Kd.int .i64) 2 w7 w0.heap.size (fun k => k = gr) (.slice (some ⟨gr, 0, none⟩) i i) pre := by
      intro w5 w6 w7 v5 h5 hr e6 e7
      have hG := HG.out
      have k6 : Kept w5 w6 (fun k => k = gw) := by rw [e6]; exact Kept.setCell (S := fun k => k = gw) (p := ⟨gw, 3, none⟩) (Kept.refl _ _) (.inl rfl) _
      have k7 : Kept w6 w7 (fun k => k = gw) := by rw [e7]; exact Kept.setCell (S := fun k => k = gw) (p := ⟨gw, 4, none⟩) (Kept.refl _ _) (.inl rfl) _
      have b16 : w6.heap[gw]? = some (.cells #[.pointer (some ⟨gt, 0, none⟩), lv, hv, v5, .int .i64 sl] 75 (0, 0)) := by rw [e6]; exact blk_put (cs := #[.pointer (some ⟨gt, 0, none⟩), lv, hv, vb, .int .i64 sl]) (blk_below HE.out h5) 3 _ rfl
      have b17 : w7.heap[gw]? = some (.cells #[.pointer (some ⟨gt, 0, none⟩), lv, hv, v5, .int .i64 cst] 75 (0, 0)) := by rw [e7]; exact blk_put (cs := #[.pointer (some ⟨gt, 0, none⟩), lv, hv, v5, .int .i64 sl]) b16 4 _ rfl
      refine ⟨⟨blk_kept (blk_kept (blk_below HJ.out.b0 h5) k6 (by omega)) k7 (by omega), v5, b17, Kd.R_kept (Kd.R_kept hr k6 (fun k h1 h2 => by omega)) k7 (fun k h1 h2 => by omega)⟩, Nat.le_trans HM.out (Nat.le_trans (below_size h5) (Nat.le_trans k6.1 k7.1)), ?_, Kd.R_kept (Kd.R_kept (Kd.R_below HR.out h5) k6 (fun k h1 h2 => by omega)) k7 (fun k h1 h2 => by omega)⟩
      rw [e7, e6]
      exact below_set (below_set (below_step HB.out h5) (by show _ ≤ gw; omega)) (by show _ ≤ gw; omega)
    have HNEW := Aside0.mk hnew
    clear hnew hJ e1 e2 hM hB hR hc hpre hg hcost hown
    rcases hcases with ⟨k1, hst⟩ | ⟨k1, k2, hst⟩ | ⟨k1, k2, k3, hst⟩ | ⟨k1, k2, k3, hst⟩
    all_goals
      have HST := Aside0.mk hst
      clear hst
      go_enter Try.func73, Try.ntmps73
      go_wp2_with (first
        | (go_at_call 78; refine (HC.out).mono ?_; rintro e w1 ⟨rfl, hb1⟩; have HW1 := Aside0.mk hb1; have cx4 : w1.cell? ⟨gw, 4, none⟩ = some (.int .i64 sl) := (blk_cell (blk_below HE.out hb1) 4).trans rfl; clear hb1 cz0 ct)
        | (go_at_call 77; refine calls_of_args (args' := #[.slice (some ⟨gr, 0, none⟩) pre.length i]) (by rw [H3.out]) ?_; refine (spec_l00Own.calls (some ⟨gr, 0, none⟩) i pre pre _ (Kd.C_below (Kd.R_reads' HR.out).2.2 HW1.out) (by have := H3.out; omega) HP.out).mono ?_; rintro e w2 ⟨v5, rfl, ho, hb2⟩; have HW2 := Aside0.mk (below_step HW1.out hb2); have HO2 := Aside0.mk (Kd.R_lower (Kd.R_mono (Kd.R_bound ho) (ok' := fun k => M ≤ k) (fun k hk => Nat.le_trans HM.out (Nat.le_trans (below_size HW1.out) hk.2.1))) (Nat.le_trans (below_size HB.out) (below_size HW1.out))); obtain ⟨A5, c5, ev5⟩ := Kd.R_slice ho; subst ev5; have cy3 := (blk_cell (blk_below HE.out HW2.out) 3).trans rfl; have fy3 := blk_frozen (blk_below HE.out HW2.out) 3; clear ho hb2 cx4)
        | ((with_reducible refine gate_store (t := 24) (p := 41) rfl ?_); refine store_event (t := 24) (p := 41) (v := ?vo_w6) (w1 := (w2.setCell ⟨gw, 3, none⟩ (.slice A5 pre.length c5))) ?hg ?ho ?hn ?hr ?_; (case ho => rfl); (case hg => rfl); (case hn => rfl); (case hr => first | (go_simp; done) | (go_simp; rfl)); intro w6 hw6; have HE6 := Aside0.mk hw6; have b2_ : w6.heap[gw]? = some (.cells #[.pointer (some ⟨gt, 0, none⟩), lv, hv, .slice A5 pre.length c5, .int .i64 sl] 75 (0, 0)) := (by rw [hw6]; exact blk_put (cs := #[.pointer (some ⟨gt, 0, none⟩), lv, hv, vb, .int .i64 sl]) (blk_below HE.out HW2.out) 3 _ rfl); have cy4 : w6.cell? ⟨gw, 4, none⟩ = some (.int .i64 sl) := (blk_cell b2_ 4).trans rfl; have fy4 := blk_frozen b2_ 4; clear hw6 cy3 fy3 b2_)
        | ((with_reducible refine gate_store (t := 2) (p := 45) rfl ?_); refine store_event (t := 2) (p := 45) (v := ?vo_w7) (w1 := (w6.setCell ⟨gw, 4, none⟩ (.int .i64 cst))) ?hg ?ho ?hn ?hr ?_; (case ho => rfl); (case hg => rfl); (case hn => rfl); (case hr => first | (go_simp; done) | (go_simp; rfl)); intro w7 hw7; have HE7 := Aside0.mk hw7; clear hw7 cy4 fy4))
      first | go_end0 | (simp only [Exit.inBlock, Exit.then]; refine bodyPost_ret (results_none rfl _ _ _) rfl ?_) | refine bodyPost_ret (results_none rfl _ _ _) rfl ?_
      rw [show fills (stepC costF) 0 s pre = stepC costF s pre from rfl, HST.out]
      first
        | exact ⟨by first | rfl | (simp; done), SpJ.kept HJ.out (Kept.of_below HW1.out (fun _ => False)) id id (fun _ _ => id), Nat.le_trans HM.out (below_size HW1.out), below_step HB.out HW1.out, Kd.R_below HR.out HW1.out⟩
        | exact ⟨by first | rfl | (simp; done), HNEW.out _ _ _ _ HW2.out HO2.out HE6.out (by first | exact HE7.out | rfl)⟩
  | succ m ih =>
    intro i s pre w h1 h2 h3 hJ hM hB hR
    have hlt : i < n := by omega
    obtain ⟨vb, e1, e2⟩ := hJ.rest
    have cz0 : w.cell? ⟨gw, 0, none⟩ = some (.pointer (some ⟨gt, 0, none⟩)) := (blk_cell e1 0).trans rfl
    have ct : w.cell? ⟨gt, 0, none⟩ = some (.slice A0 n c0) := (blk_cell hJ.b0 0).trans rfl
    have hee : ((i : Int) == (n : Int)) = false := by rw [beq_eq_false_iff_ne]; omega
    have HJ := Aside0.mk hJ
    have HM := Aside0.mk hM
    have HB := Aside0.mk hB
    have HR := Aside0.mk hR
    have HG := Aside0.mk hg
    have IH := Aside0.mk ih
    clear hJ e1 e2 hM hB hR hg hcost hown ih
    go_enter Try.func73, Try.ntmps73
    go_wp2
    go_loopw [5] (fun v5 wr => ∃ (j : Nat), v5 = .int .i64 ((j : Int) - 6) ∧ j ≤ 13 ∧ SpJ w0 gt gw A0 n c0 A1 n1 c1 lv hv M ((List.range j).foldl (fun s (j : Nat) => fills (stepC costF) m s (pre ++ [(j : Int) - 6])) s) wr ∧ M ≤ wr.heap.size ∧ Below w0.heap.size w0 wr ∧ Kd.R (Kd.int .i64) 2 wr w0.heap.size (fun k => k = gr) (.slice (some ⟨gr, 0, none⟩) i n) pre) (fun v5 _ => (7 - intOf v5).toNat)
    case atStart => exact ⟨0, rfl, by omega, HJ.out, HM.out, HB.out, HR.out⟩
    case round =>
      obtain ⟨j, rfl, hj, hJ', hM', hB', hR'⟩ := hrel
      by_cases hc : j < 13
      · have hcb : decide ((j : Int) - 6 ≤ 6) = true := decide_eq_true (by omega)
        have HJ' := Aside0.mk hJ'
        have HM' := Aside0.mk hM'
        have HB' := Aside0.mk hB'
        have HR' := Aside0.mk hR'
        clear hJ' hM' hB' hR'
        go_wp2_with (first
          | ((with_reducible refine gate_dst (N := 53) rfl ?_); refine Kd.R_lit (Kd.int .i64) _ 2 ?hg (N := 53) ?hd (xs := ([(j : Int) - 6] : List Int)) (inner := [.int .i64 ((j : Int) - 6)]) (ok := fun _ => True) (okp := fun _ => True) ?hr ?hp (fun _ hk => hk) trivial (Below.refl _ _) (Nat.le_refl _) (by simp) ?_; (case hd => rfl); (case hg => rfl); (case hr => first | (go_simp; done) | (go_simp; rfl)); (case hp => exact (Reps.one (show Kd.M (Kd.int .i64) _ _ _ ((j : Int) - 6) [.int .i64 ((j : Int) - 6)] from rfl) (Reps.none _ _))); intro v4 w4 ho4 hb4 hg_ hnew_; clear hg_ hnew_; obtain ⟨A4, c4, ev4⟩ := Kd.R_slice ho4; subst ev4; have HO4 := Aside0.mk ho4; have HB4 := Aside0.mk (below_step HB'.out hb4); have HJ4 := Aside0.mk (SpJ.kept HJ'.out (Kept.of_below hb4 (fun _ => False)) id id (fun _ _ => id)); have HR4 := Aside0.mk (Kd.R_below HR'.out hb4); have HM4 := Aside0.mk (Nat.le_trans HM'.out (below_size hb4)); clear ho4 hb4)
          | ((with_reducible refine gate_builtin (b := .append) (xs := #[.tmp 51, .tmp 53]) rfl ?_); at_builtin; refine R_fit1 rfl (.tmp 51) (.tmp 53) 24 2 rfl Try.underlying24 info2 w0.heap.size (fun k => k = gr) (fun _ => True) _ gr i n c4 A4 pre ((j : Int) - 6) rfl rfl h3 HR4.out HO4.out (by omega) ?_; intro w5 ho5 hg5; have hk5 := Kept.of_grown (S := fun k => k = gr) hg5 (Kept.refl _ _) (fun k hk => .inl (by injection hk with hk; exact hk.symm)); have HR5 := Aside0.mk ho5; have HJ5 := Aside0.mk (SpJ.kept HJ4.out hk5 (by have := HG.out; omega) (by have := HG.out; omega) (fun k h_ => by have := HG.out; omega)); have HB5 := Aside0.mk (HB4.out.grown hg5 (below_size HB4.out) (fun k hk => by injection hk with hk; have := HG.out; omega)); have HM5 := Aside0.mk (Nat.le_trans HM4.out hk5.1); clear ho5 hg5 hk5)
          | (go_at_call 73; refine (IH.out (i + 1) _ (pre ++ [(j : Int) - 6]) _ (by omega) (by omega) (by rw [List.length_append, h3]; rfl) HJ5.out HM5.out HB5.out HR5.out).mono ?_; rintro e w9 ⟨rfl, hJ9, hM9, hB9, hR9⟩))
        go_roundw
        case rel =>
          refine ⟨j + 1, by first | rfl | (simp; omega) | (congr 1; omega), by omega, ?_, hM9, hB9, ?_⟩
          · rw [foldl_range]
            exact hJ9
          · have := Kd.R_take (m := i) hR9 (by rw [List.length_append, h3]; simp)
            rw [List.take_append_of_le_length (by omega), List.take_of_length_le (by omega)] at this
            exact this
        case measure => simp [intOf]; omega
      · have hcb : decide ((j : Int) - 6 ≤ 6) = false := decide_eq_false (by omega)
        obtain rfl : j = 13 := by omega
        go_wp2
        first | go_end0 | (simp only [Exit.inBlock, Exit.then]; refine bodyPost_ret (results_none rfl _ _ _) rfl ?_) | refine bodyPost_ret (results_none rfl _ _ _) rfl ?_
        exact ⟨by first | rfl | (simp; done), hJ', hM', hB', hR'⟩
/-! by hand: (*l12W).cost without bounds -/
def mnE (x y : Int) : Int := if x < y then x else y
def mxE (x y : Int) : Int := if x > y then x else y
def costA (a : List Int) : Int := if (a.drop 1).foldl mnE (a.getD 0 0) < 0 then -1 else wrap64 ((a.drop 1).foldl mxE (a.getD 0 0) - (a.drop 1).foldl mnE (a.getD 0 0))
theorem drop_fold {f : Int → Int → Int} {a : List Int} {q : Nat} (h : q < a.length) (x : Int) : (a.drop q).foldl f x = (a.drop (q + 1)).foldl f (f x (a.getD q 0)) := by
  rw [List.drop_eq_getElem_cons h, List.foldl_cons]
  congr 2
  rw [List.getD_eq_getElem?_getD, List.getElem?_eq_getElem h]
  rfl
set_option maxHeartbeats 8000000 in
set_option maxRecDepth 100000 in
theorem costE_calls (ts : List Int) (es : List (List Int)) (w0 w : World) (gt gw gr : Nat) (A0 A1 : Option Addr) (c0 c1 : Nat) (hv : Value) (M : Nat) (hr0 : Kd.C (Kd.int .i64) w0 A0 ts.length ts) (hc0 : ts.length ≤ c0) (hr1 : Kd.C (Kd.slice 2 (Kd.int .i64)) w0 A1 es.length es) (hc1 : es.length ≤ c1)
    (s : List Int × Int) (cp : Nat) (pre : List Int) (hJ : SpJ w0 gt gw A0 ts.length c0 A1 es.length c1 (.slice none 0 0) hv M s w) (hB : Below w0.heap.size w0 w) (hC : Kd.C (Kd.int .i64) w (some ⟨gr, 0, none⟩) pre.length pre) (hcp : pre.length ≤ cp)
    (a : List Int) (ka : Nat) (ha : spec_l12After.f ka ts es pre = some a) (ha0 : 0 < a.length) (ha6 : a.length ≤ 1048576) :
    Calls Try.prog 78 #[.pointer (some ⟨gw, 0, none⟩), .slice (some ⟨gr, 0, none⟩) pre.length cp] w fun e w' => e = .returned (.int .i64 (costA a)) ∧ Below w.heap.size w w' := by
  have hu24 := Try.underlying24
  have hu75 := Try.underlying75
  obtain ⟨vb, e1, e2⟩ := hJ.rest
  have cz0 : w.cell? ⟨gw, 0, none⟩ = some (.pointer (some ⟨gt, 0, none⟩)) := (blk_cell e1 0).trans rfl
  have HE := Aside0.mk e1
  have HB0 := Aside0.mk hJ.b0
  have HB := Aside0.mk hB
  have HR0 := Aside0.mk hr0
  have HR1 := Aside0.mk hr1
  have HC := Aside0.mk hC
  have HA := Aside0.mk ha
  clear hJ e1 e2 hB hr0 hr1 hC ha
  obtain ⟨LO, hLO⟩ : ∃ z, z = (a.drop 1).foldl mnE (a.getD 0 0) := ⟨_, rfl⟩
  obtain ⟨HI, hHI⟩ : ∃ z, z = (a.drop 1).foldl mxE (a.getD 0 0) := ⟨_, rfl⟩
  have hcost : costA a = if LO < 0 then -1 else wrap64 (HI - LO) := by rw [hLO, hHI]; rfl
  have HLO := Aside0.mk hLO
  have HHI := Aside0.mk hHI
  have HCO := Aside0.mk hcost
  clear hLO hHI hcost
  have p0 : ((0 : Int) < (a.length : Int)) = True := eq_true (by omega)
  have hl0 : decide ((0 : Int) < (a.length : Int)) = true := decide_eq_true (by omega)
  go_enter Try.func78, Try.ntmps78
  go_wp2_with (first
    | (go_at_call 68; refine (spec_l12After.calls ka gt A0 c0 ts A1 c1 es _ cp pre a _ HB0.out (Kd.C_below HR0.out HB.out) hc0 (Kd.C_below HR1.out HB.out) hc1 HC.out hcp HA.out).mono ?_; rintro e w1 ⟨v1, rfl, ho1, hb1⟩; have HW1 := Aside0.mk hb1; obtain ⟨A2, c2, ev1⟩ := Kd.R_slice ho1; subst ev1; obtain ⟨g2, eg2⟩ := R_some ho1 ha0; subst eg2; have HO1 := Aside0.mk ho1; have cx1 : w1.cell? ⟨gw, 1, none⟩ = some (.slice none 0 0) := (blk_cell (blk_below HE.out hb1) 1).trans rfl; obtain ⟨hx0, hf0⟩ := Kd.R_celln 0 ho1 (0 : Int) (by omega) (by omega); rw [Int.toNat_zero] at hx0 hf0; clear ho1 hb1 cz0))
  have ea0 : rd a 0 = a.getD 0 0 := rfl
  go_loopw [7, 8, 9] (fun v7 v8 v9 wr => ∃ (lo hi : Int) (q : Nat), v7 = .int .i64 lo ∧ v8 = .int .i64 hi ∧ v9 = .int .i64 (q : Int) ∧ 1 ≤ q ∧ q ≤ a.length ∧ (a.drop q).foldl mnE lo = LO ∧ (a.drop q).foldl mxE hi = HI ∧ Below w.heap.size w wr ∧ Kd.R (Kd.int .i64) 2 wr w.heap.size (fun _ => True) (.slice (some ⟨g2, 0, none⟩) a.length c2) a) (fun _ _ v9 _ => ((a.length : Int) - intOf v9).toNat)
  case atStart => exact ⟨a.getD 0 0, a.getD 0 0, 1, by first | rfl | (simp; done), by first | rfl | (simp; done), rfl, by omega, by omega, HLO.out.symm, HHI.out.symm, HW1.out, HO1.out⟩
  case round =>
    obtain ⟨lo, hi, q, rfl, rfl, rfl, hq1, hq2, hlo, hhi, hB', hR'⟩ := hrel
    by_cases hc : q < a.length
    · have hcb : decide ((q : Int) < (a.length : Int)) = true := decide_eq_true (by omega)
      obtain ⟨hxq, hfq⟩ := Kd.R_celln 0 hR' (q : Int) (by omega) (by omega)
      rw [Int.toNat_natCast] at hxq hfq
      have p5 : (0 ≤ (q : Int)) = True := eq_true (by omega)
      have q5 : ((q : Int) < (a.length : Int)) = True := eq_true (by omega)
      have HB' := Aside0.mk hB'
      have HR' := Aside0.mk hR'
      clear hB' hR'
      go_wp2_with (first
        | (go_at_call 79; refine (spec_l00Min.calls lo (rd a q) (mnE lo (rd a q)) _ (by unfold spec_l00Min.f mnE; split <;> rfl)).mono ?_; rintro e w5 ⟨rfl, nd, rfl⟩)
        | (go_at_call 80; refine (spec_l00Max.calls hi (rd a q) (mxE hi (rd a q)) _ (by unfold spec_l00Max.f mxE; split <;> rfl)).mono ?_; rintro e w6 ⟨rfl, nd2, rfl⟩))
      go_roundw
      case rel => exact ⟨_, _, q + 1, rfl, rfl, by first | rfl | (simp; omega) | (congr 1; omega), by omega, by omega, by rw [← hlo, drop_fold hc]; rfl, by rw [← hhi, drop_fold hc]; rfl, by repeat (first | (with_reducible first | exact HB'.out | apply pw_below_drewN | apply below_drew1) | exact HB'.out), by (with_reducible repeat (first | apply Kd.R_drewN | apply Kd.R_drew)); exact HR'.out⟩
      case measure => simp [intOf]; omega
    · have hcb : decide ((q : Int) < (a.length : Int)) = false := decide_eq_false (by omega)
      obtain rfl : q = a.length := by omega
      rw [List.drop_length] at hlo hhi
      have hlo' : lo = LO := hlo
      have hhi' : hi = HI := hhi
      subst hlo' hhi'
      clear hlo hhi
      by_cases hneg : lo < 0
      · have hn1 : decide (lo < 0) = true := decide_eq_true hneg
        have HC2 := Aside0.mk (HCO.out.trans (if_pos hneg))
        clear hneg
        go_wp2
        go_ret
        exact ⟨by rw [HC2.out]; first | rfl | (simp; done), hB'⟩
      · have hn1 : decide (lo < 0) = false := decide_eq_false hneg
        have HC2 := Aside0.mk (HCO.out.trans (if_neg hneg))
        clear hneg
        go_wp2
        go_ret
        exact ⟨by rw [HC2.out]; first | rfl | (simp; done), hB'⟩
/-! by hand: spec.EvenTurns -/
noncomputable def aftS (ts : List Int) (es : List (List Int)) (tn : List Int) : List Int := theOf [] (fun k => spec_l12After.f k ts es tn)
def SpOk (ts : List Int) (es : List (List Int)) : Prop :=
  1 ≤ ts.length ∧ ts.length ≤ 1048576 ∧ ∀ tn : List Int, tn.length = ts.length → ∃ a, (∃ k, spec_l12After.f k ts es tn = some a) ∧ 0 < a.length ∧ a.length ≤ 1048576
theorem aftS_eq {ts : List Int} {es : List (List Int)} {tn a : List Int} (h : ∃ k, spec_l12After.f k ts es tn = some a) : aftS ts es tn = a := theOf_eq (fun k => spec_l12After.mono _ _ _ k) h
noncomputable def bestS (ts : List Int) (es : List (List Int)) : List Int × Int := fills (stepC (fun tn => costA (aftS ts es tn))) ts.length ([], -1) []
open Classical in
noncomputable def spec_EvenTurns.f (k : Nat) (l0_0 : List Int) (l0_1 : List (List Int)) : Option (List Int × Int × Int) :=
  (spec_l12Ok.f k l0_0 l0_1).bind fun v => if v = true then (if SpOk l0_0 l0_1 then (if (bestS l0_0 l0_1).2 < 0 then some ([], 0, 3) else some ((bestS l0_0 l0_1).1, (bestS l0_0 l0_1).2, 0)) else none) else some ([], 0, 1)
theorem spec_EvenTurns.mono : ∀ a0 a1 k, LeO (spec_EvenTurns.f k a0 a1) (spec_EvenTurns.f (k + 1) a0 a1) := by
  intro a0 a1 k r h
  unfold spec_EvenTurns.f at h ⊢
  obtain ⟨v, h1, h2⟩ := Option.bind_eq_some_iff.mp h
  exact Option.bind_eq_some_iff.mpr ⟨v, spec_l12Ok.mono _ _ _ _ h1, h2⟩
theorem spec_EvenTurns.cases {k : Nat} {ts : List Int} {es : List (List Int)} {r1 : List Int} {r2 r3 : Int} (h : spec_EvenTurns.f k ts es = some (r1, r2, r3)) : ∃ v, spec_l12Ok.f k ts es = some v ∧
    ((v = false ∧ r1 = [] ∧ r2 = 0 ∧ r3 = 1) ∨ (v = true ∧ SpOk ts es ∧ (bestS ts es).2 < 0 ∧ r1 = [] ∧ r2 = 0 ∧ r3 = 3) ∨ (v = true ∧ SpOk ts es ∧ ¬ (bestS ts es).2 < 0 ∧ (bestS ts es).1 = r1 ∧ (bestS ts es).2 = r2 ∧ r3 = 0)) := by
  unfold spec_EvenTurns.f at h
  obtain ⟨v, hv, H⟩ := Option.bind_eq_some_iff.mp h
  refine ⟨v, hv, ?_⟩
  cases v with
  | false => simp at H; exact .inl ⟨rfl, by rw [← H.1], H.2.1.symm, H.2.2.symm⟩
  | true =>
    rw [if_pos rfl] at H
    by_cases ho : SpOk ts es
    · rw [if_pos ho] at H
      by_cases hn : (bestS ts es).2 < 0
      · rw [if_pos hn] at H; simp at H; exact .inr (.inl ⟨rfl, ho, hn, by rw [← H.1], H.2.1.symm, H.2.2.symm⟩)
      · rw [if_neg hn] at H; simp at H; exact .inr (.inr ⟨rfl, ho, hn, H.1, H.2.1, H.2.2.symm⟩)
    · rw [if_neg ho] at H; simp at H
theorem own_same (pre : List Int) (h : pre.length ≤ 1048576) : spec_l00Own.f pre = some pre := by
  unfold spec_l00Own.f
  simp only [Option.bind_some]
  rw [if_pos (by simp; omega)]
  rfl
set_option maxHeartbeats 8000000 in
set_option maxRecDepth 100000 in
theorem spec_EvenTurns.calls (k : Nat) (A0_0 : Option Addr) (c0_0 : Nat) (l0_0 : List Int) (A0_1 : Option Addr) (c0_1 : Nat) (l0_1 : List (List Int)) (r1 : List Int) (r2 r3 : Int) (w : World) (hr0_0 : Kd.C (Kd.int .i64) w A0_0 l0_0.length l0_0) (hc0_0 : l0_0.length ≤ c0_0) (hr0_1 : Kd.C (Kd.slice 2 (Kd.int .i64)) w A0_1 l0_1.length l0_1) (hc0_1 : l0_1.length ≤ c0_1) (h : spec_EvenTurns.f k l0_0 l0_1 = some (r1, r2, r3)) :
    Calls Try.prog 44 #[.agg #[.slice A0_0 l0_0.length c0_0, .slice A0_1 l0_1.length c0_1]] w fun e w' => ∃ v0_ : Value, e = .returned (.tuple #[v0_, .int .i64 r2, .int .i64 r3]) ∧ Kd.R (Kd.int .i64) 2 w' w.heap.size (fun _ => True) v0_ r1 ∧ Below w.heap.size w w' := by
  have hu24 := Try.underlying24
  have hu27 := Try.underlying27
  have hu75 := Try.underlying75
  obtain ⟨i0, hi0, hzz⟩ := Option.map_eq_some_iff.1 info2
  simp only [Prod.mk.injEq] at hzz
  have HI0 := Aside0.mk hi0
  have HZZ := Aside0.mk hzz
  clear hi0 hzz
  have HR0 := Aside0.mk hr0_0
  have HR1 := Aside0.mk hr0_1
  clear hr0_0 hr0_1
  obtain ⟨v, hv, hcases⟩ := spec_EvenTurns.cases h
  clear h
  have HV := Aside0.mk hv
  clear hv
  rcases hcases with ⟨rfl, rfl, rfl, rfl⟩ | hrest
  · go_enter Try.func44, Try.ntmps44
    go_wp2_with (first
      | ((with_reducible refine gate_dst (N := 1) rfl ?_); refine box_event ?hg (N := 1) ?hd (cs := #[.slice A0_0 l0_0.length c0_0, .slice A0_1 l0_1.length c0_1]) (t := 27) ?hr ?_; (case hd => rfl); (case hg => rfl); (case hr => first | (go_simp; done) | (go_simp; rfl)); intro g1 hg1 w1 hb1 hl1; have HB1 := Aside0.mk hl1; have BX1 := Aside0.mk hb1; clear hb1 hl1 hg1)
      | (go_at_call 60; refine (spec_l12Ok.calls k g1 A0_0 c0_0 l0_0 A0_1 c0_1 l0_1 false _ BX1.out (Kd.C_below HR0.out HB1.out) hc0_0 (Kd.C_below HR1.out HB1.out) hc0_1 HV.out).mono ?_; rintro e w2 ⟨rfl, hb2⟩; have HB2 := Aside0.mk (below_step HB1.out hb2); clear hb2))
    go_ret3
    exact ⟨_, by first | rfl | (simp; done), Kd.R_nil _ _ _ _ _, HB2.out⟩
  · have hv1 : v = true := by rcases hrest with h_ | h_ <;> exact h_.1
    have hok : SpOk l0_0 l0_1 := by rcases hrest with h_ | h_ <;> exact h_.2.1
    subst hv1
    have hfin : (decide ((bestS l0_0 l0_1).2 < 0) = true ∧ r1 = [] ∧ r2 = 0 ∧ r3 = 3) ∨ (decide ((bestS l0_0 l0_1).2 < 0) = false ∧ r1 = (bestS l0_0 l0_1).1 ∧ r2 = (bestS l0_0 l0_1).2 ∧ r3 = 0) := by
      rcases hrest with h_ | h_
      · exact .inl ⟨decide_eq_true h_.2.2.1, h_.2.2.2.1, h_.2.2.2.2.1, h_.2.2.2.2.2⟩
      · exact .inr ⟨decide_eq_false h_.2.2.1, h_.2.2.2.1.symm, h_.2.2.2.2.1.symm, h_.2.2.2.2.2⟩
    have HOK := Aside0.mk hok
    clear hrest hok
    obtain ⟨bb, hbb⟩ : ∃ bb, bestS l0_0 l0_1 = bb := ⟨_, rfl⟩
    have HBB := Aside0.mk hbb
    rw [hbb] at hfin
    clear hbb
    obtain ⟨b1, b2⟩ := bb
    simp only at hfin
    have hl0 : (0 : Int) ≤ (l0_0.length : Int) := by omega
    have hcl : ∀ gt gw gr M (s : List Int × Int) (wc : World) (cp : Nat) (pre : List Int), SpJ w gt gw A0_0 l0_0.length c0_0 A0_1 l0_1.length c0_1 (.slice none 0 0) (.slice none 0 0) M s wc → Below w.heap.size w wc → pre.length = l0_0.length → Kd.C (Kd.int .i64) wc (some ⟨gr, 0, none⟩) pre.length pre → pre.length ≤ cp → Calls Try.prog 78 #[.pointer (some ⟨gw, 0, none⟩), .slice (some ⟨gr, 0, none⟩) pre.length cp] wc fun e w' => e = .returned (.int .i64 (costA (aftS l0_0 l0_1 pre))) ∧ Below wc.heap.size wc w' := by
      intro gt gw gr M s wc cp pre hj hb hp hc hcp
      obtain ⟨a, ⟨ka, e1⟩, e2, e3⟩ := HOK.out.2.2 pre hp
      have ea : aftS l0_0 l0_1 pre = a := aftS_eq ⟨ka, e1⟩
      rw [ea]
      exact costE_calls l0_0 l0_1 w wc gt gw gr A0_0 A0_1 c0_0 c0_1 _ M HR0.out hc0_0 HR1.out hc0_1 s cp pre hj hb hc hcp a ka e1 e2 e3
    have HCL := Aside0.mk hcl
    clear hcl
    rcases hfin with ⟨kn, rfl, rfl, rfl⟩ | ⟨kn, rfl, rfl, rfl⟩
    all_goals
      go_enter Try.func44, Try.ntmps44
      go_wp2_with (first
        | ((with_reducible refine gate_dst (N := 1) rfl ?_); refine box_event ?hg (N := 1) ?hd (cs := #[.slice A0_0 l0_0.length c0_0, .slice A0_1 l0_1.length c0_1]) (t := 27) ?hr ?_; (case hd => rfl); (case hg => rfl); (case hr => first | (go_simp; done) | (go_simp; rfl)); intro g1 hg1 w1 hb1 hl1; have HB1 := Aside0.mk hl1; have BX1 := Aside0.mk hb1; have G1 := Aside0.mk (show w.heap.size ≤ g1 from by rw [hg1]; exact Nat.le_refl _); clear hb1 hl1 hg1)
        | (go_at_call 60; refine (spec_l12Ok.calls k g1 A0_0 c0_0 l0_0 A0_1 c0_1 l0_1 true _ BX1.out (Kd.C_below HR0.out HB1.out) hc0_0 (Kd.C_below HR1.out HB1.out) hc0_1 HV.out).mono ?_; rintro e w2 ⟨rfl, hb2⟩; have HB2 := Aside0.mk (below_step HB1.out hb2); have BX2 := Aside0.mk (blk_below BX1.out hb2); clear hb2)
        | ((with_reducible refine gate_dst (N := 9) rfl ?_); refine box_event ?hg (N := 9) ?hd (cs := #[.pointer (some ⟨g1, 0, none⟩), .slice none 0 0, .slice none 0 0, .slice none 0 0, .int .i64 (-1)]) (t := 75) ?hr ?_; (case hd => rfl); (case hg => rfl); (case hr => first | (go_simp; done) | (go_simp; rfl)); intro g2 hg2 w3 hb3 hl3; have HB3 := Aside0.mk (below_step HB2.out hl3); have BX3 := Aside0.mk (blk_below BX2.out hl3); have BY3 := Aside0.mk hb3; have G2 := Aside0.mk (show g1 < g2 from by rw [hg2]; exact blk_lt BX2.out); have cz0 : w3.cell? ⟨g1, 0, none⟩ = some (.slice A0_0 l0_0.length c0_0) := (blk_cell BX3.out 0).trans rfl; clear hb3 hl3 hg2)
        | ((with_reducible refine gate_dst (N := 14) rfl ?_); refine wpList_make_own _ rfl (.const (.int .i64 0)) (.tmp 13) 24 rfl w.heap.size 2 i0 (.int .i64 0) 1 Try.underlying24 HI0.out HZZ.out.1 HZZ.out.2.1 .i64 .i64 (l0_0.length : Int) l0_0.length rfl rfl rfl (by have := HOK.out.2.1; rw [HZZ.out.2.2]; omega) (by have := HOK.out.2.1; show _ ≤ 9223372036854775807; omega) (below_size HB3.out) ?_; intro w4 ho4 hg4; have hb4 : Below w3.heap.size w3 w4 := (Below.refl _ _).grown hg4 (Nat.le_refl _) (fun k hk => by simp at hk); obtain ⟨gr, hgr⟩ : ∃ gr, w3.heap.size = gr := ⟨_, rfl⟩; rw [hgr] at ho4 ⊢; have hr4 : Kd.R (Kd.int .i64) 2 w4 w.heap.size (fun k => k = gr) (.slice (some ⟨gr, 0, none⟩) 0 l0_0.length) [] := ⟨fun k hk => by simpa [Value.ownBlock] using hk.symm, [], ho4, Reps.none _ _⟩; have HR4 := Aside0.mk hr4; have HB4 := Aside0.mk (below_step HB3.out hb4); have BX4 := Aside0.mk (blk_below BX3.out hb4); have BY4 := Aside0.mk (blk_below BY3.out hb4); have HG := Aside0.mk (⟨G1.out, G2.out, by rw [← hgr]; exact blk_lt BY3.out, Kd.R_lt hr4 gr rfl⟩ : w.heap.size ≤ g1 ∧ g1 < g2 ∧ g2 < gr ∧ gr < w4.heap.size); clear hb4 ho4 hg4 hr4 hgr cz0)
        | (go_at_call 73; refine (walkC_calls w g1 g2 gr l0_0.length A0_0 c0_0 A0_1 l0_1.length c0_1 (.slice none 0 0) (.slice none 0 0) w4.heap.size HG.out HOK.out.1 HOK.out.2.1 (fun tn => costA (aftS l0_0 l0_1 tn)) (fun pre hp => own_same pre (by rw [hp]; exact HOK.out.2.1)) (fun s wc cp pre hj hb hp hc hcp => HCL.out g1 g2 gr w4.heap.size s wc cp pre hj hb hp hc hcp) l0_0.length 0 ([], -1) [] _ (by omega) (by omega) rfl ⟨BX4.out, .slice none 0 0, BY4.out, Kd.R_nil _ _ _ _ _⟩ (Nat.le_refl _) HB4.out HR4.out).mono ?_; rintro e w6 ⟨rfl, hj6, _, hb6, _⟩; have hbb := HBB.out; unfold bestS at hbb; rw [hbb] at hj6; obtain ⟨vb, e1_, e2_⟩ := hj6.rest; have HB6 := Aside0.mk hb6; obtain ⟨A9, c9, ev9⟩ := Kd.R_slice e2_; subst ev9; have HR9 := Aside0.mk e2_; (first | (have cv4 : w6.cell? ⟨g2, 4, none⟩ = some (.int .i64 b2) := (blk_cell e1_ 4).trans rfl; have cv3 : w6.cell? ⟨g2, 3, none⟩ = some (.slice A9 b1.length c9) := (blk_cell e1_ 3).trans rfl) | (have cv4 : w6.cell? ⟨g2, 4, none⟩ = some (.int .i64 r2) := (blk_cell e1_ 4).trans rfl; have cv3 : w6.cell? ⟨g2, 3, none⟩ = some (.slice A9 r1.length c9) := (blk_cell e1_ 3).trans rfl)); clear hbb hj6 hb6 e1_ e2_))
      repeat (go_quiet (fail); try go_wp2)
      go_ret3
      first
        | exact ⟨_, by first | rfl | (simp; done), Kd.R_nil _ _ _ _ _, by repeat (first | (with_reducible first | exact HB6.out | apply pw_below_drewN | apply below_drew1) | exact HB6.out)⟩
        | exact ⟨_, by first | rfl | (simp; done), by (with_reducible repeat (first | apply Kd.R_drewN | apply Kd.R_drew)); exact Kd.R_mono HR9.out (fun _ _ => trivial), by repeat (first | (with_reducible first | exact HB6.out | apply pw_below_drewN | apply below_drew1) | exact HB6.out)⟩

end Go.Proofs.Ythfpaldhdohnkaa.PFnExactEvenTurns
