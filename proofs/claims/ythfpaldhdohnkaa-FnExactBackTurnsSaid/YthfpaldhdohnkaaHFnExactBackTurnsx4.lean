/- The walks of the functions that the law reaches: each computes what its Lean function says. No condition beyond each contract's own. -/
import Derived.Test.YthfpaldhdohnkaaHFnExactBackTurnsx0
import Derived.Test.YthfpaldhdohnkaaHFnExactBackTurnsx3
namespace Go.Proofs.Ythfpaldhdohnkaa.PFnExactBackTurns
open Go.RowKit Go.Proofs.YthfpaldhdohnkaaW.PrintWords Go.Proofs.YthfpaldhdohnkaaW.PrintLast Go.Proofs.YthfpaldhdohnkaaW.PrintMore
attribute [local go_sem] max2_int min2_int max_two min_two max_three min_three max_four min_four   -- for this text's walks alone
set_option linter.unusedVariables false
set_option linter.unusedSimpArgs false

/-! ### laws_markInt64SS: function 69 -/
/-! by hand: each row of rows of one's own is marked -/
def laws_markInt64SS.l0 : Nat → List (List Int) → Int → Int → Option (Int × List (List Int))
  | 0, _, _, _ => none
  | k + 1, x0, x1, x5 => if x5 < (x0.length : Int) then (if 0 ≤ x5 then ((laws_markInt64S.f k (x0.getD x5.toNat []) x1).bind fun b => (laws_markInt64SS.l0 k (x0.set x5.toNat b.2) b.1 (wrap64 (x5 + 1)))) else (none)) else (some (x1, x0))
def laws_markInt64SS.f (k : Nat) (l0 : List (List Int)) (a1 : Int) : Option (Int × List (List Int)) := laws_markInt64SS.l0 k l0 a1 0
theorem laws_markInt64SS.mono_l : ∀ k, (∀ y0 y1 y2, LeO (laws_markInt64SS.l0 k y0 y1 y2) (laws_markInt64SS.l0 (k + 1) y0 y1 y2))
  | 0 => fun _ _ _ r h => by simp [laws_markInt64SS.l0] at h
  | k + 1 => by
    have ih0 := laws_markInt64SS.mono_l k
    intro y0 y1 y2
    unfold laws_markInt64SS.l0
    repeat' first
      | (with_reducible exact ih0 _ _ _)
      | (with_reducible exact laws_markInt64S.mono _ _ _)
      | (with_reducible exact LeO.refl _)
      | (with_reducible exact LeO.none _)
      | (with_reducible refine LeO.ite ?_ ?_)
      | (with_reducible refine LeO.bind ?_ (fun _ => ?_))
      | exact ih0 _ _ _
theorem laws_markInt64SS.mono : ∀ a0 a1 k, LeO (laws_markInt64SS.f k a0 a1) (laws_markInt64SS.f (k + 1) a0 a1) := by
  intro a0 a1 k
  exact laws_markInt64SS.mono_l k a0 a1 0
theorem S_some {α : Type} {d : Kd α} {e : Nat} {W : World} {base : Nat} {ok : Nat → Prop} {A : Option Addr} {n c : Nat} {xs : List α} (h : Kd.S d e W base ok (.slice A n c) xs) (h1 : 0 < n) : ∃ g, A = some ⟨g, 0, none⟩ := by
  obtain ⟨h0, inner, ho, hr⟩ := Kd.S_R h
  rcases ho.2 with ⟨hv, h2⟩ | ⟨g, cap', cur, hv, _⟩
  · injection hv with _ hn _; omega
  · injection hv with ha _ _; exact ⟨g, ha⟩
set_option maxHeartbeats 8000000 in
set_option maxRecDepth 100000 in
theorem laws_markInt64SS.calls (k : Nat) (P0_ : Nat → Prop) (u9000_ : Value) (l0 : List (List Int)) (a1 : Int) (r1 : Int) (r2 : List (List Int)) (w0 w : World) (hB : Below w0.heap.size w0 w) (ho0 : Kd.S (Kd.slice 2 (Kd.int .i64)) 24 w w0.heap.size P0_ u9000_ l0) (h : laws_markInt64SS.f k l0 a1 = some (r1, r2)) :
    Calls Try.prog 69 #[u9000_, .int .i64 a1] w fun e w' => e = .returned (.int .i64 r1) ∧ Kd.S (Kd.slice 2 (Kd.int .i64)) 24 w' w0.heap.size P0_ u9000_ r2 ∧ Below w0.heap.size w0 w' ∧ Kept w w' (fun k_ => P0_ k_) := by
  have HO0 := Aside0.mk ho0
  have HK := Aside0.mk (Kept.refl w (fun k_ => P0_ k_))
  have HB := Aside0.mk hB
  clear hB ho0
  have H' := Aside0.mk (show laws_markInt64SS.l0 k l0 a1 0 = some (r1, r2) from h)
  clear h
  go_enter Try.func69, Try.ntmps69
  go_wp2
  go_loopg [1, 5] k (fun kq v1 v5 w' => ∃ (x0_1 : List (List Int)) (x1_1 : Int) (x5_1 : Int), v1 = .int .i64 x1_1 ∧ v5 = .int .i64 x5_1 ∧ Aside0 (laws_markInt64SS.l0 kq x0_1 x1_1 x5_1 = some (r1, r2)) ∧ Aside0 (kq ≤ k) ∧ Aside0 (Kd.S (Kd.slice 2 (Kd.int .i64)) 24 w' w0.heap.size P0_ u9000_ x0_1) ∧ Aside0 (Kept w w' (fun k_ => P0_ k_)) ∧ Aside0 (Below w0.heap.size w0 w'))
  case atStart => exact ⟨l0, a1, 0, rfl, rfl, H', ⟨Nat.le_refl _⟩, ⟨by (with_reducible repeat (first | apply Kd.S_alloc | apply Kd.S_drewN | apply Kd.S_drew)); exact HO0.out⟩, ⟨by repeat (first | (with_reducible first | exact HK.out | apply Kept.alloc | apply Kept.drewN | apply Kept.drew) | exact HK.out)⟩, ⟨by repeat (first | (with_reducible first | exact HB.out | apply below_alloc | apply pw_below_drewN | apply below_drew1) | exact HB.out)⟩⟩
  case round =>
    clear H'
    obtain ⟨x0_1, x1_1, x5_1, rfl, rfl, HA, HK1, HO_0, HK, HB⟩ := hrel
    cases gk with
    | zero => exact absurd HA.out (by simp [laws_markInt64SS.l0])
    | succ k1 =>
      have H := HA.out
      clear HA
      simp only [laws_markInt64SS.l0] at H
      by_cases c3 : x5_1 < (x0_1.length : Int)
      · rw [if_pos c3] at H
        have c3b0 : decide (x5_1 < (x0_1.length : Int)) = true := decide_eq_true c3
        by_cases c4 : 0 ≤ x5_1
        · rw [if_pos c4] at H
          have c4b0 : decide (0 ≤ x5_1) = true := decide_eq_true c4
          replace H := Option.bind_eq_some_iff.mp H
          obtain ⟨⟨b1, b2⟩, A1, H⟩ := H
          have H' := Aside0.mk (show laws_markInt64SS.l0 k1 (x0_1.set x5_1.toNat b2) b1 (wrap64 (x5_1 + 1)) = some (r1, r2) from H)
          clear H
          have AA := Aside0.mk A1
          clear A1
          obtain ⟨Ao6, co6, eo6⟩ := Kd.R_slice (Kd.S_R HO_0.out)
          subst eo6
          obtain ⟨go5, eo5⟩ : ∃ go5, Ao6 = some ⟨go5, 0, none⟩ := S_some HO_0.out (by omega)
          subst eo5
          obtain ⟨oki, c, hcl, hM, hcc, hoki, hH⟩ := Kd.S_lend HO_0.out ([] : List Int) x5_1 c4 (by omega)
          obtain ⟨v, rfl, hR⟩ := hM
          have hx := hcc 0 v rfl
          rw [Nat.add_zero, show (Kd.slice 2 (Kd.int .i64)).sz = 1 from rfl, Nat.mul_one] at hx
          obtain ⟨row, hrow⟩ : ∃ row : List Int, x0_1.getD x5_1.toNat [] = row := ⟨_, rfl⟩
          rw [hrow] at hR
          have AA := Aside0.mk (show laws_markInt64S.f k1 row x1_1 = some (b1, b2) from hrow ▸ AA.out)
          obtain ⟨Av, cv, rfl⟩ := Kd.R_slice hR
          have HR := Aside0.mk hR
          have HH := Aside0.mk hH
          have HI := Aside0.mk hoki
          clear hcl hcc hR hH hoki c3 c4 hrow
          have p5 : (0 ≤ x5_1) = True := eq_true (of_decide_eq_true c4b0)
          have q5 : (x5_1 < (x0_1.length : Int)) = True := eq_true (of_decide_eq_true c3b0)
          go_wp2_with (first | (go_at_call 37; refine (laws_markInt64S.calls k1 oki (.slice Av row.length cv) row x1_1 b1 b2 w0 _ HB.out HR.out AA.out).mono ?_; rintro e w8 ⟨rfl, hR8, hB8, hK8⟩; have n0_ := Aside0.mk (Kd.H_back (Kd.H_kept HH.out hK8 (fun k_ _ hn_ => hn_)) (okp := oki) ⟨_, rfl, Kd.R_reok rfl hR8 (fun k_ e_ => HR.out.1 k_ e_)⟩ (fun _ h_ => h_)); have n1_ := Aside0.mk hB8; have n2_ := Aside0.mk (Kept.then_ HK.out hK8 (fun k_ h_ => .inl (HI.out k_ h_).1)); clear HO_0 HB HK; have HO_0 := n0_; have HB := n1_; have HK := n2_; clear n0_ n1_ n2_ hR8 hB8 hK8))
          go_roundg k1
          case measure => have := HK1.out; omega
          case rel => exact ⟨_, b1, (wrap64 (x5_1 + 1)), (by first | rfl | (simp; done) | (simp [*]; done)), (by first | rfl | (simp; done) | (simp [*]; done)), H', ⟨by have := HK1.out; omega⟩, ⟨by (with_reducible repeat (first | apply Kd.S_alloc | apply Kd.S_drewN | apply Kd.S_drew)); exact HO_0.out⟩, ⟨by repeat (first | (with_reducible first | exact HK.out | apply Kept.alloc | apply Kept.drewN | apply Kept.drew) | exact HK.out)⟩, ⟨by repeat (first | (with_reducible first | exact HB.out | apply below_alloc | apply pw_below_drewN | apply below_drew1) | exact HB.out)⟩⟩
        · rw [if_neg c4] at H
          exact absurd H (by simp)
      · rw [if_neg c3] at H
        have c3b0 : decide (x5_1 < (x0_1.length : Int)) = false := decide_eq_false c3
        clear c3
        simp only [Option.some.injEq, Prod.mk.injEq] at H
        obtain ⟨rfl, rfl⟩ := H
        obtain ⟨Ao9, co9, eo9⟩ := Kd.R_slice (Kd.S_R HO_0.out)
        subst eo9
        go_wp2
        go_ret
        exact ⟨by first | rfl | (simp; done) | (simp [*]; done), by (with_reducible repeat (first | apply Kd.S_alloc | apply Kd.S_drewN | apply Kd.S_drew)); exact HO_0.out, by repeat (first | (with_reducible first | exact HB.out | apply below_alloc | apply pw_below_drewN | apply below_drew1) | exact HB.out), by repeat (first | (with_reducible first | exact HK.out | apply Kept.alloc | apply Kept.drewN | apply Kept.drew) | exact HK.out)⟩

/-! ### laws_markTuning: function 36 -/
/-! by hand: a tuning of one's own is marked -/
def laws_markTuning.f (k : Nat) (l0_0 : List Int) (l0_1 : List (List Int)) (a1 : Int) : Option (Int × List Int × List (List Int)) := (laws_markInt64S.f k l0_0 a1).bind fun b => ((laws_markInt64SS.f k l0_1 b.1).bind fun c => some (c.1, b.2, c.2))
theorem laws_markTuning.mono : ∀ a0 a1 a2 k, LeO (laws_markTuning.f k a0 a1 a2) (laws_markTuning.f (k + 1) a0 a1 a2) := by
  intro a0 a1 a2 k
  unfold laws_markTuning.f
  exact LeO.bind (laws_markInt64S.mono _ _ _) (fun _ => LeO.bind (laws_markInt64SS.mono _ _ _) (fun _ => LeO.refl _))
set_option maxHeartbeats 8000000 in
set_option maxRecDepth 100000 in
theorem laws_markTuning.calls (k : Nat) (P0_0_ : Nat → Prop) (u9000_ : Value) (l0_0 : List Int) (P0_1_ : Nat → Prop) (u9001_ : Value) (l0_1 : List (List Int)) (a1 : Int) (r1 : Int) (r2 : List Int) (r3 : List (List Int)) (w0 w : World) (hB : Below w0.heap.size w0 w) (ho0_0 : Kd.R (Kd.int .i64) 2 w w0.heap.size P0_0_ u9000_ l0_0) (hp0_0_0_1 : ∀ k_, P0_0_ k_ → ¬ P0_1_ k_) (ho0_1 : Kd.S (Kd.slice 2 (Kd.int .i64)) 24 w w0.heap.size P0_1_ u9001_ l0_1) (h : laws_markTuning.f k l0_0 l0_1 a1 = some (r1, r2, r3)) :
    Calls Try.prog 36 #[.agg #[u9000_, u9001_], .int .i64 a1] w fun e w' => e = .returned (.int .i64 r1) ∧ Kd.R (Kd.int .i64) 2 w' w0.heap.size (fun k_ => (P0_0_ k_ ∨ w.heap.size ≤ k_)) u9000_ r2 ∧ Kd.S (Kd.slice 2 (Kd.int .i64)) 24 w' w0.heap.size P0_1_ u9001_ r3 ∧ Below w0.heap.size w0 w' ∧ Kept w w' (fun k_ => P0_0_ k_ ∨ P0_1_ k_) := by
  unfold laws_markTuning.f at h
  obtain ⟨⟨b1, b2⟩, A1, h⟩ := Option.bind_eq_some_iff.mp h
  obtain ⟨⟨c1, c2⟩, A2, h⟩ := Option.bind_eq_some_iff.mp h
  simp only [Option.some.injEq, Prod.mk.injEq] at h
  obtain ⟨rfl, rfl, rfl⟩ := h
  have A1 := Aside0.mk A1
  have A2 := Aside0.mk A2
  have hlt : ∀ k_, u9000_.ownBlock = some k_ → k_ < w.heap.size := Kd.R_lt ho0_0
  have HA := Aside0.mk (Kd.R_reok rfl ho0_0 (ok := fun k_ => P0_0_ k_ ∧ k_ < w.heap.size) (fun k_ e_ => ⟨ho0_0.1 k_ e_, hlt k_ e_⟩))
  have HS := Aside0.mk (Kd.S_mono (Kd.S_bound ho0_1) (fun k_ h_ => (⟨h_.1, h_.2.2.1⟩ : P0_1_ k_ ∧ k_ < w.heap.size)))
  have HB := Aside0.mk hB
  have HP := Aside0.mk hp0_0_0_1
  clear hB ho0_0 ho0_1 hp0_0_0_1 hlt
  go_enter Try.func36, Try.ntmps36
  go_wp2_with (first
    | ((with_reducible refine gate_dst (N := 2) rfl ?_); refine box_event ?hg (N := 2) ?hd (cs := #[u9000_, u9001_]) (t := 27) ?hr ?_; (case hd => rfl); (case hg => rfl); (case hr => first | (go_simp; done) | (go_simp; rfl)); intro gb1 hg w1 hbox hb; have HB1 := Aside0.mk (below_step HB.out hb); have hge : w.heap.size ≤ gb1 := (by rw [hg]; exact Nat.le_refl _); have HG := Aside0.mk hge; have BK := Aside0.mk hbox; have HA1 := Aside0.mk (Kd.R_below HA.out hb); have HS1 := Aside0.mk (Kd.S_below HS.out hb); have hcz_0 : w1.cell? ⟨gb1, 0, none⟩ = some u9000_ := (blk_cell hbox 0).trans rfl; have hcz_1 : w1.cell? ⟨gb1, 1, none⟩ = some u9001_ := (blk_cell hbox 1).trans rfl; have HK1 := Aside0.mk (Kept.of_below hb (fun k_ => P0_0_ k_ ∨ P0_1_ k_)); clear HA HS hbox hb hge hg)
    | (go_at_call 37; refine (laws_markInt64S.calls k (fun k_ => P0_0_ k_ ∧ k_ < w.heap.size) u9000_ l0_0 a1 b1 b2 w0 _ HB1.out HA1.out A1.out).mono ?_; rintro e w2 ⟨rfl, hR, hB2, hK2⟩; have HB2 := Aside0.mk hB2; have hbk := blk_kept BK.out hK2 (fun h_ => Nat.not_lt.2 HG.out h_.2); have hcy_1 : w2.cell? ⟨gb1, 1, none⟩ = some u9001_ := (blk_cell hbk 1).trans rfl; have HA2 := Aside0.mk (Kd.R_reok rfl hR (ok := fun k_ => P0_0_ k_ ∧ k_ < w.heap.size) (fun k_ e_ => HA1.out.1 k_ e_)); have HS2 := Aside0.mk (Kd.S_kept HS1.out hK2 (fun k_ h_ h2_ => HP.out k_ h2_.1 h_.1)); have HK2 := Aside0.mk (Kept.then_ HK1.out hK2 (fun k_ h_ => .inl (.inl h_.1))); clear hR hB2 hK2 hbk HA1 HS1 HK1)
    | (go_at_call 69; refine (laws_markInt64SS.calls k (fun k_ => P0_1_ k_ ∧ k_ < w.heap.size) u9001_ l0_1 b1 c1 c2 w0 _ HB2.out HS2.out A2.out).mono ?_; rintro e w3 ⟨rfl, hR, hB3, hK3⟩; have HB3 := Aside0.mk hB3; have HS3 := Aside0.mk hR; have HA3 := Aside0.mk (Kd.R_kept HA2.out hK3 (fun k_ h_ h2_ => HP.out k_ h_.1 h2_.1)); have HK3 := Aside0.mk (Kept.then_ HK2.out hK3 (fun k_ h_ => .inl (.inr h_.1))); clear hR hB3 hK3))
  go_ret
  exact ⟨by first | rfl | (simp; done), Kd.R_mono HA3.out (fun k_ h_ => .inl h_.1), Kd.S_mono HS3.out (fun k_ h_ => h_.1), HB3.out, HK3.out⟩

/-! ### laws_heldInt64S: function 38 -/
def laws_heldInt64S.l0 : Nat → List Int → Int → Int → Option (Int)
  | 0, _, _, _ => none
  | k + 1, x0, x1, x5 => if x5 < (x0.length : Int) then (if 0 ≤ x5 then (if (rd x0 x5) = x1 then (laws_heldInt64S.l0 k x0 (wrap64 (x1 + 1)) (wrap64 (x5 + 1))) else (some (-1))) else (none)) else (some x1)
def laws_heldInt64S.f (k : Nat) (l0 : List Int) (a1 : Int) : Option (Int) := laws_heldInt64S.l0 k l0 a1 0
theorem laws_heldInt64S.mono_l : ∀ k, (∀ y0 y1 y2, LeO (laws_heldInt64S.l0 k y0 y1 y2) (laws_heldInt64S.l0 (k + 1) y0 y1 y2))
  | 0 => fun _ _ _ r h => by simp [laws_heldInt64S.l0] at h
  | k + 1 => by
    have ih0 := laws_heldInt64S.mono_l k
    · intro y0 y1 y2
      unfold laws_heldInt64S.l0
      repeat' first
      | (with_reducible exact ih0 _ _ _)
      | (with_reducible exact LeO.refl _)
      | (with_reducible exact LeO.none _)
      | (with_reducible refine LeO.ite ?_ ?_)
      | (with_reducible refine LeO.bind ?_ (fun _ => ?_))
      | exact ih0 _ _ _
      | exact LeO.none _
      | refine LeO.ite ?_ ?_
      | refine LeO.bind ?_ (fun _ => ?_)
theorem laws_heldInt64S.mono : ∀ a0 a1 k, LeO (laws_heldInt64S.f k a0 a1) (laws_heldInt64S.f (k + 1) a0 a1) := by
  intro a0 a1 k
  have ih0 := laws_heldInt64S.mono_l k
  unfold laws_heldInt64S.f
  repeat' first
      | (with_reducible exact ih0 _ _ _)
      | (with_reducible exact LeO.refl _)
      | (with_reducible exact LeO.none _)
      | (with_reducible refine LeO.ite ?_ ?_)
      | (with_reducible refine LeO.bind ?_ (fun _ => ?_))
      | exact ih0 _ _ _
      | exact LeO.none _
      | refine LeO.ite ?_ ?_
      | refine LeO.bind ?_ (fun _ => ?_)
set_option maxHeartbeats 8000000 in
set_option maxRecDepth 100000 in
theorem laws_heldInt64S.calls (k : Nat) (A0 : Option Addr) (c0 : Nat) (l0 : List Int) (a1 : Int) (r : Int) (w : World) (hr0 : Kd.C (Kd.int .i64) w A0 l0.length l0) (hc0 : l0.length ≤ c0) (h : laws_heldInt64S.f k l0 a1 = some r) :
    Calls Try.prog 38 #[.slice A0 l0.length c0, .int .i64 a1] w fun e w' => e = .returned (.int .i64 r) ∧ Drawn0 w w' := by
  have HR0 := Aside0.mk hr0
  have HC0 := Aside0.mk hc0
  clear hr0 hc0
  have H : (laws_heldInt64S.l0 k l0 a1 0) = some r := h
  clear h
  have H' := Aside0.mk H
  clear H
  go_enter Try.func38, Try.ntmps38
  go_wp2
  go_loopg [1, 5] k (fun kq v1 v5 w' => ∃ (x1_1 : Int) (x5_1 : Int), v1 = .int .i64 x1_1 ∧ v5 = .int .i64 x5_1 ∧ Aside0 (laws_heldInt64S.l0 kq l0 x1_1 x5_1 = some r) ∧ Aside0 (kq ≤ k) ∧ Drawn0 w w')
  case atStart => exact ⟨(a1), (0), (by first | rfl | (simp; done) | (simp [*]; done)), (by first | rfl | (simp; done) | (simp [*]; done)), H', ⟨Nat.le_refl _⟩, by repeat (first | exact Drawn0.refl _ | apply Drawn0.step)⟩
  case round =>
    clear H'
    try clear p2
    obtain ⟨x1_1, x5_1, rfl, rfl, HA, HK1, ⟨m1, rfl⟩⟩ := hrel
    cases gk with
    | zero => exact absurd HA.out (by simp [laws_heldInt64S.l0])
    | succ k1 =>
      have H := HA.out
      clear HA
      simp only [laws_heldInt64S.l0] at H
      by_cases c3 : x5_1 < (l0.length : Int)
      · rw [if_pos c3] at H
        have c3b0 : decide (x5_1 < (l0.length : Int)) = true := decide_eq_true c3
        clear c3
        by_cases c4 : 0 ≤ x5_1
        · rw [if_pos c4] at H
          have c4b0 : decide (0 ≤ x5_1) = true := decide_eq_true c4
          clear c4
          by_cases c5 : (rd l0 x5_1) = x1_1
          · rw [if_pos c5] at H
            have c5b0 : ((rd l0 x5_1) == x1_1) = true := beq_iff_eq.mpr c5
            have c5b1 : ((rd l0 x5_1) != x1_1) = false := bne_eq_false_iff_eq.mpr c5
            clear c5
            have H' := Aside0.mk H
            clear H
            have p175 : 0 ≤ (x5_1 : Int) := of_decide_eq_true (by first | (with_reducible assumption) | assumption)
            have q175 : x5_1 < (l0.length : Int) := of_decide_eq_true (by first | (with_reducible assumption) | assumption)
            obtain ⟨ad175, e175, hx175_0⟩ := Kd.at_int HR0.out x5_1 p175 q175
            cases e175
            replace p175 := eq_true p175
            replace q175 := eq_true q175
            go_wp2
            go_roundg k1
            case measure => have := HK1.out; omega
            case rel => exact ⟨(wrap64 (x1_1 + 1)), (wrap64 (x5_1 + 1)), (by first | rfl | (simp; done) | (simp [*]; done)), (by first | rfl | (simp; done) | (simp [*]; done)), H', ⟨by have := HK1.out; omega⟩, by repeat (first | exact Drawn0.refl _ | apply Drawn0.step)⟩
          · rw [if_neg c5] at H
            have c5b0 : ((rd l0 x5_1) == x1_1) = false := beq_eq_false_iff_ne.mpr c5
            have c5b1 : ((rd l0 x5_1) != x1_1) = true := bne_iff_ne.mpr c5
            obtain rfl := Option.some.inj H
            have p175 : 0 ≤ (x5_1 : Int) := of_decide_eq_true (by first | (with_reducible assumption) | assumption)
            have q175 : x5_1 < (l0.length : Int) := of_decide_eq_true (by first | (with_reducible assumption) | assumption)
            obtain ⟨ad175, e175, hx175_0⟩ := Kd.at_int HR0.out x5_1 p175 q175
            cases e175
            replace p175 := eq_true p175
            replace q175 := eq_true q175
            go_wp2
            go_ret
            exact ⟨by first | rfl | (simp; done) | (simp [*]; done), by repeat (first | exact Drawn0.refl _ | apply Drawn0.step)⟩
        · rw [if_neg c4] at H
          exact absurd H (by simp)
      · rw [if_neg c3] at H
        have c3b0 : decide (x5_1 < (l0.length : Int)) = false := decide_eq_false c3
        clear c3
        obtain rfl := Option.some.inj H
        go_wp2
        go_ret
        exact ⟨by first | rfl | (simp; done) | (simp [*]; done), by repeat (first | exact Drawn0.refl _ | apply Drawn0.step)⟩

end Go.Proofs.Ythfpaldhdohnkaa.PFnExactBackTurns
