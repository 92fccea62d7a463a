/- The walks of the functions that the law reaches: each computes what its Lean function says. No condition beyond each contract's own. -/
import Derived.Test.YthfpaldhdohnkaaHFnExactRetunedx0
namespace Go.Proofs.Ythfpaldhdohnkaa.PFnExactRetuned
open Go.RowKit Go.Proofs.YthfpaldhdohnkaaW.PrintWords Go.Proofs.YthfpaldhdohnkaaW.PrintLast Go.Proofs.YthfpaldhdohnkaaW.PrintMore
attribute [local go_sem] max2_int min2_int max_two min_two max_three min_three max_four min_four   -- for this text's walks alone
set_option linter.unusedVariables false
set_option linter.unusedSimpArgs false

/-! ### impl_within: function 57 -/
def impl_within.f (a0 : Int) (a1 : Int) (a2 : Int) : Option (Bool) := if a0 ≥ a1 then (some (decide (a0 ≤ a2))) else (some false)
set_option maxHeartbeats 8000000 in
set_option maxRecDepth 100000 in
theorem impl_within.calls (a0 : Int) (a1 : Int) (a2 : Int) (r : Bool) (w : World) (h : impl_within.f a0 a1 a2 = some r) :
  Calls Try.prog 57 #[.int .i64 a0, .int .i64 a1, .int .i64 a2] w fun e w' => e = .returned (.bool r) ∧ Drawn0 w w' := by
 have H : (if a0 ≥ a1 then (some (decide (a0 ≤ a2))) else (some false)) = some r := h
 clear h
 by_cases c4 : a0 ≥ a1
 ·rw [if_pos c4] at H
  have c4b0 : decide (a1 ≤ a0) = true := decide_eq_true c4; clear c4; obtain rfl := Option.some.inj H
  go_enter Try.func57, Try.ntmps57
  go_wp2
  go_ret
  exact ⟨zF, by repeat (first | exact Drawn0.refl _ | apply Drawn0.step)⟩
 ·rw [if_neg c4] at H
  have c4b0 : decide (a1 ≤ a0) = false := decide_eq_false c4; clear c4; obtain rfl := Option.some.inj H
  go_enter Try.func57, Try.ntmps57
  go_wp2
  go_ret
  exact ⟨zF, by repeat (first | exact Drawn0.refl _ | apply Drawn0.step)⟩

/-! ### impl_areIn: function 54 -/
def impl_areIn.l0 : Nat → Int → Int → List Int → Int → Int → Option (Bool)
 | 0, _, _, _, _, _ => none
 | k + 1, x2, x3, x15, x16, x17 => if x17 < x16 then (if 0 ≤ x17 then (if x17 < (x15.length : Int) then ((impl_within.f (rd x15 x17) x2 x3).bind fun t102 => (if t102 = true then (impl_areIn.l0 k x2 x3 x15 x16 (wrap64 (x17 + 1))) else (some false))) else (none)) else (none)) else (some true)
def impl_areIn.f (k : Nat) (l0 : List Int) (a1 : Int) (a2 : Int) (a3 : Int) : Option (Bool) := if (l0.length : Int) = a1 then (impl_areIn.l0 k a2 a3 l0 (l0.length : Int) 0) else (some false)
theorem impl_areIn.mono_l : ∀ k, (∀ y0 y1 y2 y3 y4, LeO (impl_areIn.l0 k y0 y1 y2 y3 y4) (impl_areIn.l0 (k + 1) y0 y1 y2 y3 y4))
 | 0 => fun _ _ _ _ _ r h => by simp [impl_areIn.l0] at h
 | k + 1 => by
  have ih0 := impl_areIn.mono_l k
  ·intro y0 y1 y2 y3 y4
   unfold impl_areIn.l0
   (with_reducible repeat' first | apply ih0 | apply LeO.refl | apply LeO.none | refine LeO.ite ?_ ?_ | refine LeO.bind ?_ (fun _ => ?_))
   repeat' first | apply ih0 | apply LeO.none | refine LeO.ite ?_ ?_ | refine LeO.bind ?_ (fun _ => ?_)
theorem impl_areIn.mono : ∀ a0 a1 a2 a3 k, LeO (impl_areIn.f k a0 a1 a2 a3) (impl_areIn.f (k + 1) a0 a1 a2 a3) := by
 intro a0 a1 a2 a3 k
 have ih0 := impl_areIn.mono_l k
 unfold impl_areIn.f
 (with_reducible repeat' first | apply ih0 | apply LeO.refl | apply LeO.none | refine LeO.ite ?_ ?_ | refine LeO.bind ?_ (fun _ => ?_))
 repeat' first | apply ih0 | apply LeO.none | refine LeO.ite ?_ ?_ | refine LeO.bind ?_ (fun _ => ?_)
set_option maxHeartbeats 8000000 in
set_option maxRecDepth 100000 in
theorem impl_areIn.calls (k : Nat) (A0 : Option Addr) (c0 : Nat) (l0 : List Int) (a1 : Int) (a2 : Int) (a3 : Int) (r : Bool) (w : World) (hr0 : Kd.C (Kd.int .i64) w A0 l0.length l0) (hc0 : l0.length ≤ c0) (h : impl_areIn.f k l0 a1 a2 a3 = some r) :
  Calls Try.prog 54 #[.slice A0 l0.length c0, .int .i64 a1, .int .i64 a2, .int .i64 a3] w fun e w' => e = .returned (.bool r) ∧ Drawn0 w w' := by
 have HR0 := zQ hr0
 have HC0 := zQ hc0
 clear hr0 hc0
 have H : (if (l0.length : Int) = a1 then (impl_areIn.l0 k a2 a3 l0 (l0.length : Int) 0) else (some false)) = some r := h
 clear h
 by_cases c5 : (l0.length : Int) = a1
 ·rw [if_pos c5] at H
  have c5b0 : ((l0.length : Int) == a1) = true := beq_iff_eq.mpr c5; have c5b1 : ((l0.length : Int) != a1) = false := bne_eq_false_iff_eq.mpr c5; clear c5; have H' := zQ H; clear H
  go_enter Try.func54, Try.ntmps54
  go_wp2
  go_loopg [17] k (fun kq v17 w' => ∃ (x17_1 : Int), v17 = .int .i64 x17_1 ∧ Aside0 (impl_areIn.l0 kq a2 a3 l0 (l0.length : Int) x17_1 = some r) ∧ Aside0 (kq ≤ k) ∧ Drawn0 w w')
  case atStart => exact ⟨(0), (zF), H', ⟨Nat.le_refl _⟩, by repeat (first | exact Drawn0.refl _ | apply Drawn0.step)⟩
  case round =>
   clear H'; (try clear p2); (try clear c5); (try clear c5b0); (try clear c5b1); obtain ⟨x17_1, rfl, HA, HK1, ⟨m1, rfl⟩⟩ := hrel
   cases gk with
   | zero => exact absurd HA.out (by simp [impl_areIn.l0])
   | succ k1 =>
    have H := HA.out; clear HA
    simp only [impl_areIn.l0] at H
    by_cases c6 : x17_1 < (l0.length : Int)
    ·rw [if_pos c6] at H
     have c6b0 : decide (x17_1 < (l0.length : Int)) = true := decide_eq_true c6; clear c6
     by_cases c7 : 0 ≤ x17_1
     ·rw [if_pos c7] at H
      have c7b0 : decide (0 ≤ x17_1) = true := decide_eq_true c7; clear c7
      by_cases c8 : x17_1 < (l0.length : Int)
      ·rw [if_pos c8] at H
       have c8b0 : decide (x17_1 < (l0.length : Int)) = true := decide_eq_true c8; clear c8; replace H := Option.bind_eq_some_iff.mp H; obtain ⟨t102, A90, H⟩ := H; replace H : (if t102 = true then (impl_areIn.l0 k1 a2 a3 l0 (l0.length : Int) (wrap64 (x17_1 + 1))) else (some false)) = some r := H; have A9 := zQ A90; clear A90
       by_cases c10 : t102 = true
       ·subst c10
        have H1 : (impl_areIn.l0 k1 a2 a3 l0 (l0.length : Int) (wrap64 (x17_1 + 1))) = some r := by rw [if_pos rfl] at H; exact H
        clear H; have H := H1; clear H1; have H' := zQ H; clear H; have p101 : 0 ≤ (x17_1 : Int) := of_decide_eq_true zA; have q101 : x17_1 < (l0.length : Int) := of_decide_eq_true zA; obtain ⟨ad101, e101, hx101_0⟩ := Kd.at_int HR0.out x17_1 p101 q101
        cases e101
        replace p101 := eq_true p101; replace q101 := eq_true q101
        go_wp2_with (first | ((with_reducible refine zgc 57 ?_); refine zgo (some 24) Try.func57 #[.int .i64 (rd l0 x17_1), .int .i64 a2, .int .i64 a3] ?_; (with_reducible refine (impl_within.calls (rd l0 x17_1) a2 a3 true _ A9.out).mono ?_); rintro e w' ⟨rfl, ⟨nd, rfl⟩⟩; refine ⟨_, rfl, ?_⟩))
        go_roundg k1
        case measure => have := HK1.out; omega
        case rel => exact ⟨(wrap64 (x17_1 + 1)), (zF), H', ⟨by have := HK1.out; omega⟩, by repeat (first | exact Drawn0.refl _ | apply Drawn0.step)⟩
       ·replace c10 := Bool.eq_false_iff.mpr c10
        subst c10
        have H1 : (some false) = some r := by rw [if_neg (show ¬ (false = true) by decide)] at H; exact H
        clear H; have H := H1; clear H1; obtain rfl := Option.some.inj H; have p101 : 0 ≤ (x17_1 : Int) := of_decide_eq_true zA; have q101 : x17_1 < (l0.length : Int) := of_decide_eq_true zA; obtain ⟨ad101, e101, hx101_0⟩ := Kd.at_int HR0.out x17_1 p101 q101
        cases e101
        replace p101 := eq_true p101; replace q101 := eq_true q101
        go_wp2_with (first | ((with_reducible refine zgc 57 ?_); refine zgo (some 24) Try.func57 #[.int .i64 (rd l0 x17_1), .int .i64 a2, .int .i64 a3] ?_; (with_reducible refine (impl_within.calls (rd l0 x17_1) a2 a3 false _ A9.out).mono ?_); rintro e w' ⟨rfl, ⟨nd, rfl⟩⟩; refine ⟨_, rfl, ?_⟩))
        go_ret
        exact ⟨zF, by repeat (first | exact Drawn0.refl _ | apply Drawn0.step)⟩
      ·rw [if_neg c8] at H
       exact absurd H (by simp)
     ·rw [if_neg c7] at H
      exact absurd H (by simp)
    ·rw [if_neg c6] at H
     have c6b0 : decide (x17_1 < (l0.length : Int)) = false := decide_eq_false c6; clear c6; obtain rfl := Option.some.inj H
     go_wp2
     go_ret
     exact ⟨zF, by repeat (first | exact Drawn0.refl _ | apply Drawn0.step)⟩
 ·rw [if_neg c5] at H
  have c5b0 : ((l0.length : Int) == a1) = false := beq_eq_false_iff_ne.mpr c5; have c5b1 : ((l0.length : Int) != a1) = true := bne_iff_ne.mpr c5; obtain rfl := Option.some.inj H
  go_enter Try.func54, Try.ntmps54
  go_wp2
  go_ret
  exact ⟨zF, by repeat (first | exact Drawn0.refl _ | apply Drawn0.step)⟩

/-! ### impl_ValidTuning: function 27 -/
mutual
def impl_ValidTuning.j0 : Nat → Int → Bool → List Int → List (List Int) → Option (Bool)
 | 0, _, _, _, _ => none
 | k + 1, x3, x28, x104000, x104001 => if x28 = true then (some false) else (impl_ValidTuning.l0 k x3 x104001 (x104001.length : Int) 0)
def impl_ValidTuning.l0 : Nat → Int → List (List Int) → Int → Int → Option (Bool)
 | 0, _, _, _, _ => none
 | k + 1, x3, x30, x31, x32 => if x32 < x31 then (if 0 ≤ x32 then (if x32 < (x30.length : Int) then ((impl_areIn.f k (rd_L1 x30 x32) x3 (-1000) 1000).bind fun t106 => (if t106 = true then (impl_ValidTuning.l0 k x3 x30 x31 (wrap64 (x32 + 1))) else (some false))) else (none)) else (none)) else (some true)
end
def impl_ValidTuning.f (k : Nat) (l0_0 : List Int) (l0_1 : List (List Int)) : Option (Bool) := if (l0_0.length : Int) < 1 then (impl_ValidTuning.j0 k (l0_0.length : Int) true l0_0 l0_1) else (if (l0_0.length : Int) > 4 then (impl_ValidTuning.j0 k (l0_0.length : Int) true l0_0 l0_1) else (if (l0_1.length : Int) = (l0_0.length : Int) then ((impl_areIn.f k l0_0 (l0_0.length : Int) 0 1000000).bind fun t104 => (impl_ValidTuning.j0 k (l0_0.length : Int) (!t104) l0_0 l0_1)) else (impl_ValidTuning.j0 k (l0_0.length : Int) true l0_0 l0_1)))
theorem impl_ValidTuning.mono_l : ∀ k, (∀ y0 y1 y2 y3, LeO (impl_ValidTuning.j0 k y0 y1 y2 y3) (impl_ValidTuning.j0 (k + 1) y0 y1 y2 y3)) ∧ (∀ y0 y1 y2 y3, LeO (impl_ValidTuning.l0 k y0 y1 y2 y3) (impl_ValidTuning.l0 (k + 1) y0 y1 y2 y3))
 | 0 => ⟨fun _ _ _ _ r h => by simp [impl_ValidTuning.j0] at h, fun _ _ _ _ r h => by simp [impl_ValidTuning.l0] at h⟩
 | k + 1 => by
  obtain ⟨ih0, ih1⟩ := impl_ValidTuning.mono_l k
  refine ⟨?_, ?_⟩
  ·intro y0 y1 y2 y3
   unfold impl_ValidTuning.j0
   (with_reducible repeat' first | apply ih0 | apply ih1 | apply impl_areIn.mono | apply LeO.refl | apply LeO.none | refine LeO.ite ?_ ?_ | refine LeO.bind ?_ (fun _ => ?_))
   repeat' first | apply ih0 | apply ih1 | apply impl_areIn.mono | apply LeO.none | refine LeO.ite ?_ ?_ | refine LeO.bind ?_ (fun _ => ?_)
  ·intro y0 y1 y2 y3
   unfold impl_ValidTuning.l0
   (with_reducible repeat' first | apply ih0 | apply ih1 | apply impl_areIn.mono | apply LeO.refl | apply LeO.none | refine LeO.ite ?_ ?_ | refine LeO.bind ?_ (fun _ => ?_))
   repeat' first | apply ih0 | apply ih1 | apply impl_areIn.mono | apply LeO.none | refine LeO.ite ?_ ?_ | refine LeO.bind ?_ (fun _ => ?_)
theorem impl_ValidTuning.mono : ∀ a0 a1 k, LeO (impl_ValidTuning.f k a0 a1) (impl_ValidTuning.f (k + 1) a0 a1) := by
 intro a0 a1 k
 obtain ⟨ih0, ih1⟩ := impl_ValidTuning.mono_l k
 unfold impl_ValidTuning.f
 (with_reducible repeat' first | apply ih0 | apply ih1 | apply impl_areIn.mono | apply LeO.refl | apply LeO.none | refine LeO.ite ?_ ?_ | refine LeO.bind ?_ (fun _ => ?_))
 repeat' first | apply ih0 | apply ih1 | apply impl_areIn.mono | apply LeO.none | refine LeO.ite ?_ ?_ | refine LeO.bind ?_ (fun _ => ?_)
set_option maxHeartbeats 8000000 in
set_option maxRecDepth 100000 in
theorem impl_ValidTuning.calls (k : Nat) (A0_0 : Option Addr) (c0_0 : Nat) (l0_0 : List Int) (A0_1 : Option Addr) (c0_1 : Nat) (l0_1 : List (List Int)) (r : Bool) (w : World) (hr0_0 : Kd.C (Kd.int .i64) w A0_0 l0_0.length l0_0) (hc0_0 : l0_0.length ≤ c0_0) (hr0_1 : Kd.C (Kd.slice 2 (Kd.int .i64)) w A0_1 l0_1.length l0_1) (hc0_1 : l0_1.length ≤ c0_1) (h : impl_ValidTuning.f k l0_0 l0_1 = some r) :
  Calls Try.prog 27 #[.agg #[.slice A0_0 l0_0.length c0_0, .slice A0_1 l0_1.length c0_1]] w fun e w' => e = .returned (.bool r) ∧ Below w.heap.size w w' := by
 have hu27 := Try.underlying27
 have HR0_0 := zQ hr0_0
 have HC0_0 := zQ hc0_0
 clear hr0_0 hc0_0
 have HR0_1 := zQ hr0_1
 have HC0_1 := zQ hc0_1
 clear hr0_1 hc0_1
 have HB := zQ (Below.refl w.heap.size w)
 have H : (if (l0_0.length : Int) < 1 then (impl_ValidTuning.j0 k (l0_0.length : Int) true l0_0 l0_1) else (if (l0_0.length : Int) > 4 then (impl_ValidTuning.j0 k (l0_0.length : Int) true l0_0 l0_1) else (if (l0_1.length : Int) = (l0_0.length : Int) then ((impl_areIn.f k l0_0 (l0_0.length : Int) 0 1000000).bind fun t104 => (impl_ValidTuning.j0 k (l0_0.length : Int) (!t104) l0_0 l0_1)) else (impl_ValidTuning.j0 k (l0_0.length : Int) true l0_0 l0_1)))) = some r := h
 clear h
 have HC2 := zQ H
 clear H
 go_enter Try.func27, Try.ntmps27
 go_upto_region 2 with (first | ((with_reducible refine zd 1 ?_); (try (refine gate_guard (by rfl) ?_; dsimp only)); refine zbx (N := 1) (cs := #[.slice A0_0 l0_0.length c0_0, .slice A0_1 l0_1.length c0_1]) (t := 27) ?_; intro gb103 hg w3 hbox hb; have BK103 := zQ (hbox); have GW103 := zgz hg HB.out; have GE103 := GW103; replace HB := zbs HB.out hb; clear hb hbox hg; have hcz4_0 := zc0 BK103.out; have hcz4_1 := zc1 BK103.out; have hfz4_0 := zfz BK103.out 0; have hfz4_1 := zfz BK103.out 1))
 (try simp only [Act.put, List.setIfInBounds_toArray, List.set_cons_zero, List.set_cons_succ])
 go_cut [28] (fun v28 wc => ∃ (kq : Nat) (x28_1 : Bool), v28 = .bool x28_1 ∧ Aside0 (impl_ValidTuning.j0 kq (l0_0.length : Int) x28_1 l0_0 l0_1 = some r) ∧ Aside0 (kq ≤ k) ∧ Aside0 (wc.heap[gb103]? = some (.cells #[(.slice A0_0 l0_0.length c0_0), (.slice A0_1 l0_1.length c0_1)] 27 (0, 0))) ∧ Aside0 (Below w.heap.size w wc))
 case first =>
  have H := HC2.out; clear HC2
  by_cases c5 : (l0_0.length : Int) < 1
  ·rw [if_pos c5] at H
   have c5b0 : decide ((l0_0.length : Int) < 1) = true := decide_eq_true c5; have c5b1 : decide (l0_0.length < 1) = true := decide_eq_true (by omega); clear c5
   (first | rw [c5b0] | (simp only [i64_w, i32_w]; rw [c5b0]) | skip)
   have H' := zQ H; clear H
   go_wp2
   go_meet
   case rel => exact ⟨_, (true), (zF), H', ⟨by first | omega | exact Nat.le_refl _⟩, ⟨zb BK103.out⟩, ⟨zB2 HB.out GE103.out⟩⟩
  ·rw [if_neg c5] at H
   have c5b0 : decide ((l0_0.length : Int) < 1) = false := decide_eq_false c5; have c5b1 : decide (l0_0.length < 1) = false := decide_eq_false (by omega); clear c5
   (first | rw [c5b0] | (simp only [i64_w, i32_w]; rw [c5b0]) | skip)
   by_cases c6 : (l0_0.length : Int) > 4
   ·rw [if_pos c6] at H
    have c6b0 : decide (4 < (l0_0.length : Int)) = true := decide_eq_true c6; have c6b1 : decide (4 < l0_0.length) = true := decide_eq_true (by omega); clear c6; have H' := zQ H; clear H
    go_wp2
    go_meet
    case rel => exact ⟨_, (true), (zF), H', ⟨by first | omega | exact Nat.le_refl _⟩, ⟨zb BK103.out⟩, ⟨zB2 HB.out GE103.out⟩⟩
   ·rw [if_neg c6] at H
    have c6b0 : decide (4 < (l0_0.length : Int)) = false := decide_eq_false c6; have c6b1 : decide (4 < l0_0.length) = false := decide_eq_false (by omega); clear c6
    by_cases c7 : (l0_1.length : Int) = (l0_0.length : Int)
    ·rw [if_pos c7] at H
     have c7b0 : ((l0_1.length : Int) == (l0_0.length : Int)) = true := beq_iff_eq.mpr c7; have c7b1 : ((l0_1.length : Int) != (l0_0.length : Int)) = false := bne_eq_false_iff_eq.mpr c7
     have c7b2 : (l0_1.length == l0_0.length) = true := by first | simpa using c7 | (simp at c7 ⊢; omega)
     clear c7; replace H := Option.bind_eq_some_iff.mp H; obtain ⟨t104, A80, H⟩ := H; replace H : (impl_ValidTuning.j0 k (l0_0.length : Int) (!t104) l0_0 l0_1) = some r := H; have A8 := zQ A80; clear A80; have H' := zQ H; clear H; have hcz9_0 := zc0 BK103.out; have hcz9_1 := zc1 BK103.out; have hfz9_0 := zfz BK103.out 0; have hfz9_1 := zfz BK103.out 1
     go_wp2_with (first | (go_at_call 54; (with_reducible refine (impl_areIn.calls k _ _ l0_0 (l0_0.length : Int) 0 1000000 t104 _ (zC HR0_0.out HB.out) HC0_0.out A8.out).mono ?_); rintro e w' ⟨rfl, ⟨nd, rfl⟩⟩))
     go_meet
     case rel => exact ⟨_, (!t104), (zF), H', ⟨by first | omega | exact Nat.le_refl _⟩, ⟨zb BK103.out⟩, ⟨zB2 HB.out GE103.out⟩⟩
    ·rw [if_neg c7] at H
     have c7b0 : ((l0_1.length : Int) == (l0_0.length : Int)) = false := beq_eq_false_iff_ne.mpr c7; have c7b1 : ((l0_1.length : Int) != (l0_0.length : Int)) = true := bne_iff_ne.mpr c7
     have c7b2 : (l0_1.length == l0_0.length) = false := by first | simpa using c7 | (simp at c7 ⊢; omega)
     have H' := zQ H; clear H; have hcz10_0 := zc0 BK103.out; have hcz10_1 := zc1 BK103.out; have hfz10_0 := zfz BK103.out 0; have hfz10_1 := zfz BK103.out 1
     go_wp2
     go_meet
     case rel => exact ⟨_, (true), (zF), H', ⟨by first | omega | exact Nat.le_refl _⟩, ⟨zb BK103.out⟩, ⟨zB2 HB.out GE103.out⟩⟩
 case rest =>
  clear HC2; (try clear c2); (try clear p2); (try clear c5); (try clear c5b0); (try clear c5b1); (try clear c6); (try clear c6b0); (try clear c6b1); (try clear c7); (try clear c7b0); (try clear c7b1); (try clear c7b2); (try clear hcz10_0); (try clear hcz10_1); (try clear hcz4_0); (try clear hcz4_1); (try clear hcz9_0); (try clear hcz9_1); (try clear hfz10_0); (try clear hfz10_1); (try clear hfz4_0); (try clear hfz4_1); (try clear hfz9_0); (try clear hfz9_1); obtain ⟨kq, x28_1, rfl, HA, HJ1, BK103, HB⟩ := hcut
  cases kq with
  | zero => exact absurd HA.out (by simp [impl_ValidTuning.j0])
  | succ kj1 =>
   have H := HA.out; clear HA
   simp only [impl_ValidTuning.j0] at H
   by_cases c11 : x28_1 = true
   ·subst c11
    have H1 : (some false) = some r := by rw [if_pos rfl] at H; exact H
    clear H; have H := H1; clear H1; obtain rfl := Option.some.inj H
    go_wp2
    go_ret
    exact ⟨zE, zB2 HB.out GE103.out⟩
   ·replace c11 := Bool.eq_false_iff.mpr c11
    subst c11
    have H1 : (impl_ValidTuning.l0 kj1 (l0_0.length : Int) l0_1 (l0_1.length : Int) 0) = some r := by rw [if_neg (show ¬ (false = true) by decide)] at H; exact H
    clear H; have H := H1; clear H1; have H' := zQ H; clear H; have hcz12_0 := zc0 BK103.out; have hcz12_1 := zc1 BK103.out; have hfz12_0 := zfz BK103.out 0; have hfz12_1 := zfz BK103.out 1
    go_wp2
    go_loopg [32] kj1 (fun kq v32 w' => ∃ (x32_2 : Int), v32 = .int .i64 x32_2 ∧ Aside0 (impl_ValidTuning.l0 kq (l0_0.length : Int) l0_1 (l0_1.length : Int) x32_2 = some r) ∧ Aside0 (kq ≤ kj1) ∧ Aside0 (w'.heap[gb103]? = some (.cells #[(.slice A0_0 l0_0.length c0_0), (.slice A0_1 l0_1.length c0_1)] 27 (0, 0))) ∧ Aside0 (Below w.heap.size w w'))
    case atStart => exact ⟨(0), (zF), H', ⟨Nat.le_refl _⟩, ⟨zb BK103.out⟩, ⟨zB2 HB.out GE103.out⟩⟩
    case round =>
     clear H'; (try clear c1); (try clear c2); (try clear p2); (try clear c5); (try clear c5b0); (try clear c5b1); (try clear c6); (try clear c6b0); (try clear c6b1); (try clear c7); (try clear c7b0); (try clear c7b1); (try clear c7b2); (try clear c11); (try clear hcz10_0); (try clear hcz10_1); (try clear hcz12_0); (try clear hcz12_1); (try clear hcz4_0); (try clear hcz4_1); (try clear hcz9_0); (try clear hcz9_1); (try clear hfz10_0); (try clear hfz10_1); (try clear hfz12_0); (try clear hfz12_1); (try clear hfz4_0); (try clear hfz4_1); (try clear hfz9_0); (try clear hfz9_1); (try clear p2); obtain ⟨x32_2, rfl, HA, HK2, BK103, HB⟩ := hrel
     cases gk with
     | zero => exact absurd HA.out (by simp [impl_ValidTuning.l0])
     | succ k2 =>
      have H := HA.out; clear HA
      simp only [impl_ValidTuning.l0] at H
      by_cases c13 : x32_2 < (l0_1.length : Int)
      ·rw [if_pos c13] at H
       have c13b0 : decide (x32_2 < (l0_1.length : Int)) = true := decide_eq_true c13; clear c13
       by_cases c14 : 0 ≤ x32_2
       ·rw [if_pos c14] at H
        have c14b0 : decide (0 ≤ x32_2) = true := decide_eq_true c14; clear c14
        by_cases c15 : x32_2 < (l0_1.length : Int)
        ·rw [if_pos c15] at H
         have c15b0 : decide (x32_2 < (l0_1.length : Int)) = true := decide_eq_true c15; clear c15; replace H := Option.bind_eq_some_iff.mp H; obtain ⟨t106, A160, H⟩ := H; replace H : (if t106 = true then (impl_ValidTuning.l0 k2 (l0_0.length : Int) l0_1 (l0_1.length : Int) (wrap64 (x32_2 + 1))) else (some false)) = some r := H; have A16 := zQ A160; clear A160
         by_cases c17 : t106 = true
         ·subst c17
          have H1 : (impl_ValidTuning.l0 k2 (l0_0.length : Int) l0_1 (l0_1.length : Int) (wrap64 (x32_2 + 1))) = some r := by rw [if_pos rfl] at H; exact H
          clear H; have H := H1; clear H1; have H' := zQ H; clear H; have p105 : 0 ≤ (x32_2 : Int) := of_decide_eq_true zA; have q105 : x32_2 < (l0_1.length : Int) := of_decide_eq_true zA; obtain ⟨ad105, A105_0, c105_0, e105, hx105_0, hl105_0, hi105_0⟩ := at_L1 HR0_1.out x32_2 p105 q105
          cases e105
          replace hx105_0 := zw HB.out hx105_0; have HR105_0 := zQ hi105_0; have HC105_0 := zQ hl105_0; clear hi105_0 hl105_0; replace p105 := eq_true p105; replace q105 := eq_true q105
          go_wp2_with (first | ((with_reducible refine zgc 54 ?_); refine zgo (some 38) Try.func54 #[.slice A105_0 (rd_L1 l0_1 x32_2).length c105_0, .int .i64 (l0_0.length : Int), .int .i64 (-1000), .int .i64 1000] ?_; (with_reducible refine (impl_areIn.calls k2 _ _ (rd_L1 l0_1 x32_2) (l0_0.length : Int) (-1000) 1000 true _ (zC HR105_0.out HB.out) HC105_0.out A16.out).mono ?_); rintro e w' ⟨rfl, ⟨nd, rfl⟩⟩; refine ⟨_, rfl, ?_⟩))
          go_roundg k2
          case measure => have := HJ1.out; have := HK2.out; omega
          case rel => exact ⟨(wrap64 (x32_2 + 1)), (zF), H', ⟨by have := HJ1.out; have := HK2.out; omega⟩, ⟨zb BK103.out⟩, ⟨zB2 HB.out GE103.out⟩⟩
         ·replace c17 := Bool.eq_false_iff.mpr c17
          subst c17
          have H1 : (some false) = some r := by rw [if_neg (show ¬ (false = true) by decide)] at H; exact H
          clear H; have H := H1; clear H1; obtain rfl := Option.some.inj H; have p105 : 0 ≤ (x32_2 : Int) := of_decide_eq_true zA; have q105 : x32_2 < (l0_1.length : Int) := of_decide_eq_true zA; obtain ⟨ad105, A105_0, c105_0, e105, hx105_0, hl105_0, hi105_0⟩ := at_L1 HR0_1.out x32_2 p105 q105
          cases e105
          replace hx105_0 := zw HB.out hx105_0; have HR105_0 := zQ hi105_0; have HC105_0 := zQ hl105_0; clear hi105_0 hl105_0; replace p105 := eq_true p105; replace q105 := eq_true q105
          go_wp2_with (first | ((with_reducible refine zgc 54 ?_); refine zgo (some 38) Try.func54 #[.slice A105_0 (rd_L1 l0_1 x32_2).length c105_0, .int .i64 (l0_0.length : Int), .int .i64 (-1000), .int .i64 1000] ?_; (with_reducible refine (impl_areIn.calls k2 _ _ (rd_L1 l0_1 x32_2) (l0_0.length : Int) (-1000) 1000 false _ (zC HR105_0.out HB.out) HC105_0.out A16.out).mono ?_); rintro e w' ⟨rfl, ⟨nd, rfl⟩⟩; refine ⟨_, rfl, ?_⟩))
          go_ret
          exact ⟨zE, zB2 HB.out GE103.out⟩
        ·rw [if_neg c15] at H
         exact absurd H (by simp)
       ·rw [if_neg c14] at H
        exact absurd H (by simp)
      ·rw [if_neg c13] at H
       have c13b0 : decide (x32_2 < (l0_1.length : Int)) = false := decide_eq_false c13; clear c13; obtain rfl := Option.some.inj H
       go_wp2
       go_ret
       exact ⟨zE, zB2 HB.out GE103.out⟩

/-! ### impl_turnsCode: function 49 -/
def impl_turnsCode.f (k : Nat) (l0_0 : List Int) (l0_1 : List (List Int)) (l1 : List Int) : Option (Int) := (impl_ValidTuning.f k l0_0 l0_1).bind fun t108 => (if t108 = true then ((impl_areIn.f k l1 (l0_0.length : Int) (-6) 6).bind fun t109 => (if t109 = true then (some 0) else (some 2))) else (some 1))
theorem impl_turnsCode.mono : ∀ a0 a1 a2 k, LeO (impl_turnsCode.f k a0 a1 a2) (impl_turnsCode.f (k + 1) a0 a1 a2) := by
 intro a0 a1 a2 k
 unfold impl_turnsCode.f
 (with_reducible repeat' first | apply impl_ValidTuning.mono | apply impl_areIn.mono | apply LeO.refl | apply LeO.none | refine LeO.ite ?_ ?_ | refine LeO.bind ?_ (fun _ => ?_))
 repeat' first | apply impl_ValidTuning.mono | apply impl_areIn.mono | apply LeO.none | refine LeO.ite ?_ ?_ | refine LeO.bind ?_ (fun _ => ?_)
set_option maxHeartbeats 8000000 in
set_option maxRecDepth 100000 in
theorem impl_turnsCode.calls (k : Nat) (A0_0 : Option Addr) (c0_0 : Nat) (l0_0 : List Int) (A0_1 : Option Addr) (c0_1 : Nat) (l0_1 : List (List Int)) (A1 : Option Addr) (c1 : Nat) (l1 : List Int) (r : Int) (w : World) (hr0_0 : Kd.C (Kd.int .i64) w A0_0 l0_0.length l0_0) (hc0_0 : l0_0.length ≤ c0_0) (hr0_1 : Kd.C (Kd.slice 2 (Kd.int .i64)) w A0_1 l0_1.length l0_1) (hc0_1 : l0_1.length ≤ c0_1) (hr1 : Kd.C (Kd.int .i64) w A1 l1.length l1) (hc1 : l1.length ≤ c1) (h : impl_turnsCode.f k l0_0 l0_1 l1 = some r) :
  Calls Try.prog 49 #[.agg #[.slice A0_0 l0_0.length c0_0, .slice A0_1 l0_1.length c0_1], .slice A1 l1.length c1] w fun e w' => e = .returned (.int .i64 r) ∧ Below w.heap.size w w' := by
 have hu27 := Try.underlying27
 have HR0_0 := zQ hr0_0
 have HC0_0 := zQ hc0_0
 clear hr0_0 hc0_0
 have HR0_1 := zQ hr0_1
 have HC0_1 := zQ hc0_1
 clear hr0_1 hc0_1
 have HR1 := zQ hr1
 have HC1 := zQ hc1
 clear hr1 hc1
 have HB := zQ (Below.refl w.heap.size w)
 have H : ((impl_ValidTuning.f k l0_0 l0_1).bind fun t108 => (if t108 = true then ((impl_areIn.f k l1 (l0_0.length : Int) (-6) 6).bind fun t109 => (if t109 = true then (some 0) else (some 2))) else (some 1))) = some r := h
 clear h
 replace H := Option.bind_eq_some_iff.mp H
 obtain ⟨t108, A30, H⟩ := H
 replace H : (if t108 = true then ((impl_areIn.f k l1 (l0_0.length : Int) (-6) 6).bind fun t109 => (if t109 = true then (some 0) else (some 2))) else (some 1)) = some r := H
 have A3 := zQ A30
 clear A30
 by_cases c4 : t108 = true
 ·subst c4
  have H1 : ((impl_areIn.f k l1 (l0_0.length : Int) (-6) 6).bind fun t109 => (if t109 = true then (some 0) else (some 2))) = some r := by rw [if_pos rfl] at H; exact H
  clear H; have H := H1; clear H1; replace H := Option.bind_eq_some_iff.mp H; obtain ⟨t109, A50, H⟩ := H; replace H : (if t109 = true then (some 0) else (some 2)) = some r := H; have A5 := zQ A50; clear A50
  by_cases c6 : t109 = true
  ·subst c6
   have H1 : (some 0) = some r := by rw [if_pos rfl] at H; exact H
   clear H; have H := H1; clear H1; obtain rfl := Option.some.inj H
   go_enter Try.func49, Try.ntmps49
   go_wp2_with (first | ((with_reducible refine zd 2 ?_); refine zbx (N := 2) (cs := #[.slice A0_0 l0_0.length c0_0, .slice A0_1 l0_1.length c0_1]) (t := 27) ?_; intro gb107 hg w7 hbox hb; have BK107 := zQ (hbox); have GW107 := zgz hg HB.out; have GE107 := GW107; replace HB := zbs HB.out hb; clear hb hbox hg; have hcz8_0 := zc0 BK107.out; have hcz8_1 := zc1 BK107.out; have hfz8_0 := zfz BK107.out 0; have hfz8_1 := zfz BK107.out 1) | ((with_reducible refine zgc 27 ?_); refine goesL_ (some 6) rfl rfl Try.func27 (by kernel_rfl) rfl #[.agg #[.slice A0_0 l0_0.length c0_0, .slice A0_1 l0_1.length c0_1]] rfl zM ?_; (with_reducible refine (impl_ValidTuning.calls k _ _ l0_0 _ _ l0_1 true _ (zC HR0_0.out HB.out) HC0_0.out (zC HR0_1.out HB.out) HC0_1.out A3.out).mono ?_); rintro e w9 ⟨rfl, hb⟩; refine ⟨_, rfl, ?_⟩; replace BK107 := zbl BK107.out hb; replace HB := zbs2 HB.out GE107.out hb; (try clear hb); have hcz10_0 := zc0 BK107.out; have hcz10_1 := zc1 BK107.out; have hfz10_0 := zfz BK107.out 0; have hfz10_1 := zfz BK107.out 1) | ((with_reducible refine zgc 54 ?_); refine zgo (some 12) Try.func54 #[.slice A1 l1.length c1, .int .i64 (l0_0.length : Int), .int .i64 (-6), .int .i64 6] ?_; (with_reducible refine (impl_areIn.calls k _ _ l1 (l0_0.length : Int) (-6) 6 true _ (zC HR1.out HB.out) HC1.out A5.out).mono ?_); rintro e w' ⟨rfl, ⟨nd, rfl⟩⟩; refine ⟨_, rfl, ?_⟩))
   go_ret
   exact ⟨zE, zB2 HB.out GE107.out⟩
  ·replace c6 := Bool.eq_false_iff.mpr c6
   subst c6
   have H1 : (some 2) = some r := by rw [if_neg (show ¬ (false = true) by decide)] at H; exact H
   clear H; have H := H1; clear H1; obtain rfl := Option.some.inj H
   go_enter Try.func49, Try.ntmps49
   go_wp2_with (first | ((with_reducible refine zd 2 ?_); refine zbx (N := 2) (cs := #[.slice A0_0 l0_0.length c0_0, .slice A0_1 l0_1.length c0_1]) (t := 27) ?_; intro gb107 hg w11 hbox hb; have BK107 := zQ (hbox); have GW107 := zgz hg HB.out; have GE107 := GW107; replace HB := zbs HB.out hb; clear hb hbox hg; have hcz12_0 := zc0 BK107.out; have hcz12_1 := zc1 BK107.out; have hfz12_0 := zfz BK107.out 0; have hfz12_1 := zfz BK107.out 1) | ((with_reducible refine zgc 27 ?_); refine goesL_ (some 6) rfl rfl Try.func27 (by kernel_rfl) rfl #[.agg #[.slice A0_0 l0_0.length c0_0, .slice A0_1 l0_1.length c0_1]] rfl zM ?_; (with_reducible refine (impl_ValidTuning.calls k _ _ l0_0 _ _ l0_1 true _ (zC HR0_0.out HB.out) HC0_0.out (zC HR0_1.out HB.out) HC0_1.out A3.out).mono ?_); rintro e w13 ⟨rfl, hb⟩; refine ⟨_, rfl, ?_⟩; replace BK107 := zbl BK107.out hb; replace HB := zbs2 HB.out GE107.out hb; (try clear hb); have hcz14_0 := zc0 BK107.out; have hcz14_1 := zc1 BK107.out; have hfz14_0 := zfz BK107.out 0; have hfz14_1 := zfz BK107.out 1) | ((with_reducible refine zgc 54 ?_); refine zgo (some 12) Try.func54 #[.slice A1 l1.length c1, .int .i64 (l0_0.length : Int), .int .i64 (-6), .int .i64 6] ?_; (with_reducible refine (impl_areIn.calls k _ _ l1 (l0_0.length : Int) (-6) 6 false _ (zC HR1.out HB.out) HC1.out A5.out).mono ?_); rintro e w' ⟨rfl, ⟨nd, rfl⟩⟩; refine ⟨_, rfl, ?_⟩))
   go_ret
   exact ⟨zE, zB2 HB.out GE107.out⟩
 ·replace c4 := Bool.eq_false_iff.mpr c4
  subst c4
  have H1 : (some 1) = some r := by rw [if_neg (show ¬ (false = true) by decide)] at H; exact H
  clear H; have H := H1; clear H1; obtain rfl := Option.some.inj H
  go_enter Try.func49, Try.ntmps49
  go_wp2_with (first | ((with_reducible refine zd 2 ?_); refine zbx (N := 2) (cs := #[.slice A0_0 l0_0.length c0_0, .slice A0_1 l0_1.length c0_1]) (t := 27) ?_; intro gb107 hg w15 hbox hb; have BK107 := zQ (hbox); have GW107 := zgz hg HB.out; have GE107 := GW107; replace HB := zbs HB.out hb; clear hb hbox hg; have hcz16_0 := zc0 BK107.out; have hcz16_1 := zc1 BK107.out; have hfz16_0 := zfz BK107.out 0; have hfz16_1 := zfz BK107.out 1) | ((with_reducible refine zgc 27 ?_); refine goesL_ (some 6) rfl rfl Try.func27 (by kernel_rfl) rfl #[.agg #[.slice A0_0 l0_0.length c0_0, .slice A0_1 l0_1.length c0_1]] rfl zM ?_; (with_reducible refine (impl_ValidTuning.calls k _ _ l0_0 _ _ l0_1 false _ (zC HR0_0.out HB.out) HC0_0.out (zC HR0_1.out HB.out) HC0_1.out A3.out).mono ?_); rintro e w17 ⟨rfl, hb⟩; refine ⟨_, rfl, ?_⟩; replace BK107 := zbl BK107.out hb; replace HB := zbs2 HB.out GE107.out hb; (try clear hb)))
  go_ret
  exact ⟨zE, zB2 HB.out GE107.out⟩

end Go.Proofs.Ythfpaldhdohnkaa.PFnExactRetuned
