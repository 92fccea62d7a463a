import Derived.Test.YtlddapidlobpnaaSayFnExactRoachArea
import Derived.Test.YtlddapidlobpnaaPlain
namespace Go.Proofs.Ytlddapidlobpnaa.Pure
open Go.RowKit Go.Proofs.Ytlddapidlobpnaa.PFnExactRoachArea Go.Proofs.Ytlddapidlobpnaa.Plain Go.Proofs.YtlddapidlobpnaaW.PrintWords
set_option linter.unusedVariables false
set_option linter.unusedSimpArgs false
theorem make {n d : Int} (h0 : -9223372036854775807 ≤ n) (h1 : n ≤ 9223372036854775807) (h2 : 0 < d) (h3 : d ≤ 9223372036854775807) : Ev (fun k => spec_l01Make.f k n d) (lowest n d) :=
  make_ev spec_l00Gcd.l0 (fun _ _ _ => rfl) spec_l01Make.f (fun _ _ _ => rfl) h0 h1 h2 h3
theorem frac {n d : Int} (h0 : -9223372036854775807 ≤ n) (h1 : n ≤ 9223372036854775807) (h2 : 0 < d) (h3 : d ≤ 9223372036854775807) : Ev (fun k => impl_fraction.f k n d) (lowest n d) := by
  have := fraction_ev impl_gcd.l0 impl_gcd.j0 impl_gcd.f impl_fraction.f (fun _ _ _ => by simp only [impl_gcd.l0]) (fun _ _ _ => by simp only [impl_gcd.j0]) (fun _ _ _ => rfl) (fun _ _ _ => rfl) (n := n) (d := d) h0 h1 (by omega) (by omega) h3
  rwa [if_neg (by omega)] at this
theorem specOk (a b : Int) : spec_l14Ok.f a b = some (decide (1 ≤ a ∧ a ≤ 2000 ∧ 0 ≤ b ∧ b ≤ 500)) := by
  unfold spec_l14Ok.f spec_l00In.f
  by_cases h1 : a ≥ 1 <;> by_cases h2 : a ≤ 2000 <;> by_cases h3 : b ≥ 0 <;> by_cases h4 : b ≤ 500 <;> simp [h1, h2, h3, h4] <;> omega
theorem implOk (a b : Int) : impl_ValidRoach.f a b = some (decide (1 ≤ a ∧ a ≤ 2000 ∧ 0 ≤ b ∧ b ≤ 500)) := by
  unfold impl_ValidRoach.f impl_within.f
  by_cases h1 : a ≥ 1 <;> by_cases h2 : a ≤ 2000 <;> by_cases h3 : b ≥ 0 <;> by_cases h4 : b ≤ 500 <;> simp [h1, h2, h3, h4] <;> omega
theorem specIn (n a b : Int) : spec_l00In.f n a b = some (decide (a ≤ n ∧ n ≤ b)) := by
  unfold spec_l00In.f
  by_cases h1 : n ≥ a <;> by_cases h2 : n ≤ b <;> simp [h1, h2] <;> omega
theorem implIn (n a b : Int) : impl_within.f n a b = some (decide (a ≤ n ∧ n ≤ b)) := by
  unfold impl_within.f
  by_cases h1 : n ≥ a <;> by_cases h2 : n ≤ b <;> simp [h1, h2] <;> omega
theorem eqF (a b c d : Int) : laws_eqFraction.f a b c d = some (decide (a = c ∧ b = d)) := by
  unfold laws_eqFraction.f
  by_cases h1 : a = c <;> by_cases h2 : b = d <;> simp [h1, h2]
theorem spec_area (a b : Int) : Ev (fun k => spec_RoachArea.f k a b) (if 1 ≤ a ∧ a ≤ 2000 ∧ 0 ≤ b ∧ b ≤ 500 then ((lowest (2 * a * b) 3).1, (lowest (2 * a * b) 3).2, 0) else (0, 0, 1)) := by
  unfold spec_RoachArea.f
  rw [specOk]
  by_cases h : 1 ≤ a ∧ a ≤ 2000 ∧ 0 ≤ b ∧ b ≤ 500
  · obtain ⟨h1, h2, h3, h4⟩ := h
    have hp : 0 ≤ a * b ∧ a * b ≤ 2000 * 500 := ⟨Int.mul_nonneg (by omega) h3, Int.mul_le_mul h2 h4 h3 (by omega)⟩
    have e : 2 * a * b = 2 * (a * b) := Int.mul_assoc ..
    simp only [h1, h2, h3, h4, and_self, decide_true, Option.bind_some, if_true]
    rw [wrap_in (x := 2 * a) (by omega) (by omega), wrap_in (x := 2 * a * b) (by omega) (by omega)]
    exact ev_bind (make (by omega) (by omega) (by omega) (by omega)) (ev_now fun _ => rfl)
  · simp [h]
    exact ev_now fun _ => rfl
theorem impl_area (a b : Int) : Ev (fun k => impl_RoachArea.f k a b) (if 1 ≤ a ∧ a ≤ 2000 ∧ 0 ≤ b ∧ b ≤ 500 then ((lowest (2 * a * b) 3).1, (lowest (2 * a * b) 3).2, 0) else (0, 0, 1)) := by
  unfold impl_RoachArea.f
  rw [implOk]
  by_cases h : 1 ≤ a ∧ a ≤ 2000 ∧ 0 ≤ b ∧ b ≤ 500
  · obtain ⟨h1, h2, h3, h4⟩ := h
    have hp : 0 ≤ a * b ∧ a * b ≤ 2000 * 500 := ⟨Int.mul_nonneg (by omega) h3, Int.mul_le_mul h2 h4 h3 (by omega)⟩
    have e : 2 * a * b = 2 * (a * b) := Int.mul_assoc ..
    simp only [h1, h2, h3, h4, and_self, decide_true, Option.bind_some, if_true]
    rw [wrap_in (x := 2 * a) (by omega) (by omega), wrap_in (x := 2 * a * b) (by omega) (by omega)]
    exact ev_bind (frac (by omega) (by omega) (by omega) (by omega)) (ev_now fun _ => rfl)
  · simp [h]
    exact ev_now fun _ => rfl
theorem FnExactRoachArea : Say.FnExactRoachArea := by
  intro a b _ _
  apply Ev.rounds
  unfold laws_FnExactRoachArea.f laws_toRoach.f
  refine ev_some (ev_bind (spec_area a b) (ev_some (ev_bind (impl_area a b) ?_)))
  simp only [eqF, and_self, decide_true, Option.bind_some, if_true]
  exact ev_now fun _ => rfl
end Go.Proofs.Ytlddapidlobpnaa.Pure
