import Derived.Test.YtlddapidlobpnaaSayFnExactRoachHeight
import Derived.Test.YtlddapidlobpnaaPlain
namespace Go.Proofs.Ytlddapidlobpnaa.Pure
open Go.RowKit Go.Proofs.Ytlddapidlobpnaa.PFnExactRoachHeight Go.Proofs.Ytlddapidlobpnaa.Plain Go.Proofs.YtlddapidlobpnaaW.PrintWords
set_option linter.unusedVariables false
set_option linter.unusedSimpArgs false
theorem make {n d : Int} (h0 : -9223372036854775807 ≤ n) (h1 : n ≤ 9223372036854775807) (h2 : 0 < d) (h3 : d ≤ 9223372036854775807) : Ev (fun k => spec_l01Make.f k n d) (lowest n d) :=
  make_ev spec_l00Gcd.l0 (fun _ _ _ => rfl) spec_l01Make.f (fun _ _ _ => rfl) h0 h1 h2 h3
theorem frac {n d : Int} (h0 : -9223372036854775807 ≤ n) (h1 : n ≤ 9223372036854775807) (h2 : 0 < d) (h3 : d ≤ 9223372036854775807) : Ev (fun k => impl_fraction.f k n d) (lowest n d) := by
  have := fraction_ev impl_gcd.l0 impl_gcd.j0 impl_gcd.f impl_fraction.f (fun _ _ _ => by simp only [impl_gcd.l0]) (fun _ _ _ => by simp only [impl_gcd.j0]) (fun _ _ _ => rfl) (fun _ _ _ => rfl) (n := n) (d := d) h0 h1 (by omega) (by omega) h3
  rwa [if_neg (by omega)] at this
theorem specOk (a b : Int) : spec_l14Ok.f a b = some (decide (1 ≤ a ∧ a ≤ 2000 ∧ 0 ≤ b ∧ b ≤ 500)) := by
  unfold spec_l14Ok.f spec_l00In.f
  by_cases h1 : a ≥ 1 <;> by_cases h2 : a ≤ 2000 <;> by_cases h3 : b ≥ 0 <;> by_cases h4 : b ≤ 500 <;> simp [h1, h2, h3, h4] <;> omega
theorem implOk (a b : Int) : impl_ValidRoach.f a b = some (decide (1 ≤ a ∧ a ≤ 2000 ∧ 0 ≤ b ∧ b ≤ 500)) := by
  unfold impl_ValidRoach.f impl_within.f
  by_cases h1 : a ≥ 1 <;> by_cases h2 : a ≤ 2000 <;> by_cases h3 : b ≥ 0 <;> by_cases h4 : b ≤ 500 <;> simp [h1, h2, h3, h4] <;> omega
theorem specIn (n a b : Int) : spec_l00In.f n a b = some (decide (a ≤ n ∧ n ≤ b)) := by
  unfold spec_l00In.f
  by_cases h1 : n ≥ a <;> by_cases h2 : n ≤ b <;> simp [h1, h2] <;> omega
theorem implIn (n a b : Int) : impl_within.f n a b = some (decide (a ≤ n ∧ n ≤ b)) := by
  unfold impl_within.f
  by_cases h1 : n ≥ a <;> by_cases h2 : n ≤ b <;> simp [h1, h2] <;> omega
theorem eqF (a b c d : Int) : laws_eqFraction.f a b c d = some (decide (a = c ∧ b = d)) := by
  unfold laws_eqFraction.f
  by_cases h1 : a = c <;> by_cases h2 : b = d <;> simp [h1, h2]
theorem bound (a b c : Int) (h : 1 ≤ a ∧ a ≤ 2000 ∧ 0 ≤ b ∧ b ≤ 500) (h2 : 0 ≤ c ∧ c ≤ a) : (0 ≤ 4 * b * c ∧ 4 * b * c ≤ 2000 * 2000) ∧ (0 ≤ 4 * b * c * (a - c) ∧ 4 * b * c * (a - c) ≤ 2000 * 2000 * 2000) ∧ (1 ≤ a * a ∧ a * a ≤ 2000 * 2000) := by
  obtain ⟨h1, h2', h3, h4⟩ := h
  have p1 : 0 ≤ 4 * b * c ∧ 4 * b * c ≤ 2000 * 2000 := ⟨Int.mul_nonneg (by omega) h2.1, Int.mul_le_mul (by omega) (by omega) h2.1 (by omega)⟩
  have p2 : 0 ≤ 4 * b * c * (a - c) ∧ 4 * b * c * (a - c) ≤ 2000 * 2000 * 2000 := ⟨Int.mul_nonneg p1.1 (by omega), Int.mul_le_mul p1.2 (by omega) (by omega) (by omega)⟩
  have p3 : a * a ≤ 2000 * 2000 := Int.mul_le_mul h2' h2' (by omega) (by omega)
  have p4 : 1 * 1 ≤ a * a := Int.mul_le_mul h1 h1 (by omega) (by omega)
  exact ⟨p1, p2, by omega, p3⟩
def val (a b c : Int) : Int × Int × Int := if 1 ≤ a ∧ a ≤ 2000 ∧ 0 ≤ b ∧ b ≤ 500 then (if 0 ≤ c ∧ c ≤ a then ((lowest (4 * b * c * (a - c)) (a * a)).1, (lowest (4 * b * c * (a - c)) (a * a)).2, 0) else (0, 0, 2)) else (0, 0, 1)
theorem spec_height (a b c : Int) : Ev (fun k => spec_RoachHeight.f k a b c) (val a b c) := by
  unfold spec_RoachHeight.f val
  simp only [specOk, specIn, Option.bind_some]
  by_cases h : 1 ≤ a ∧ a ≤ 2000 ∧ 0 ≤ b ∧ b ≤ 500
  · by_cases h2 : 0 ≤ c ∧ c ≤ a
    · obtain ⟨p1, p2, p3⟩ := bound a b c h h2
      simp only [h, h2, and_self, decide_true, if_true]
      rw [wrap_in (x := 4 * b) (by omega) (by omega), wrap_in (x := 4 * b * c) (by omega) (by omega), wrap_in (x := a - c) (by omega) (by omega), wrap_in (x := 4 * b * c * (a - c)) (by omega) (by omega), wrap_in (x := a * a) (by omega) (by omega)]
      exact ev_bind (make (by omega) (by omega) (by omega) (by omega)) (ev_now fun _ => rfl)
    · simp only [h, h2, and_self, decide_true, if_true, decide_false, if_false, Bool.false_eq_true]
      exact ev_now fun _ => rfl
  · simp only [h, decide_false, if_false, Bool.false_eq_true]
    exact ev_now fun _ => rfl
theorem impl_height (a b c : Int) : Ev (fun k => impl_RoachHeight.f k a b c) (val a b c) := by
  unfold impl_RoachHeight.f val
  simp only [implOk, implIn, Option.bind_some]
  by_cases h : 1 ≤ a ∧ a ≤ 2000 ∧ 0 ≤ b ∧ b ≤ 500
  · by_cases h2 : 0 ≤ c ∧ c ≤ a
    · obtain ⟨p1, p2, p3⟩ := bound a b c h h2
      simp only [h, h2, and_self, decide_true, if_true]
      rw [wrap_in (x := 4 * b) (by omega) (by omega), wrap_in (x := 4 * b * c) (by omega) (by omega), wrap_in (x := a - c) (by omega) (by omega), wrap_in (x := 4 * b * c * (a - c)) (by omega) (by omega), wrap_in (x := a * a) (by omega) (by omega)]
      exact ev_bind (frac (by omega) (by omega) (by omega) (by omega)) (ev_now fun _ => rfl)
    · simp only [h, h2, and_self, decide_true, if_true, decide_false, if_false, Bool.false_eq_true]
      exact ev_now fun _ => rfl
  · simp only [h, decide_false, if_false, Bool.false_eq_true]
    exact ev_now fun _ => rfl
theorem FnExactRoachHeight : Say.FnExactRoachHeight := by
  intro a b c _ _ _
  apply Ev.rounds
  unfold laws_FnExactRoachHeight.f laws_toRoach.f
  refine ev_some (ev_bind (spec_height a b c) (ev_some (ev_bind (impl_height a b c) ?_)))
  simp only [eqF, and_self, decide_true, Option.bind_some, if_true]
  exact ev_now fun _ => rfl
end Go.Proofs.Ytlddapidlobpnaa.Pure
