import Derived.Test.YtlddapidlobpnaaPFnExactDepthForAreax1
import Derived.Test.YtlddapidlobpnaaPlain
namespace Go.Proofs.Ytlddapidlobpnaa.Pure
open Go.RowKit Go.Proofs.Ytlddapidlobpnaa.PFnExactDepthForArea Go.Proofs.Ytlddapidlobpnaa.Plain Go.Proofs.YtlddapidlobpnaaW.PrintWords
set_option linter.unusedVariables false
set_option linter.unusedSimpArgs false
theorem specIn (n a b : Int) : spec_l00In.f n a b = some (decide (a ≤ n ∧ n ≤ b)) := by
  unfold spec_l00In.f
  by_cases h1 : n ≥ a <;> by_cases h2 : n ≤ b <;> simp [h1, h2] <;> omega
theorem implIn (n a b : Int) : impl_within.f n a b = some (decide (a ≤ n ∧ n ≤ b)) := by
  unfold impl_within.f
  by_cases h1 : n ≥ a <;> by_cases h2 : n ≤ b <;> simp [h1, h2] <;> omega
theorem spec_depth (a b : Int) : Ev (fun k => spec_DepthForArea.f k a b) (if (1 ≤ a ∧ a ≤ 2000) ∧ (0 ≤ b ∧ b ≤ 1000000) then (if Int.tdiv (3 * b + 2 * a - 1) (2 * a) > 500 then (0, 3) else (Int.tdiv (3 * b + 2 * a - 1) (2 * a), 0)) else (0, 2)) := by
  unfold spec_DepthForArea.f
  simp only [specIn, Option.bind_some]
  by_cases h1 : 1 ≤ a ∧ a ≤ 2000
  · by_cases h2 : 0 ≤ b ∧ b ≤ 1000000
    · rw [if_pos ⟨h1, h2⟩]
      simp only [h1, h2, and_self, decide_true, if_true, Bool.not_true]
      refine ev_end (fun k => ?_)
      simp only [spec_DepthForArea.j0]
      have hd : 0 ≤ Int.tdiv (3 * b + 2 * a - 1) (2 * a) ∧ Int.tdiv (3 * b + 2 * a - 1) (2 * a) ≤ 3 * b + 2 * a - 1 := by
        rw [Int.tdiv_eq_ediv_of_nonneg (by omega)]
        exact ⟨Int.ediv_nonneg (by omega) (by omega), Int.ediv_le_self _ (by omega)⟩
      rw [wrap_in (x := 2 * a) (by omega) (by omega), wrap_in (x := 3 * b) (by omega) (by omega), wrap_in (x := 3 * b + 2 * a) (by omega) (by omega), wrap_in (x := 3 * b + 2 * a - 1) (by omega) (by omega), wrap_in (x := Int.tdiv _ _) (by omega) (by omega)]
      simp only [Bool.false_eq_true, if_false]
      rw [if_neg (by omega)]
      split <;> rfl
    · rw [if_neg (fun h => h2 h.2)]
      simp only [h1, h2, and_self, decide_true, decide_false, if_true, Bool.not_false]
      exact ev_end (fun k => by simp only [spec_DepthForArea.j0, if_true])
  · rw [if_neg (fun h => h1 h.1)]
    simp only [h1, decide_false, if_false, Bool.false_eq_true]
    exact ev_end (fun k => by simp only [spec_DepthForArea.j0, if_true])
theorem impl_depth (a b : Int) : Ev (fun k => impl_DepthForArea.f k a b) (if (1 ≤ a ∧ a ≤ 2000) ∧ (0 ≤ b ∧ b ≤ 1000000) then (if Int.tdiv (3 * b + 2 * a - 1) (2 * a) > 500 then (0, 3) else (Int.tdiv (3 * b + 2 * a - 1) (2 * a), 0)) else (0, 2)) := by
  unfold impl_DepthForArea.f
  simp only [implIn, Option.bind_some]
  by_cases h1 : 1 ≤ a ∧ a ≤ 2000
  · by_cases h2 : 0 ≤ b ∧ b ≤ 1000000
    · rw [if_pos ⟨h1, h2⟩]
      simp only [h1, h2, and_self, decide_true, if_true, Bool.not_true]
      refine ev_end (fun k => ?_)
      simp only [impl_DepthForArea.j0, impl_ceilDiv.f]
      have hd : 0 ≤ Int.tdiv (3 * b + 2 * a - 1) (2 * a) ∧ Int.tdiv (3 * b + 2 * a - 1) (2 * a) ≤ 3 * b + 2 * a - 1 := by
        rw [Int.tdiv_eq_ediv_of_nonneg (by omega)]
        exact ⟨Int.ediv_nonneg (by omega) (by omega), Int.ediv_le_self _ (by omega)⟩
      rw [wrap_in (x := 2 * a) (by omega) (by omega), wrap_in (x := 3 * b) (by omega) (by omega), wrap_in (x := 3 * b + 2 * a) (by omega) (by omega), wrap_in (x := 3 * b + 2 * a - 1) (by omega) (by omega), wrap_in (x := Int.tdiv _ _) (by omega) (by omega)]
      simp only [Bool.false_eq_true, if_false]
      rw [if_neg (by omega)]
      simp only [Option.bind_some]
      split <;> rfl
    · rw [if_neg (fun h => h2 h.2)]
      simp only [h1, h2, and_self, decide_true, decide_false, if_true, Bool.not_false]
      exact ev_end (fun k => by simp only [impl_DepthForArea.j0, if_true])
  · rw [if_neg (fun h => h1 h.1)]
    simp only [h1, decide_false, if_false, Bool.false_eq_true]
    exact ev_end (fun k => by simp only [impl_DepthForArea.j0, if_true])
theorem FnExactDepthForArea : laws_FnExactDepthForArea.Pure := by
  intro a b _ _
  apply Ev.rounds
  unfold laws_FnExactDepthForArea.f
  refine ev_bind (spec_depth a b) (ev_bind (impl_depth a b) ?_)
  simp only [if_true]
  exact ev_now fun _ => rfl
end Go.Proofs.Ytlddapidlobpnaa.Pure
