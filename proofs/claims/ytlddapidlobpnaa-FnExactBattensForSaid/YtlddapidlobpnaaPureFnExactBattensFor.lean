import Derived.Test.YtlddapidlobpnaaSayFnExactBattensFor
import Derived.Test.YtlddapidlobpnaaPlain
namespace Go.Proofs.Ytlddapidlobpnaa.Pure
open Go.RowKit Go.Proofs.Ytlddapidlobpnaa.PFnExactBattensFor Go.Proofs.Ytlddapidlobpnaa.Plain Go.Proofs.YtlddapidlobpnaaW.PrintWords
set_option linter.unusedVariables false
set_option linter.unusedSimpArgs false
theorem specOk (a b : Int) : spec_l14Ok.f a b = some (decide (1 ≤ a ∧ a ≤ 2000 ∧ 0 ≤ b ∧ b ≤ 500)) := by
  unfold spec_l14Ok.f spec_l00In.f
  by_cases h1 : a ≥ 1 <;> by_cases h2 : a ≤ 2000 <;> by_cases h3 : b ≥ 0 <;> by_cases h4 : b ≤ 500 <;> simp [h1, h2, h3, h4] <;> omega
theorem implOk (a b : Int) : impl_ValidRoach.f a b = some (decide (1 ≤ a ∧ a ≤ 2000 ∧ 0 ≤ b ∧ b ≤ 500)) := by
  unfold impl_ValidRoach.f impl_within.f
  by_cases h1 : a ≥ 1 <;> by_cases h2 : a ≤ 2000 <;> by_cases h3 : b ≥ 0 <;> by_cases h4 : b ≤ 500 <;> simp [h1, h2, h3, h4] <;> omega
theorem specIn (n a b : Int) : spec_l00In.f n a b = some (decide (a ≤ n ∧ n ≤ b)) := by
  unfold spec_l00In.f
  by_cases h1 : n ≥ a <;> by_cases h2 : n ≤ b <;> simp [h1, h2] <;> omega
theorem implIn (n a b : Int) : impl_within.f n a b = some (decide (a ≤ n ∧ n ≤ b)) := by
  unfold impl_within.f
  by_cases h1 : n ≥ a <;> by_cases h2 : n ≤ b <;> simp [h1, h2] <;> omega
/-- Both loops come to the same number: the least from n on. -/
theorem battens (most depth : Int) (hm : 1 ≤ most ∧ most ≤ 500) (hd : 0 ≤ depth ∧ depth ≤ 500) (c : Int) : ∀ (m : Nat) (n : Int), 0 ≤ n → n ≤ 500 → (500 - n).toNat = m →
    ∃ r : Int, (Ev (fun k => spec_BattensFor.l0 k most n c depth) (r, 0)) ∧ Ev (fun k => impl_BattensFor.l0 k most n c depth) (r, 0) := by
  intro m
  induction m with
  | zero =>
    intro n h0 h1 h2
    obtain rfl : n = 500 := by omega
    have hg : depth ≤ most * 501 * 501 := by omega
    refine ⟨500, ev_end (fun k => ?_), ev_end (fun k => ?_)⟩
    · simp only [spec_BattensFor.l0]
      rw [wrap_in (x := 500 + 1) (by omega) (by omega), wrap_in (x := most * (500 + 1)) (by omega) (by omega), wrap_in (x := most * (500 + 1) * (500 + 1)) (by omega) (by omega), if_neg (by omega)]
    · simp only [impl_BattensFor.l0]
      rw [wrap_in (x := 500 + 1) (by omega) (by omega), wrap_in (x := most * (500 + 1)) (by omega) (by omega), wrap_in (x := most * (500 + 1) * (500 + 1)) (by omega) (by omega), if_neg (by omega)]
  | succ m ih =>
    intro n h0 h1 h2
    have a1 : 0 ≤ most * (n + 1) ∧ most * (n + 1) ≤ 500 * 501 := ⟨Int.mul_nonneg (by omega) (by omega), Int.mul_le_mul (by omega) (by omega) (by omega) (by omega)⟩
    have a2 : 0 ≤ most * (n + 1) * (n + 1) ∧ most * (n + 1) * (n + 1) ≤ 500 * 501 * 501 := ⟨Int.mul_nonneg a1.1 (by omega), Int.mul_le_mul a1.2 (by omega) (by omega) (by omega)⟩
    have w1 := wrap_in (x := n + 1) (by omega) (by omega)
    have w2 := wrap_in (x := most * (n + 1)) (by omega) (by omega)
    have w3 := wrap_in (x := most * (n + 1) * (n + 1)) (by omega) (by omega)
    by_cases h : most * (n + 1) * (n + 1) < depth
    · obtain ⟨r, hr1, hr2⟩ := ih (n + 1) (by omega) (by omega) (by omega)
      refine ⟨r, ev_step (fun k => ?_) hr1, ev_step (fun k => ?_) hr2⟩
      · simp only [spec_BattensFor.l0]; rw [w1, w2, w3, if_pos h]
      · simp only [impl_BattensFor.l0]; rw [w1, w2, w3, if_pos h]
    · refine ⟨n, ev_end (fun k => ?_), ev_end (fun k => ?_)⟩
      · simp only [spec_BattensFor.l0]; rw [w1, w2, w3, if_neg h]
      · simp only [impl_BattensFor.l0]; rw [w1, w2, w3, if_neg (by omega)]
theorem both (a b c : Int) : ∃ r : Int × Int, Ev (fun k => spec_BattensFor.f k a b c) r ∧ Ev (fun k => impl_BattensFor.f k a b c) r := by
  unfold spec_BattensFor.f impl_BattensFor.f
  simp only [specOk, implOk, specIn, implIn, Option.bind_some]
  by_cases h : 1 ≤ a ∧ a ≤ 2000 ∧ 0 ≤ b ∧ b ≤ 500
  · by_cases h2 : 1 ≤ c ∧ c ≤ 500
    · simp only [h, h2, and_self, decide_true, if_true]
      obtain ⟨r, h3, h4⟩ := battens c b h2 ⟨h.2.2.1, h.2.2.2⟩ a 500 0 (by omega) (by omega) (by omega)
      exact ⟨_, h3, h4⟩
    · simp only [h, h2, and_self, decide_true, if_true, decide_false, Bool.false_eq_true, if_false]
      exact ⟨_, ev_now fun _ => rfl⟩
  · simp only [h, decide_false, Bool.false_eq_true, if_false]
    exact ⟨_, ev_now fun _ => rfl, ev_now fun _ => rfl⟩
theorem FnExactBattensFor : Say.FnExactBattensFor := by
  intro a b c _ _ _
  apply Ev.rounds
  unfold laws_FnExactBattensFor.f laws_toRoach.f
  obtain ⟨r, h1, h2⟩ := both a b c
  refine ev_some (ev_bind h1 (ev_some (ev_bind h2 ?_)))
  simp only [if_true]
  exact ev_now fun _ => rfl
end Go.Proofs.Ytlddapidlobpnaa.Pure
