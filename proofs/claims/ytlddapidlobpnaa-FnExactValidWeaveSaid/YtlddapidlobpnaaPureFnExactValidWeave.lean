import Derived.Test.YtlddapidlobpnaaSayFnExactValidWeave
import Derived.Test.YtlddapidlobpnaaPlain
namespace Go.Proofs.Ytlddapidlobpnaa.Pure
open Go.RowKit Go.Proofs.Ytlddapidlobpnaa.PFnExactValidWeave Go.Proofs.Ytlddapidlobpnaa.Plain Go.Proofs.YtlddapidlobpnaaW.PrintWords
set_option linter.unusedVariables false
set_option linter.unusedSimpArgs false
theorem specIn (n a b : Int) : spec_l00In.f n a b = some (decide (a ≤ n ∧ n ≤ b)) := by
  unfold spec_l00In.f
  by_cases h1 : n ≥ a <;> by_cases h2 : n ≤ b <;> simp [h1, h2] <;> omega
theorem implIn (n a b : Int) : impl_within.f n a b = some (decide (a ≤ n ∧ n ≤ b)) := by
  unfold impl_within.f
  by_cases h1 : n ≥ a <;> by_cases h2 : n ≤ b <;> simp [h1, h2] <;> omega
theorem FnExactValidWeave : Say.FnExactValidWeave := by
  intro a b c _ _ _
  unfold laws_FnExactValidWeave.f laws_toWeave.f spec_ValidWeave.f impl_ValidWeave.f spec_l15Ok.f
  simp only [specIn, implIn, Option.bind_some]
  by_cases h1 : 2 ≤ a ∧ a ≤ 200 <;> by_cases h2 : 0 ≤ b ∧ b ≤ 20 <;> by_cases h3 : b < a <;> simp [h1, h2, h3]
end Go.Proofs.Ytlddapidlobpnaa.Pure
