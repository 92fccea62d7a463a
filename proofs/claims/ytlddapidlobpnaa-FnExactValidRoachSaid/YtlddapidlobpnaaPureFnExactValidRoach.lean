import Derived.Test.YtlddapidlobpnaaSayFnExactValidRoach
namespace Go.Proofs.Ytlddapidlobpnaa.Pure
open Go.RowKit Go.Proofs.Ytlddapidlobpnaa.PFnExactValidRoach
theorem FnExactValidRoach : Say.FnExactValidRoach := by
  intro a b _ _
  unfold laws_FnExactValidRoach.f laws_toRoach.f spec_ValidRoach.f impl_ValidRoach.f spec_l14Ok.f spec_l00In.f impl_within.f
  by_cases h1 : a ≥ 1 <;> by_cases h2 : a ≤ 2000 <;> by_cases h3 : b ≥ 0 <;> by_cases h4 : b ≤ 500 <;> simp [h1, h2, h3, h4]
end Go.Proofs.Ytlddapidlobpnaa.Pure
