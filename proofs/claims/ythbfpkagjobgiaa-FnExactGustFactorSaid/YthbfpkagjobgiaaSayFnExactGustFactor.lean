import Derived.Test.YthbfpkagjobgiaaHFnExactGustFactorx3
namespace Go.Proofs.Ythbfpkagjobgiaa.Say
open Go.RowKit Go.Proofs.Ythbfpkagjobgiaa.PFnExactGustFactor Go.Proofs.YthbfpkagjobgiaaW.PrintWords Go.Proofs.YthbfpkagjobgiaaW.PrintLast Go.Proofs.YthbfpkagjobgiaaW.PrintMore
/-- What is left to prove: numbers and lists alone. -/
def FnExactGustFactor : Prop := ∀ (l0 : List Int), (List.length l0 ≤ maxLen ∧ ∀ yl0 ∈ l0, (Lit.int .i64 yl0).wf = true) → ∃ k, laws_FnExactGustFactor.f k l0 = some true
end Go.Proofs.Ythbfpkagjobgiaa.Say
