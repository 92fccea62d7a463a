import Derived.Test.YthbfpkagjobgiaaHFnWindSetsx9
namespace Go.Proofs.Ythbfpkagjobgiaa.Say
open Go.RowKit Go.Proofs.Ythbfpkagjobgiaa.PFnWindSets Go.Proofs.YthbfpkagjobgiaaW.PrintWords Go.Proofs.YthbfpkagjobgiaaW.PrintLast Go.Proofs.YthbfpkagjobgiaaW.PrintMore
/-- What is left to prove: numbers and lists alone. -/
def FnWindSets : Prop := ∀ (l0 : List Int) (l1 : List Int), (List.length l0 ≤ maxLen ∧ ∀ yl0 ∈ l0, (Lit.int .u8 yl0).wf = true) → (List.length l1 ≤ maxLen ∧ ∀ yl1 ∈ l1, (Lit.int .u8 yl1).wf = true) → ∃ k, laws_FnWindSets.f k l0 l1 = some true
end Go.Proofs.Ythbfpkagjobgiaa.Say
