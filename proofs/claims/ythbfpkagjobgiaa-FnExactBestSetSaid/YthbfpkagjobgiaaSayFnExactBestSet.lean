import Derived.Test.YthbfpkagjobgiaaHFnExactBestSetx10
namespace Go.Proofs.Ythbfpkagjobgiaa.Say
open Go.RowKit Go.Proofs.Ythbfpkagjobgiaa.PFnExactBestSet Go.Proofs.YthbfpkagjobgiaaW.PrintWords Go.Proofs.YthbfpkagjobgiaaW.PrintLast Go.Proofs.YthbfpkagjobgiaaW.PrintMore
/-- What is left to prove: numbers and lists alone. -/
def FnExactBestSet : Prop := ∀ (l0 : List S23) (a1 : Int) (a2 : Int), (List.length l0 ≤ maxLen ∧ ∀ yl0 ∈ l0, (ByteArray.size yl0.f0 ≤ maxLen ∧ (Lit.int .i64 yl0.f1).wf = true ∧ (Lit.int .i64 yl0.f2).wf = true ∧ (Lit.int .i64 yl0.f3).wf = true ∧ (Lit.int .i64 yl0.f4).wf = true)) → (Lit.int .i64 a1).wf = true → (Lit.int .i64 a2).wf = true → ∃ k, laws_FnExactBestSet.f k l0 a1 a2 = some true
end Go.Proofs.Ythbfpkagjobgiaa.Say
