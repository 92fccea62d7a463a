import Derived.Test.YthbfpkagjobgiaaHFnExactWindForcex2
namespace Go.Proofs.Ythbfpkagjobgiaa.Say
open Go.RowKit Go.Proofs.Ythbfpkagjobgiaa.PFnExactWindForce Go.Proofs.YthbfpkagjobgiaaW.PrintWords Go.Proofs.YthbfpkagjobgiaaW.PrintLast Go.Proofs.YthbfpkagjobgiaaW.PrintMore
/-- What is left to prove: numbers and lists alone. -/
def FnExactWindForce : Prop := ∀ (a0_0 : ByteArray) (a0_1 : Int) (a0_2 : Int) (a0_3 : Int) (a0_4 : Int) (a1 : Int), ByteArray.size a0_0 ≤ maxLen → (Lit.int .i64 a0_1).wf = true → (Lit.int .i64 a0_2).wf = true → (Lit.int .i64 a0_3).wf = true → (Lit.int .i64 a0_4).wf = true → (Lit.int .i64 a1).wf = true → ∃ k, laws_FnExactWindForce.f k a0_0 a0_1 a0_2 a0_3 a0_4 a1 = some true
end Go.Proofs.Ythbfpkagjobgiaa.Say
