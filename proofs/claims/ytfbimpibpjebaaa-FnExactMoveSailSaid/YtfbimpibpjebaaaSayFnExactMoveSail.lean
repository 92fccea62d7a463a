import Derived.Test.YtfbimpibpjebaaaPFnExactMoveSailx10
namespace Go.Proofs.Ytfbimpibpjebaaa.Say
open Go.RowKit Go.Proofs.Ytfbimpibpjebaaa.PFnExactMoveSail Go.Proofs.YtfbimpibpjebaaaW.PrintWords Go.Proofs.YtfbimpibpjebaaaW.PrintLast Go.Proofs.YtfbimpibpjebaaaW.PrintMore
/-- What is left to prove: numbers and lists alone. -/
def FnExactMoveSail : Prop := ∀ (l0 : List S50) (a1 : Int) (a2 : Int), (List.length l0 ≤ maxLen ∧ ∀ yl0 ∈ l0, ((Lit.int .i64 yl0.f0).wf = true ∧ (Lit.int .i64 yl0.f1).wf = true)) → (Lit.int .i64 a1).wf = true → (Lit.int .i64 a2).wf = true → ∃ k, laws_FnExactMoveSail.f k l0 a1 a2 = some true
end Go.Proofs.Ytfbimpibpjebaaa.Say
