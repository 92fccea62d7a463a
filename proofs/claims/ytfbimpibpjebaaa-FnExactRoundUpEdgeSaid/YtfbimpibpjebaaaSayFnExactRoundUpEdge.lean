import Derived.Test.YtfbimpibpjebaaaPFnExactRoundUpEdgex9
namespace Go.Proofs.Ytfbimpibpjebaaa.Say
open Go.RowKit Go.Proofs.Ytfbimpibpjebaaa.PFnExactRoundUpEdge Go.Proofs.YtfbimpibpjebaaaW.PrintWords Go.Proofs.YtfbimpibpjebaaaW.PrintLast Go.Proofs.YtfbimpibpjebaaaW.PrintMore
/-- What is left to prove: numbers and lists alone. -/
def FnExactRoundUpEdge : Prop := ∀ (l0 : List S50) (a1 : Int), (List.length l0 ≤ maxLen ∧ ∀ yl0 ∈ l0, ((Lit.int .i64 yl0.f0).wf = true ∧ (Lit.int .i64 yl0.f1).wf = true)) → (Lit.int .i64 a1).wf = true → ∃ k, laws_FnExactRoundUpEdge.f k l0 a1 = some true
end Go.Proofs.Ytfbimpibpjebaaa.Say
