import Derived.Test.YtfbimpibpjebaaaPFnExactSameSailx3
namespace Go.Proofs.Ytfbimpibpjebaaa.Say
open Go.RowKit Go.Proofs.Ytfbimpibpjebaaa.PFnExactSameSail Go.Proofs.YtfbimpibpjebaaaW.PrintWords Go.Proofs.YtfbimpibpjebaaaW.PrintLast Go.Proofs.YtfbimpibpjebaaaW.PrintMore
/-- What is left to prove: numbers and lists alone. -/
def FnExactSameSail : Prop := ∀ (l0 : List S50) (l1 : List S50), (List.length l0 ≤ maxLen ∧ ∀ yl0 ∈ l0, ((Lit.int .i64 yl0.f0).wf = true ∧ (Lit.int .i64 yl0.f1).wf = true)) → (List.length l1 ≤ maxLen ∧ ∀ yl1 ∈ l1, ((Lit.int .i64 yl1.f0).wf = true ∧ (Lit.int .i64 yl1.f1).wf = true)) → ∃ k, laws_FnExactSameSail.f k l0 l1 = some true
end Go.Proofs.Ytfbimpibpjebaaa.Say
