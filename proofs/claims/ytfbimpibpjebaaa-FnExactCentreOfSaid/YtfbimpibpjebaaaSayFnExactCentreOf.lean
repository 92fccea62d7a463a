import Derived.Test.YtfbimpibpjebaaaHFnExactCentreOfx10
namespace Go.Proofs.Ytfbimpibpjebaaa.Say
open Go.RowKit Go.Proofs.Ytfbimpibpjebaaa.PFnExactCentreOf Go.Proofs.YtfbimpibpjebaaaW.PrintWords Go.Proofs.YtfbimpibpjebaaaW.PrintLast Go.Proofs.YtfbimpibpjebaaaW.PrintMore
/-- What is left to prove: numbers and lists alone. -/
def FnExactCentreOf : Prop := ∀ (l0 : List S50), (List.length l0 ≤ maxLen ∧ ∀ yl0 ∈ l0, ((Lit.int .i64 yl0.f0).wf = true ∧ (Lit.int .i64 yl0.f1).wf = true)) → ∃ k, laws_FnExactCentreOf.f k l0 = some true
end Go.Proofs.Ytfbimpibpjebaaa.Say
