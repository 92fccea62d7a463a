import Derived.Test.YtchngbjpjbahiaaDoorHFnExactSailTextx11
namespace Go.Proofs.YtchngbjpjbahiaaDoor.Say
open Go.RowKit Go.Proofs.YtchngbjpjbahiaaDoor.PFnExactSailText Go.Proofs.YtchngbjpjbahiaaDoorW.PrintWords Go.Proofs.YtchngbjpjbahiaaDoorW.PrintLast Go.Proofs.YtchngbjpjbahiaaDoorW.PrintMore
/-- What is left to prove: numbers and lists alone. -/
def FnExactSailText : Prop := ∀ (l0 : List S37), (List.length l0 ≤ maxLen ∧ ∀ yl0 ∈ l0, ((Lit.int .i64 yl0.f0).wf = true ∧ (Lit.int .i64 yl0.f1).wf = true)) → ∃ k, laws_FnExactSailText.f k l0 = some true
end Go.Proofs.YtchngbjpjbahiaaDoor.Say
