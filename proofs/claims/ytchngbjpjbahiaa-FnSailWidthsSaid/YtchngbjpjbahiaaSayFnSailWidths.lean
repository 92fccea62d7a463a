import Derived.Test.YtchngbjpjbahiaaHFnSailWidthsx0
namespace Go.Proofs.Ytchngbjpjbahiaa.Say
open Go.RowKit Go.Proofs.Ytchngbjpjbahiaa.PSailw Go.Proofs.YtchngbjpjbahiaaW.PrintWords Go.Proofs.YtchngbjpjbahiaaW.PrintLast Go.Proofs.YtchngbjpjbahiaaW.PrintMore
/-- What is left to prove: numbers and lists alone. -/
def FnSailWidths : Prop := ∀ (l0 : List Int), (List.length l0 ≤ maxLen ∧ ∀ yl0 ∈ l0, (Lit.int .u8 yl0).wf = true) → ∃ k, laws_FnSailWidths.f k l0 = some true
end Go.Proofs.Ytchngbjpjbahiaa.Say
