import Derived.Test.YtchngbjpjbahiaaGreatDoorHFnSailAreasx0
namespace Go.Proofs.YtchngbjpjbahiaaGreatDoor.Say
open Go.RowKit Go.Proofs.YtchngbjpjbahiaaGreatDoor.PSailz Go.Proofs.YtchngbjpjbahiaaGreatDoorW.PrintWords Go.Proofs.YtchngbjpjbahiaaGreatDoorW.PrintLast Go.Proofs.YtchngbjpjbahiaaGreatDoorW.PrintMore
/-- What is left to prove: numbers and lists alone. -/
def FnSailAreas : Prop := ∀ (l0 : List Int), (List.length l0 ≤ maxLen ∧ ∀ yl0 ∈ l0, (Lit.int .u8 yl0).wf = true) → ∃ k, laws_FnSailAreas.f k l0 = some true
end Go.Proofs.YtchngbjpjbahiaaGreatDoor.Say
