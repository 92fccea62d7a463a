import Derived.Test.YtchngbjpjbahiaaDoorHFnExactReadSailx11
namespace Go.Proofs.YtchngbjpjbahiaaDoor.Say
open Go.RowKit Go.Proofs.YtchngbjpjbahiaaDoor.PFnExactReadSail Go.Proofs.YtchngbjpjbahiaaDoorW.PrintWords Go.Proofs.YtchngbjpjbahiaaDoorW.PrintLast Go.Proofs.YtchngbjpjbahiaaDoorW.PrintMore
/-- What is left to prove: numbers and lists alone. -/
def FnExactReadSail : Prop := ∀ (a0 : ByteArray), ByteArray.size a0 ≤ maxLen → ∃ k, laws_FnExactReadSail.f k a0 = some true
end Go.Proofs.YtchngbjpjbahiaaDoor.Say
