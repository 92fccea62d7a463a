/- Words that the walks use, laid by the print; those that nothing here names are left out. -/
import Derived.Test.YtchngbjpjbahiaaGreatDoorWInv
import Derived.Test.YtchngbjpjbahiaaGreatDoorWFootNe
namespace Go.Proofs.YtchngbjpjbahiaaGreatDoorW.PrintWords
open Go.RowKit
end Go.Proofs.YtchngbjpjbahiaaGreatDoorW.PrintWords
namespace Go.Proofs.YtchngbjpjbahiaaGreatDoorW.PrintLast
section
variable {ops : Array Oper} {a : Act} {o og : Oper} {g : Nat} {t : Tmp} {u : Bool}
end
end Go.Proofs.YtchngbjpjbahiaaGreatDoorW.PrintLast

