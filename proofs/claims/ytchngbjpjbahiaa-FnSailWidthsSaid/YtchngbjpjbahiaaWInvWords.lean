/- Words that the walks use, laid by the print; those that nothing here names are left out. -/
import Derived.Test.YtchngbjpjbahiaaWInv
import Derived.Test.YtchngbjpjbahiaaWFootNe
namespace Go.Proofs.YtchngbjpjbahiaaW.PrintWords
open Go.RowKit
end Go.Proofs.YtchngbjpjbahiaaW.PrintWords
namespace Go.Proofs.YtchngbjpjbahiaaW.PrintLast
section
variable {ops : Array Oper} {a : Act} {o og : Oper} {g : Nat} {t : Tmp} {u : Bool}
end
end Go.Proofs.YtchngbjpjbahiaaW.PrintLast

