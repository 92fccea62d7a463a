/- Words that the walks use, laid by the print; those that nothing here names are left out. -/
import Derived.Test.YthfpaldhdohnkaaWInv
import Derived.Test.YthfpaldhdohnkaaWFootNe
namespace Go.Proofs.YthfpaldhdohnkaaW.PrintWords
open Go.RowKit
end Go.Proofs.YthfpaldhdohnkaaW.PrintWords
namespace Go.Proofs.YthfpaldhdohnkaaW.PrintLast
section
variable {ops : Array Oper} {a : Act} {o og : Oper} {g : Nat} {t : Tmp} {u : Bool}
end
end Go.Proofs.YthfpaldhdohnkaaW.PrintLast

