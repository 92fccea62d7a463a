/- Words that the walks use, laid by the print; those that nothing here names are left out. -/
import Derived.Test.YthbfpkagjobgiaaWInv
import Derived.Test.YthbfpkagjobgiaaWFootNe
namespace Go.Proofs.YthbfpkagjobgiaaW.PrintWords
open Go.RowKit
end Go.Proofs.YthbfpkagjobgiaaW.PrintWords
namespace Go.Proofs.YthbfpkagjobgiaaW.PrintLast
section
variable {ops : Array Oper} {a : Act} {o og : Oper} {g : Nat} {t : Tmp} {u : Bool}
end
end Go.Proofs.YthbfpkagjobgiaaW.PrintLast

