/- Words that the walks use, laid by the print; those that nothing here names are left out. -/
import Derived.Test.YtfbimpibpjebaaaWInv
import Derived.Test.YtfbimpibpjebaaaWFootNe
namespace Go.Proofs.YtfbimpibpjebaaaW.PrintWords
open Go.RowKit
end Go.Proofs.YtfbimpibpjebaaaW.PrintWords
namespace Go.Proofs.YtfbimpibpjebaaaW.PrintLast
section
variable {ops : Array Oper} {a : Act} {o og : Oper} {g : Nat} {t : Tmp} {u : Bool}
end
end Go.Proofs.YtfbimpibpjebaaaW.PrintLast

