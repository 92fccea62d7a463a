import Derived.Test.YtimjblgepbhoaaaWInv
import Derived.Test.YtimjblgepbhoaaaWFootNe
namespace Go.Proofs.YtimjblgepbhoaaaW.PrintWords
open Go.RowKit
end Go.Proofs.YtimjblgepbhoaaaW.PrintWords
namespace Go.Proofs.YtimjblgepbhoaaaW.PrintLast
section
variable {ops : Array Oper} {a : Act} {o og : Oper} {g : Nat} {t : Tmp} {u : Bool}
end
end Go.Proofs.YtimjblgepbhoaaaW.PrintLast

