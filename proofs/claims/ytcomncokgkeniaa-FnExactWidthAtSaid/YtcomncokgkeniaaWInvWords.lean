import Derived.Test.YtcomncokgkeniaaWInv
import Derived.Test.YtcomncokgkeniaaWFootNe
namespace Go.Proofs.YtcomncokgkeniaaW.PrintWords
open Go.RowKit
end Go.Proofs.YtcomncokgkeniaaW.PrintWords
namespace Go.Proofs.YtcomncokgkeniaaW.PrintLast
section
variable {ops : Array Oper} {a : Act} {o og : Oper} {g : Nat} {t : Tmp} {u : Bool}
end
end Go.Proofs.YtcomncokgkeniaaW.PrintLast

