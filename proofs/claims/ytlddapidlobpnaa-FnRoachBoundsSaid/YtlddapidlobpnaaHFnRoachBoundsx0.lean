/- The walks of the functions that the law reaches: each computes what its Lean function says. No condition beyond each contract's own. -/
import Derived.Test.YtlddapidlobpnaaProg
import Derived.Below
import Derived.Deep.Draws
import Derived.Deep.AppendLies
import Derived.Maps.AppendAt
import Derived.OwnWalk
import Derived.Laws.BytesArg
import Derived.Laws.MakeOwn
import Derived.Laws.OwnMore
import Derived.Deep.OwnRows
import Derived.Tactics
import Derived.Lib.ConvBytes
import Derived.Laws.Slices
import Derived.WalkKit
import Derived.KernelRfl
import Derived.RowKit3
import Derived.Deep.LoopGhost
import Derived.Deep.QuietTactic
import Derived.BigQuiet
import Derived.WideLaws
import Derived.Deep.DeepCutAuto
import Derived.Deep.CutBlock
import Derived.Deep.RegionHeld3
import Derived.Laws.Rows
import Derived.Lib.AppendStr
import Derived.ArgAppend
import Derived.Laws.IdiomCopy
import Derived.OrdersHeld
import Derived.Laws.BitsLemmas
import Derived.RowKit
import Derived.Test.YtlddapidlobpnaaWWords
import Derived.Test.YtlddapidlobpnaaWLast
import Derived.Test.YtlddapidlobpnaaWTab
import Derived.Test.YtlddapidlobpnaaWFour
import Derived.Test.YtlddapidlobpnaaWQPut
import Derived.Test.YtlddapidlobpnaaWApart
import Derived.Test.YtlddapidlobpnaaWArr
import Derived.Test.YtlddapidlobpnaaWZeros
import Derived.Test.YtlddapidlobpnaaWFoot
import Derived.Test.YtlddapidlobpnaaWKept
import Derived.Test.YtlddapidlobpnaaWShare
import Derived.Test.YtlddapidlobpnaaWN
import Derived.Test.YtlddapidlobpnaaWFootNe
import Derived.Test.YtlddapidlobpnaaWAt
import Derived.Test.YtlddapidlobpnaaWEqStruct
import Derived.Test.YtlddapidlobpnaaWRepsOne
import Derived.Test.YtlddapidlobpnaaWInv
import Derived.Test.YtlddapidlobpnaaWInvWords
import Derived.Test.YtlddapidlobpnaaWGuard
import Derived.Test.YtlddapidlobpnaaWNEv
import Derived.Test.YtlddapidlobpnaaWMore
namespace Go.Proofs.Ytlddapidlobpnaa.PFnRoachBounds
open Go.RowKit Go.Proofs.YtlddapidlobpnaaW.PrintWords Go.Proofs.YtlddapidlobpnaaW.PrintLast Go.Proofs.YtlddapidlobpnaaW.PrintMore
attribute [local go_sem] max2_int min2_int max_two min_two max_three min_three max_four min_four   -- for this text's walks alone
set_option linter.unusedVariables false
set_option linter.unusedSimpArgs false



def errW : Option Int → Value
  | none => .nilIface
  | some c => .iface 0 (.int .i64 c)
theorem errW_none : errW none = .nilIface := rfl
theorem errW_some (c : Int) : errW (some c) = .iface 0 (.int .i64 c) := rfl

-- the values' own types

end Go.Proofs.Ytlddapidlobpnaa.PFnRoachBounds
