/- The walks of the functions that the law reaches: each computes what its Lean function says. No condition beyond each contract's own. -/
import Derived.Test.YthbfpkagjobgiaaProg
import Derived.Below
import Derived.Deep.Draws
import Derived.Deep.AppendLies
import Derived.Maps.AppendAt
import Derived.OwnWalk
import Derived.Laws.BytesArg
import Derived.Laws.MakeOwn
import Derived.Laws.OwnMore
import Derived.Deep.OwnRows
import Derived.Tactics
import Derived.Lib.ConvBytes
import Derived.Laws.Slices
import Derived.WalkKit
import Derived.KernelRfl
import Derived.RowKit3
import Derived.Deep.LoopGhost
import Derived.Deep.QuietTactic
import Derived.BigQuiet
import Derived.WideLaws
import Derived.Deep.DeepCutAuto
import Derived.Deep.CutBlock
import Derived.Deep.RegionHeld3
import Derived.Laws.Rows
import Derived.Lib.AppendStr
import Derived.ArgAppend
import Derived.Laws.IdiomCopy
import Derived.OrdersHeld
import Derived.Laws.BitsLemmas
import Derived.RowKit
import Derived.Test.YthbfpkagjobgiaaWWords
import Derived.Test.YthbfpkagjobgiaaWLast
import Derived.Test.YthbfpkagjobgiaaWTab
import Derived.Test.YthbfpkagjobgiaaWFour
import Derived.Test.YthbfpkagjobgiaaWQPut
import Derived.Test.YthbfpkagjobgiaaWApart
import Derived.Test.YthbfpkagjobgiaaWArr
import Derived.Test.YthbfpkagjobgiaaWZeros
import Derived.Test.YthbfpkagjobgiaaWFoot
import Derived.Test.YthbfpkagjobgiaaWKept
import Derived.Test.YthbfpkagjobgiaaWShare
import Derived.Test.YthbfpkagjobgiaaWN
import Derived.Test.YthbfpkagjobgiaaWFootNe
import Derived.Test.YthbfpkagjobgiaaWAt
import Derived.Test.YthbfpkagjobgiaaWEqStruct
import Derived.Test.YthbfpkagjobgiaaWRepsOne
import Derived.Test.YthbfpkagjobgiaaWInv
import Derived.Test.YthbfpkagjobgiaaWInvWords
import Derived.Test.YthbfpkagjobgiaaWGuard
import Derived.Test.YthbfpkagjobgiaaWNEv
import Derived.Test.YthbfpkagjobgiaaWMore
namespace Go.Proofs.Ythbfpkagjobgiaa.PFnExactGustFactor
open Go.RowKit Go.Proofs.YthbfpkagjobgiaaW.PrintWords Go.Proofs.YthbfpkagjobgiaaW.PrintLast Go.Proofs.YthbfpkagjobgiaaW.PrintMore
attribute [local go_sem] max2_int min2_int max_two min_two max_three min_three max_four min_four   -- for this text's walks alone
set_option linter.unusedVariables false
set_option linter.unusedSimpArgs false



def errW : Option Int → Value
  | none => .nilIface
  | some c => .iface 0 (.int .i64 c)
theorem errW_none : errW none = .nilIface := rfl
theorem errW_some (c : Int) : errW (some c) = .iface 0 (.int .i64 c) := rfl

theorem info2 : (Try.prog.info? 2).map (fun i => (i.zero, i.size, i.bytes)) = some (some (.int .i64 0), 1, 8) := by kernel_rfl
-- the values' own types

end Go.Proofs.Ythbfpkagjobgiaa.PFnExactGustFactor
