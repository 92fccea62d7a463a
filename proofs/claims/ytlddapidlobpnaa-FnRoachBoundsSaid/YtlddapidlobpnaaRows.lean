/-
  No cell of these rows narrows 'for every input' (looked for: loops, veiled, ifaces, maps, wideKeys, modest, calm, conditions, laid).
  DERIVED. THE GIVEN ROWS OF THIS SEAT. 12 by the template 'for every input the law returns true; each argument reads behind the call as it read before'; 0 by the template 'total and deterministic' (their statements: YtlddapidlobpnaaTotals.lean).
  GIVEN WITH THE SEED: the statements are not yours to turn. If you find one false, say at which input.
  Laid BY PROGRAM, IN A SANDBOX (cutbox-rows.mjs): the forced cells as the released guide's own fill.sh prints them over the translation 3656bb70b652d79c… (all of the seat's roots in one cut). By AI agents, Wed Nov 11 2026. No macro, syntax, notation, axiom, sorry.
-/
import Derived.Test.YtlddapidlobpnaaChecked
import GoSem.Claim
import GoSem.ClaimJoined
import GoSem.ClaimMapViews
import Derived.JoinedTies
import Derived.KernelRfl
namespace Go.Proofs.Ytlddapidlobpnaa
/- THE CELL 'sum', in the pinned program and in every row, IS THE sha256 OF THE DUMP (.gsa) THAT YtlddapidlobpnaaProg.lean LOADS. Nothing in Lean hashes anything: it is a label: what it is worth is what the hold of that sum in a sandbox is worth. -/
noncomputable def Try.pinned : Pinned := { name := "ytlddapidlobpnaa", sum := "3656bb70b652d79c188c30b56c7c566ffe0a18748a965fbda143c5bb018a329f", checked := Try.checked }
namespace Rows
def none {H : Type} : Left H := { results := [], args := [] }

/-- 'laws.FnExactValidRoach': WHATEVER THE INPUT: true; the input reads as it did. -/
def fnExactValidRoachSpec : ChangeSpec := { name := "fnExactValidRoach", fn := fun _ => fun
  | [d] => { results := [.lit (.bool true)], args := [d] }
  | _ => none }
def fnExactValidRoachRow : OpenClaim := { program := "ytlddapidlobpnaa", sum := "3656bb70b652d79c188c30b56c7c566ffe0a18748a965fbda143c5bb018a329f", func := "loop.example/g01044/laws.FnExactValidRoach", spec := "fnExactValidRoach", apart := false }
def FnExactValidRoachSaid : Prop := fnExactValidRoachRow.holds Try.pinned (OpenSpec.ofChange fnExactValidRoachSpec)

/-- ITS FALSE NEIGHBOUR: 'it returns false'. Refute it at one input. -/
def fnExactValidRoachWrong : ChangeSpec := { name := "fnExactValidRoach", fn := fun _ => fun
  | [d] => { results := [.lit (.bool false)], args := [d] }
  | _ => none }
def FnExactValidRoachWrongFalsely : Prop := fnExactValidRoachRow.holds Try.pinned (OpenSpec.ofChange fnExactValidRoachWrong)

/-- 'laws.FnExactValidWeave': WHATEVER THE INPUT: true; the input reads as it did. -/
def fnExactValidWeaveSpec : ChangeSpec := { name := "fnExactValidWeave", fn := fun _ => fun
  | [d] => { results := [.lit (.bool true)], args := [d] }
  | _ => none }
def fnExactValidWeaveRow : OpenClaim := { program := "ytlddapidlobpnaa", sum := "3656bb70b652d79c188c30b56c7c566ffe0a18748a965fbda143c5bb018a329f", func := "loop.example/g01044/laws.FnExactValidWeave", spec := "fnExactValidWeave", apart := false }
def FnExactValidWeaveSaid : Prop := fnExactValidWeaveRow.holds Try.pinned (OpenSpec.ofChange fnExactValidWeaveSpec)

/-- ITS FALSE NEIGHBOUR: 'it returns false'. Refute it at one input. -/
def fnExactValidWeaveWrong : ChangeSpec := { name := "fnExactValidWeave", fn := fun _ => fun
  | [d] => { results := [.lit (.bool false)], args := [d] }
  | _ => none }
def FnExactValidWeaveWrongFalsely : Prop := fnExactValidWeaveRow.holds Try.pinned (OpenSpec.ofChange fnExactValidWeaveWrong)

/-- 'laws.FnExactDepthForArea': WHATEVER THE INPUT: true; the input reads as it did. -/
def fnExactDepthForAreaSpec : ChangeSpec := { name := "fnExactDepthForArea", fn := fun _ => fun
  | [d1, d2] => { results := [.lit (.bool true)], args := [d1, d2] }
  | _ => none }
def fnExactDepthForAreaRow : OpenClaim := { program := "ytlddapidlobpnaa", sum := "3656bb70b652d79c188c30b56c7c566ffe0a18748a965fbda143c5bb018a329f", func := "loop.example/g01044/laws.FnExactDepthForArea", spec := "fnExactDepthForArea", apart := false }
def FnExactDepthForAreaSaid : Prop := fnExactDepthForAreaRow.holds Try.pinned (OpenSpec.ofChange fnExactDepthForAreaSpec)

/-- ITS FALSE NEIGHBOUR: 'it returns false'. Refute it at one input. -/
def fnExactDepthForAreaWrong : ChangeSpec := { name := "fnExactDepthForArea", fn := fun _ => fun
  | [d1, d2] => { results := [.lit (.bool false)], args := [d1, d2] }
  | _ => none }
def FnExactDepthForAreaWrongFalsely : Prop := fnExactDepthForAreaRow.holds Try.pinned (OpenSpec.ofChange fnExactDepthForAreaWrong)

/-- 'laws.FnExactBattensFor': WHATEVER THE INPUT: true; the input reads as it did. -/
def fnExactBattensForSpec : ChangeSpec := { name := "fnExactBattensFor", fn := fun _ => fun
  | [d1, d2] => { results := [.lit (.bool true)], args := [d1, d2] }
  | _ => none }
def fnExactBattensForRow : OpenClaim := { program := "ytlddapidlobpnaa", sum := "3656bb70b652d79c188c30b56c7c566ffe0a18748a965fbda143c5bb018a329f", func := "loop.example/g01044/laws.FnExactBattensFor", spec := "fnExactBattensFor", apart := false }
def FnExactBattensForSaid : Prop := fnExactBattensForRow.holds Try.pinned (OpenSpec.ofChange fnExactBattensForSpec)

/-- ITS FALSE NEIGHBOUR: 'it returns false'. Refute it at one input. -/
def fnExactBattensForWrong : ChangeSpec := { name := "fnExactBattensFor", fn := fun _ => fun
  | [d1, d2] => { results := [.lit (.bool false)], args := [d1, d2] }
  | _ => none }
def FnExactBattensForWrongFalsely : Prop := fnExactBattensForRow.holds Try.pinned (OpenSpec.ofChange fnExactBattensForWrong)

/-- 'laws.FnExactDepthOf': WHATEVER THE INPUT: true; the input reads as it did. -/
def fnExactDepthOfSpec : ChangeSpec := { name := "fnExactDepthOf", fn := fun _ => fun
  | [d] => { results := [.lit (.bool true)], args := [d] }
  | _ => none }
def fnExactDepthOfRow : OpenClaim := { program := "ytlddapidlobpnaa", sum := "3656bb70b652d79c188c30b56c7c566ffe0a18748a965fbda143c5bb018a329f", func := "loop.example/g01044/laws.FnExactDepthOf", spec := "fnExactDepthOf", apart := false }
def FnExactDepthOfSaid : Prop := fnExactDepthOfRow.holds Try.pinned (OpenSpec.ofChange fnExactDepthOfSpec)

/-- ITS FALSE NEIGHBOUR: 'it returns false'. Refute it at one input. -/
def fnExactDepthOfWrong : ChangeSpec := { name := "fnExactDepthOf", fn := fun _ => fun
  | [d] => { results := [.lit (.bool false)], args := [d] }
  | _ => none }
def FnExactDepthOfWrongFalsely : Prop := fnExactDepthOfRow.holds Try.pinned (OpenSpec.ofChange fnExactDepthOfWrong)

/-- 'laws.FnExactRoachArea': WHATEVER THE INPUT: true; the input reads as it did. -/
def fnExactRoachAreaSpec : ChangeSpec := { name := "fnExactRoachArea", fn := fun _ => fun
  | [d] => { results := [.lit (.bool true)], args := [d] }
  | _ => none }
def fnExactRoachAreaRow : OpenClaim := { program := "ytlddapidlobpnaa", sum := "3656bb70b652d79c188c30b56c7c566ffe0a18748a965fbda143c5bb018a329f", func := "loop.example/g01044/laws.FnExactRoachArea", spec := "fnExactRoachArea", apart := false }
def FnExactRoachAreaSaid : Prop := fnExactRoachAreaRow.holds Try.pinned (OpenSpec.ofChange fnExactRoachAreaSpec)

/-- ITS FALSE NEIGHBOUR: 'it returns false'. Refute it at one input. -/
def fnExactRoachAreaWrong : ChangeSpec := { name := "fnExactRoachArea", fn := fun _ => fun
  | [d] => { results := [.lit (.bool false)], args := [d] }
  | _ => none }
def FnExactRoachAreaWrongFalsely : Prop := fnExactRoachAreaRow.holds Try.pinned (OpenSpec.ofChange fnExactRoachAreaWrong)

/-- 'laws.FnRoachBounds': WHATEVER THE INPUT: true; the input reads as it did. -/
def fnRoachBoundsSpec : ChangeSpec := { name := "fnRoachBounds", fn := fun _ => fun
  | [d1, d2] => { results := [.lit (.bool true)], args := [d1, d2] }
  | _ => none }
def fnRoachBoundsRow : OpenClaim := { program := "ytlddapidlobpnaa", sum := "3656bb70b652d79c188c30b56c7c566ffe0a18748a965fbda143c5bb018a329f", func := "loop.example/g01044/laws.FnRoachBounds", spec := "fnRoachBounds", unfollowed := true, recurses := true, apart := false }
def FnRoachBoundsSaid : Prop := fnRoachBoundsRow.holds Try.pinned (OpenSpec.ofChange fnRoachBoundsSpec)

/-- ITS FALSE NEIGHBOUR: 'it returns false'. Refute it at one input. -/
def fnRoachBoundsWrong : ChangeSpec := { name := "fnRoachBounds", fn := fun _ => fun
  | [d1, d2] => { results := [.lit (.bool false)], args := [d1, d2] }
  | _ => none }
def FnRoachBoundsWrongFalsely : Prop := fnRoachBoundsRow.holds Try.pinned (OpenSpec.ofChange fnRoachBoundsWrong)

/-- 'laws.FnExactRoachHeight': WHATEVER THE INPUT: true; the input reads as it did. -/
def fnExactRoachHeightSpec : ChangeSpec := { name := "fnExactRoachHeight", fn := fun _ => fun
  | [d1, d2] => { results := [.lit (.bool true)], args := [d1, d2] }
  | _ => none }
def fnExactRoachHeightRow : OpenClaim := { program := "ytlddapidlobpnaa", sum := "3656bb70b652d79c188c30b56c7c566ffe0a18748a965fbda143c5bb018a329f", func := "loop.example/g01044/laws.FnExactRoachHeight", spec := "fnExactRoachHeight", apart := false }
def FnExactRoachHeightSaid : Prop := fnExactRoachHeightRow.holds Try.pinned (OpenSpec.ofChange fnExactRoachHeightSpec)

/-- ITS FALSE NEIGHBOUR: 'it returns false'. Refute it at one input. -/
def fnExactRoachHeightWrong : ChangeSpec := { name := "fnExactRoachHeight", fn := fun _ => fun
  | [d1, d2] => { results := [.lit (.bool false)], args := [d1, d2] }
  | _ => none }
def FnExactRoachHeightWrongFalsely : Prop := fnExactRoachHeightRow.holds Try.pinned (OpenSpec.ofChange fnExactRoachHeightWrong)

/-- 'laws.FnExactSameCurve': WHATEVER THE INPUT: true; the input reads as it did. -/
def fnExactSameCurveSpec : ChangeSpec := { name := "fnExactSameCurve", fn := fun _ => fun
  | [d1, d2] => { results := [.lit (.bool true)], args := [d1, d2] }
  | _ => none }
def fnExactSameCurveRow : OpenClaim := { program := "ytlddapidlobpnaa", sum := "3656bb70b652d79c188c30b56c7c566ffe0a18748a965fbda143c5bb018a329f", func := "loop.example/g01044/laws.FnExactSameCurve", spec := "fnExactSameCurve", apart := false }
def FnExactSameCurveSaid : Prop := fnExactSameCurveRow.holds Try.pinned (OpenSpec.ofChange fnExactSameCurveSpec)

/-- ITS FALSE NEIGHBOUR: 'it returns false'. Refute it at one input. -/
def fnExactSameCurveWrong : ChangeSpec := { name := "fnExactSameCurve", fn := fun _ => fun
  | [d1, d2] => { results := [.lit (.bool false)], args := [d1, d2] }
  | _ => none }
def FnExactSameCurveWrongFalsely : Prop := fnExactSameCurveRow.holds Try.pinned (OpenSpec.ofChange fnExactSameCurveWrong)

/-- 'laws.FnExactRoachLength': WHATEVER THE INPUT: true; the input reads as it did. -/
def fnExactRoachLengthSpec : ChangeSpec := { name := "fnExactRoachLength", fn := fun _ => fun
  | [d1, d2] => { results := [.lit (.bool true)], args := [d1, d2] }
  | _ => none }
def fnExactRoachLengthRow : OpenClaim := { program := "ytlddapidlobpnaa", sum := "3656bb70b652d79c188c30b56c7c566ffe0a18748a965fbda143c5bb018a329f", func := "loop.example/g01044/laws.FnExactRoachLength", spec := "fnExactRoachLength", unfollowed := true, recurses := true, apart := false }
def FnExactRoachLengthSaid : Prop := fnExactRoachLengthRow.holds Try.pinned (OpenSpec.ofChange fnExactRoachLengthSpec)

/-- ITS FALSE NEIGHBOUR: 'it returns false'. Refute it at one input. -/
def fnExactRoachLengthWrong : ChangeSpec := { name := "fnExactRoachLength", fn := fun _ => fun
  | [d1, d2] => { results := [.lit (.bool false)], args := [d1, d2] }
  | _ => none }
def FnExactRoachLengthWrongFalsely : Prop := fnExactRoachLengthRow.holds Try.pinned (OpenSpec.ofChange fnExactRoachLengthWrong)

/-- 'laws.FnRoaches': WHATEVER THE INPUT: true; the input reads as it did. -/
def fnRoachesSpec : ChangeSpec := { name := "fnRoaches", fn := fun _ => fun
  | [d1, d2] => { results := [.lit (.bool true)], args := [d1, d2] }
  | _ => none }
def fnRoachesRow : OpenClaim := { program := "ytlddapidlobpnaa", sum := "3656bb70b652d79c188c30b56c7c566ffe0a18748a965fbda143c5bb018a329f", func := "loop.example/g01044/laws.FnRoaches", spec := "fnRoaches", apart := false }
def FnRoachesSaid : Prop := fnRoachesRow.holds Try.pinned (OpenSpec.ofChange fnRoachesSpec)

/-- ITS FALSE NEIGHBOUR: 'it returns false'. Refute it at one input. -/
def fnRoachesWrong : ChangeSpec := { name := "fnRoaches", fn := fun _ => fun
  | [d1, d2] => { results := [.lit (.bool false)], args := [d1, d2] }
  | _ => none }
def FnRoachesWrongFalsely : Prop := fnRoachesRow.holds Try.pinned (OpenSpec.ofChange fnRoachesWrong)

/-- 'laws.FnExactRoachPoints': WHATEVER THE INPUT: true; the input reads as it did. -/
def fnExactRoachPointsSpec : ChangeSpec := { name := "fnExactRoachPoints", fn := fun _ => fun
  | [d1, d2] => { results := [.lit (.bool true)], args := [d1, d2] }
  | _ => none }
def fnExactRoachPointsRow : OpenClaim := { program := "ytlddapidlobpnaa", sum := "3656bb70b652d79c188c30b56c7c566ffe0a18748a965fbda143c5bb018a329f", func := "loop.example/g01044/laws.FnExactRoachPoints", spec := "fnExactRoachPoints", apart := false }
def FnExactRoachPointsSaid : Prop := fnExactRoachPointsRow.holds Try.pinned (OpenSpec.ofChange fnExactRoachPointsSpec)

/-- ITS FALSE NEIGHBOUR: 'it returns false'. Refute it at one input. -/
def fnExactRoachPointsWrong : ChangeSpec := { name := "fnExactRoachPoints", fn := fun _ => fun
  | [d1, d2] => { results := [.lit (.bool false)], args := [d1, d2] }
  | _ => none }
def FnExactRoachPointsWrongFalsely : Prop := fnExactRoachPointsRow.holds Try.pinned (OpenSpec.ofChange fnExactRoachPointsWrong)

/- THE SECOND FORM. 'bulk': how many values and letters a reading holds, each counted each time it is reached (what is shared counts as often as it is met; a slice's spare places count too). A statement '..UptoSaid' is the law's where the arguments, and the package variables that the reading takes, are together of bulk at most 1048576: NARROWER than '..Said'. Prove '..Said' where nothing that the law and all that it calls make is longer than what came in: it says more and counts as full. Else prove '..UptoSaid'. A law counts once. -/
mutual
def uptoBulk {H : Type} : DataW H → Nat
  | .lit (.string bytes) => bytes.length + 1
  | .lit _ => 1
  | .nil => 1
  | .ptr d => uptoBulk d + 1
  | .slice elems spare => uptoBulkAll elems + uptoBulkAll spare + 1
  | .agg parts => uptoBulkAll parts + 1
  | .iface _ d => uptoBulk d + 1
  | .map entries => uptoBulkEntries entries + 1
  | .held _ => 1
def uptoBulkAll {H : Type} : List (DataW H) → Nat
  | [] => 0
  | d :: r => uptoBulk d + uptoBulkAll r
def uptoBulkEntries {H : Type} : List (Lit × DataW H) → Nat
  | [] => 0
  | x :: r => uptoBulkEntry x + uptoBulkEntries r
def uptoBulkEntry {H : Type} : Lit × DataW H → Nat
  | (.string bytes, d) => bytes.length + uptoBulk d + 1
  | (_, d) => uptoBulk d + 1
 end
def uptoSmall : (H : Type) → List (DataW H) → Bool := fun _ ds => decide (uptoBulkAll ds ≤ 1048576)
def OpenSpec.upto (s : _root_.Go.ChangeSpec) : _root_.Go.OpenSpec := { _root_.Go.OpenSpec.ofChange s with cond := some uptoSmall }

/-- 'laws.FnExactValidRoach', WHERE WHAT IT READS IS OF BULK AT MOST 1048576: true; the input reads as it did. -/
def fnExactValidRoachUptoRow : OpenClaim := { program := "ytlddapidlobpnaa", sum := "3656bb70b652d79c188c30b56c7c566ffe0a18748a965fbda143c5bb018a329f", func := "loop.example/g01044/laws.FnExactValidRoach", spec := "fnExactValidRoach", apart := false, narrowed := true }
def FnExactValidRoachUptoSaid : Prop := fnExactValidRoachUptoRow.holds Try.pinned (OpenSpec.upto fnExactValidRoachSpec)

/-- 'laws.FnExactValidWeave', WHERE WHAT IT READS IS OF BULK AT MOST 1048576: true; the input reads as it did. -/
def fnExactValidWeaveUptoRow : OpenClaim := { program := "ytlddapidlobpnaa", sum := "3656bb70b652d79c188c30b56c7c566ffe0a18748a965fbda143c5bb018a329f", func := "loop.example/g01044/laws.FnExactValidWeave", spec := "fnExactValidWeave", apart := false, narrowed := true }
def FnExactValidWeaveUptoSaid : Prop := fnExactValidWeaveUptoRow.holds Try.pinned (OpenSpec.upto fnExactValidWeaveSpec)

/-- 'laws.FnExactDepthForArea', WHERE WHAT IT READS IS OF BULK AT MOST 1048576: true; the input reads as it did. -/
def fnExactDepthForAreaUptoRow : OpenClaim := { program := "ytlddapidlobpnaa", sum := "3656bb70b652d79c188c30b56c7c566ffe0a18748a965fbda143c5bb018a329f", func := "loop.example/g01044/laws.FnExactDepthForArea", spec := "fnExactDepthForArea", apart := false, narrowed := true }
def FnExactDepthForAreaUptoSaid : Prop := fnExactDepthForAreaUptoRow.holds Try.pinned (OpenSpec.upto fnExactDepthForAreaSpec)

/-- 'laws.FnExactBattensFor', WHERE WHAT IT READS IS OF BULK AT MOST 1048576: true; the input reads as it did. -/
def fnExactBattensForUptoRow : OpenClaim := { program := "ytlddapidlobpnaa", sum := "3656bb70b652d79c188c30b56c7c566ffe0a18748a965fbda143c5bb018a329f", func := "loop.example/g01044/laws.FnExactBattensFor", spec := "fnExactBattensFor", apart := false, narrowed := true }
def FnExactBattensForUptoSaid : Prop := fnExactBattensForUptoRow.holds Try.pinned (OpenSpec.upto fnExactBattensForSpec)

/-- 'laws.FnExactDepthOf', WHERE WHAT IT READS IS OF BULK AT MOST 1048576: true; the input reads as it did. -/
def fnExactDepthOfUptoRow : OpenClaim := { program := "ytlddapidlobpnaa", sum := "3656bb70b652d79c188c30b56c7c566ffe0a18748a965fbda143c5bb018a329f", func := "loop.example/g01044/laws.FnExactDepthOf", spec := "fnExactDepthOf", apart := false, narrowed := true }
def FnExactDepthOfUptoSaid : Prop := fnExactDepthOfUptoRow.holds Try.pinned (OpenSpec.upto fnExactDepthOfSpec)

/-- 'laws.FnExactRoachArea', WHERE WHAT IT READS IS OF BULK AT MOST 1048576: true; the input reads as it did. -/
def fnExactRoachAreaUptoRow : OpenClaim := { program := "ytlddapidlobpnaa", sum := "3656bb70b652d79c188c30b56c7c566ffe0a18748a965fbda143c5bb018a329f", func := "loop.example/g01044/laws.FnExactRoachArea", spec := "fnExactRoachArea", apart := false, narrowed := true }
def FnExactRoachAreaUptoSaid : Prop := fnExactRoachAreaUptoRow.holds Try.pinned (OpenSpec.upto fnExactRoachAreaSpec)

/-- 'laws.FnRoachBounds', WHERE WHAT IT READS IS OF BULK AT MOST 1048576: true; the input reads as it did. -/
def fnRoachBoundsUptoRow : OpenClaim := { program := "ytlddapidlobpnaa", sum := "3656bb70b652d79c188c30b56c7c566ffe0a18748a965fbda143c5bb018a329f", func := "loop.example/g01044/laws.FnRoachBounds", spec := "fnRoachBounds", unfollowed := true, recurses := true, apart := false, narrowed := true }
def FnRoachBoundsUptoSaid : Prop := fnRoachBoundsUptoRow.holds Try.pinned (OpenSpec.upto fnRoachBoundsSpec)

/-- 'laws.FnExactRoachHeight', WHERE WHAT IT READS IS OF BULK AT MOST 1048576: true; the input reads as it did. -/
def fnExactRoachHeightUptoRow : OpenClaim := { program := "ytlddapidlobpnaa", sum := "3656bb70b652d79c188c30b56c7c566ffe0a18748a965fbda143c5bb018a329f", func := "loop.example/g01044/laws.FnExactRoachHeight", spec := "fnExactRoachHeight", apart := false, narrowed := true }
def FnExactRoachHeightUptoSaid : Prop := fnExactRoachHeightUptoRow.holds Try.pinned (OpenSpec.upto fnExactRoachHeightSpec)

/-- 'laws.FnExactSameCurve', WHERE WHAT IT READS IS OF BULK AT MOST 1048576: true; the input reads as it did. -/
def fnExactSameCurveUptoRow : OpenClaim := { program := "ytlddapidlobpnaa", sum := "3656bb70b652d79c188c30b56c7c566ffe0a18748a965fbda143c5bb018a329f", func := "loop.example/g01044/laws.FnExactSameCurve", spec := "fnExactSameCurve", apart := false, narrowed := true }
def FnExactSameCurveUptoSaid : Prop := fnExactSameCurveUptoRow.holds Try.pinned (OpenSpec.upto fnExactSameCurveSpec)

/-- 'laws.FnExactRoachLength', WHERE WHAT IT READS IS OF BULK AT MOST 1048576: true; the input reads as it did. -/
def fnExactRoachLengthUptoRow : OpenClaim := { program := "ytlddapidlobpnaa", sum := "3656bb70b652d79c188c30b56c7c566ffe0a18748a965fbda143c5bb018a329f", func := "loop.example/g01044/laws.FnExactRoachLength", spec := "fnExactRoachLength", unfollowed := true, recurses := true, apart := false, narrowed := true }
def FnExactRoachLengthUptoSaid : Prop := fnExactRoachLengthUptoRow.holds Try.pinned (OpenSpec.upto fnExactRoachLengthSpec)

/-- 'laws.FnRoaches', WHERE WHAT IT READS IS OF BULK AT MOST 1048576: true; the input reads as it did. -/
def fnRoachesUptoRow : OpenClaim := { program := "ytlddapidlobpnaa", sum := "3656bb70b652d79c188c30b56c7c566ffe0a18748a965fbda143c5bb018a329f", func := "loop.example/g01044/laws.FnRoaches", spec := "fnRoaches", apart := false, narrowed := true }
def FnRoachesUptoSaid : Prop := fnRoachesUptoRow.holds Try.pinned (OpenSpec.upto fnRoachesSpec)

/-- 'laws.FnExactRoachPoints', WHERE WHAT IT READS IS OF BULK AT MOST 1048576: true; the input reads as it did. -/
def fnExactRoachPointsUptoRow : OpenClaim := { program := "ytlddapidlobpnaa", sum := "3656bb70b652d79c188c30b56c7c566ffe0a18748a965fbda143c5bb018a329f", func := "loop.example/g01044/laws.FnExactRoachPoints", spec := "fnExactRoachPoints", apart := false, narrowed := true }
def FnExactRoachPointsUptoSaid : Prop := fnExactRoachPointsUptoRow.holds Try.pinned (OpenSpec.upto fnExactRoachPointsSpec)

end Rows
end Go.Proofs.Ytlddapidlobpnaa
