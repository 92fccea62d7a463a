/-
  No cell of these rows narrows 'for every input' (looked for: loops, veiled, ifaces, maps, wideKeys, modest, calm, conditions, laid).
  DERIVED. THE GIVEN ROWS OF THIS SEAT. 9 by the template 'for every input the law returns true; each argument reads behind the call as it read before'; 0 by the template 'total and deterministic' (their statements: YthbfpkagjobgiaaTotals.lean).
  GIVEN WITH THE SEED: the statements are not yours to turn. If you find one false, say at which input.
  Laid BY PROGRAM, IN A SANDBOX (cutbox-rows.mjs): the forced cells as the released guide's own fill.sh prints them over the translation a9b9bba550f37871… (all of the seat's roots in one cut). By AI agents, Wed Nov 11 2026. No macro, syntax, notation, axiom, sorry.
-/
import Derived.Test.YthbfpkagjobgiaaChecked
import GoSem.Claim
import GoSem.ClaimJoined
import GoSem.ClaimMapViews
import Derived.JoinedTies
import Derived.KernelRfl
namespace Go.Proofs.Ythbfpkagjobgiaa
/- THE CELL 'sum', in the pinned program and in every row, IS THE sha256 OF THE DUMP (.gsa) THAT YthbfpkagjobgiaaProg.lean LOADS. Nothing in Lean hashes anything: it is a label: what it is worth is what the hold of that sum in a sandbox is worth. -/
noncomputable def Try.pinned : Pinned := { name := "ythbfpkagjobgiaa", sum := "a9b9bba550f37871ce4fa1cbe9e632a8cca820d6db67d74bbcb7b68948bbe8a6", checked := Try.checked }
namespace Rows
def none {H : Type} : Left H := { results := [], args := [] }

/-- 'laws.FnExactWindForce': WHATEVER THE INPUT: true; the input reads as it did. -/
def fnExactWindForceSpec : ChangeSpec := { name := "fnExactWindForce", fn := fun _ => fun
  | [d1, d2] => { results := [.lit (.bool true)], args := [d1, d2] }
  | _ => none }
def fnExactWindForceRow : OpenClaim := { program := "ythbfpkagjobgiaa", sum := "a9b9bba550f37871ce4fa1cbe9e632a8cca820d6db67d74bbcb7b68948bbe8a6", func := "loop.example/g01044/laws.FnExactWindForce", spec := "fnExactWindForce", apart := false }
def FnExactWindForceSaid : Prop := fnExactWindForceRow.holds Try.pinned (OpenSpec.ofChange fnExactWindForceSpec)

/-- ITS FALSE NEIGHBOUR: 'it returns false'. Refute it at one input. -/
def fnExactWindForceWrong : ChangeSpec := { name := "fnExactWindForce", fn := fun _ => fun
  | [d1, d2] => { results := [.lit (.bool false)], args := [d1, d2] }
  | _ => none }
def FnExactWindForceWrongFalsely : Prop := fnExactWindForceRow.holds Try.pinned (OpenSpec.ofChange fnExactWindForceWrong)

/-- 'laws.FnExactGustFactor': WHATEVER THE INPUT: true; the input reads as it did. -/
def fnExactGustFactorSpec : ChangeSpec := { name := "fnExactGustFactor", fn := fun _ => fun
  | [d] => { results := [.lit (.bool true)], args := [d] }
  | _ => none }
def fnExactGustFactorRow : OpenClaim := { program := "ythbfpkagjobgiaa", sum := "a9b9bba550f37871ce4fa1cbe9e632a8cca820d6db67d74bbcb7b68948bbe8a6", func := "loop.example/g01044/laws.FnExactGustFactor", spec := "fnExactGustFactor", apart := false }
def FnExactGustFactorSaid : Prop := fnExactGustFactorRow.holds Try.pinned (OpenSpec.ofChange fnExactGustFactorSpec)

/-- ITS FALSE NEIGHBOUR: 'it returns false'. Refute it at one input. -/
def fnExactGustFactorWrong : ChangeSpec := { name := "fnExactGustFactor", fn := fun _ => fun
  | [d] => { results := [.lit (.bool false)], args := [d] }
  | _ => none }
def FnExactGustFactorWrongFalsely : Prop := fnExactGustFactorRow.holds Try.pinned (OpenSpec.ofChange fnExactGustFactorWrong)

/-- 'laws.FnExactValidCanvas': WHATEVER THE INPUT: true; the input reads as it did. -/
def fnExactValidCanvasSpec : ChangeSpec := { name := "fnExactValidCanvas", fn := fun _ => fun
  | [d] => { results := [.lit (.bool true)], args := [d] }
  | _ => none }
def fnExactValidCanvasRow : OpenClaim := { program := "ythbfpkagjobgiaa", sum := "a9b9bba550f37871ce4fa1cbe9e632a8cca820d6db67d74bbcb7b68948bbe8a6", func := "loop.example/g01044/laws.FnExactValidCanvas", spec := "fnExactValidCanvas", unfollowed := true, recurses := true, apart := false }
def FnExactValidCanvasSaid : Prop := fnExactValidCanvasRow.holds Try.pinned (OpenSpec.ofChange fnExactValidCanvasSpec)

/-- ITS FALSE NEIGHBOUR: 'it returns false'. Refute it at one input. -/
def fnExactValidCanvasWrong : ChangeSpec := { name := "fnExactValidCanvas", fn := fun _ => fun
  | [d] => { results := [.lit (.bool false)], args := [d] }
  | _ => none }
def FnExactValidCanvasWrongFalsely : Prop := fnExactValidCanvasRow.holds Try.pinned (OpenSpec.ofChange fnExactValidCanvasWrong)

/-- 'laws.FnWindForces': WHATEVER THE INPUT: true; the input reads as it did. -/
def fnWindForcesSpec : ChangeSpec := { name := "fnWindForces", fn := fun _ => fun
  | [d1, d2] => { results := [.lit (.bool true)], args := [d1, d2] }
  | _ => none }
def fnWindForcesRow : OpenClaim := { program := "ythbfpkagjobgiaa", sum := "a9b9bba550f37871ce4fa1cbe9e632a8cca820d6db67d74bbcb7b68948bbe8a6", func := "loop.example/g01044/laws.FnWindForces", spec := "fnWindForces", unfollowed := true, recurses := true, apart := false }
def FnWindForcesSaid : Prop := fnWindForcesRow.holds Try.pinned (OpenSpec.ofChange fnWindForcesSpec)

/-- ITS FALSE NEIGHBOUR: 'it returns false'. Refute it at one input. -/
def fnWindForcesWrong : ChangeSpec := { name := "fnWindForces", fn := fun _ => fun
  | [d1, d2] => { results := [.lit (.bool false)], args := [d1, d2] }
  | _ => none }
def FnWindForcesWrongFalsely : Prop := fnWindForcesRow.holds Try.pinned (OpenSpec.ofChange fnWindForcesWrong)

/-- 'laws.FnExactHeelingMoment': WHATEVER THE INPUT: true; the input reads as it did. -/
def fnExactHeelingMomentSpec : ChangeSpec := { name := "fnExactHeelingMoment", fn := fun _ => fun
  | [d1, d2, d3] => { results := [.lit (.bool true)], args := [d1, d2, d3] }
  | _ => none }
def fnExactHeelingMomentRow : OpenClaim := { program := "ythbfpkagjobgiaa", sum := "a9b9bba550f37871ce4fa1cbe9e632a8cca820d6db67d74bbcb7b68948bbe8a6", func := "loop.example/g01044/laws.FnExactHeelingMoment", spec := "fnExactHeelingMoment", unfollowed := true, recurses := true, apart := false }
def FnExactHeelingMomentSaid : Prop := fnExactHeelingMomentRow.holds Try.pinned (OpenSpec.ofChange fnExactHeelingMomentSpec)

/-- ITS FALSE NEIGHBOUR: 'it returns false'. Refute it at one input. -/
def fnExactHeelingMomentWrong : ChangeSpec := { name := "fnExactHeelingMoment", fn := fun _ => fun
  | [d1, d2, d3] => { results := [.lit (.bool false)], args := [d1, d2, d3] }
  | _ => none }
def FnExactHeelingMomentWrongFalsely : Prop := fnExactHeelingMomentRow.holds Try.pinned (OpenSpec.ofChange fnExactHeelingMomentWrong)

/-- 'laws.FnExactTotalForce': WHATEVER THE INPUT: true; the input reads as it did. -/
def fnExactTotalForceSpec : ChangeSpec := { name := "fnExactTotalForce", fn := fun _ => fun
  | [d1, d2, d3] => { results := [.lit (.bool true)], args := [d1, d2, d3] }
  | _ => none }
def fnExactTotalForceRow : OpenClaim := { program := "ythbfpkagjobgiaa", sum := "a9b9bba550f37871ce4fa1cbe9e632a8cca820d6db67d74bbcb7b68948bbe8a6", func := "loop.example/g01044/laws.FnExactTotalForce", spec := "fnExactTotalForce", unfollowed := true, recurses := true, apart := false }
def FnExactTotalForceSaid : Prop := fnExactTotalForceRow.holds Try.pinned (OpenSpec.ofChange fnExactTotalForceSpec)

/-- ITS FALSE NEIGHBOUR: 'it returns false'. Refute it at one input. -/
def fnExactTotalForceWrong : ChangeSpec := { name := "fnExactTotalForce", fn := fun _ => fun
  | [d1, d2, d3] => { results := [.lit (.bool false)], args := [d1, d2, d3] }
  | _ => none }
def FnExactTotalForceWrongFalsely : Prop := fnExactTotalForceRow.holds Try.pinned (OpenSpec.ofChange fnExactTotalForceWrong)

/-- 'laws.FnExactMostWind': WHATEVER THE INPUT: true; the input reads as it did. -/
def fnExactMostWindSpec : ChangeSpec := { name := "fnExactMostWind", fn := fun _ => fun
  | [d1, d2, d3] => { results := [.lit (.bool true)], args := [d1, d2, d3] }
  | _ => none }
def fnExactMostWindRow : OpenClaim := { program := "ythbfpkagjobgiaa", sum := "a9b9bba550f37871ce4fa1cbe9e632a8cca820d6db67d74bbcb7b68948bbe8a6", func := "loop.example/g01044/laws.FnExactMostWind", spec := "fnExactMostWind", unfollowed := true, recurses := true, apart := false }
def FnExactMostWindSaid : Prop := fnExactMostWindRow.holds Try.pinned (OpenSpec.ofChange fnExactMostWindSpec)

/-- ITS FALSE NEIGHBOUR: 'it returns false'. Refute it at one input. -/
def fnExactMostWindWrong : ChangeSpec := { name := "fnExactMostWind", fn := fun _ => fun
  | [d1, d2, d3] => { results := [.lit (.bool false)], args := [d1, d2, d3] }
  | _ => none }
def FnExactMostWindWrongFalsely : Prop := fnExactMostWindRow.holds Try.pinned (OpenSpec.ofChange fnExactMostWindWrong)

/-- 'laws.FnExactBestSet': WHATEVER THE INPUT: true; the input reads as it did. -/
def fnExactBestSetSpec : ChangeSpec := { name := "fnExactBestSet", fn := fun _ => fun
  | [d1, d2, d3] => { results := [.lit (.bool true)], args := [d1, d2, d3] }
  | _ => none }
def fnExactBestSetRow : OpenClaim := { program := "ythbfpkagjobgiaa", sum := "a9b9bba550f37871ce4fa1cbe9e632a8cca820d6db67d74bbcb7b68948bbe8a6", func := "loop.example/g01044/laws.FnExactBestSet", spec := "fnExactBestSet", unfollowed := true, recurses := true, apart := false }
def FnExactBestSetSaid : Prop := fnExactBestSetRow.holds Try.pinned (OpenSpec.ofChange fnExactBestSetSpec)

/-- ITS FALSE NEIGHBOUR: 'it returns false'. Refute it at one input. -/
def fnExactBestSetWrong : ChangeSpec := { name := "fnExactBestSet", fn := fun _ => fun
  | [d1, d2, d3] => { results := [.lit (.bool false)], args := [d1, d2, d3] }
  | _ => none }
def FnExactBestSetWrongFalsely : Prop := fnExactBestSetRow.holds Try.pinned (OpenSpec.ofChange fnExactBestSetWrong)

/-- 'laws.FnWindSets': WHATEVER THE INPUT: true; the input reads as it did. -/
def fnWindSetsSpec : ChangeSpec := { name := "fnWindSets", fn := fun _ => fun
  | [d1, d2] => { results := [.lit (.bool true)], args := [d1, d2] }
  | _ => none }
def fnWindSetsRow : OpenClaim := { program := "ythbfpkagjobgiaa", sum := "a9b9bba550f37871ce4fa1cbe9e632a8cca820d6db67d74bbcb7b68948bbe8a6", func := "loop.example/g01044/laws.FnWindSets", spec := "fnWindSets", unfollowed := true, recurses := true, apart := false }
def FnWindSetsSaid : Prop := fnWindSetsRow.holds Try.pinned (OpenSpec.ofChange fnWindSetsSpec)

/-- ITS FALSE NEIGHBOUR: 'it returns false'. Refute it at one input. -/
def fnWindSetsWrong : ChangeSpec := { name := "fnWindSets", fn := fun _ => fun
  | [d1, d2] => { results := [.lit (.bool false)], args := [d1, d2] }
  | _ => none }
def FnWindSetsWrongFalsely : Prop := fnWindSetsRow.holds Try.pinned (OpenSpec.ofChange fnWindSetsWrong)

/- THE SECOND FORM. 'bulk': how many values and letters a reading holds, each counted each time it is reached (what is shared counts as often as it is met; a slice's spare places count too). A statement '..UptoSaid' is the law's where the arguments, and the package variables that the reading takes, are together of bulk at most 1048576: NARROWER than '..Said'. Prove '..Said' where nothing that the law and all that it calls make is longer than what came in: it says more and counts as full. Else prove '..UptoSaid'. A law counts once. -/
mutual
def uptoBulk {H : Type} : DataW H → Nat
  | .lit (.string bytes) => bytes.length + 1
  | .lit _ => 1
  | .nil => 1
  | .ptr d => uptoBulk d + 1
  | .slice elems spare => uptoBulkAll elems + uptoBulkAll spare + 1
  | .agg parts => uptoBulkAll parts + 1
  | .iface _ d => uptoBulk d + 1
  | .map entries => uptoBulkEntries entries + 1
  | .held _ => 1
def uptoBulkAll {H : Type} : List (DataW H) → Nat
  | [] => 0
  | d :: r => uptoBulk d + uptoBulkAll r
def uptoBulkEntries {H : Type} : List (Lit × DataW H) → Nat
  | [] => 0
  | x :: r => uptoBulkEntry x + uptoBulkEntries r
def uptoBulkEntry {H : Type} : Lit × DataW H → Nat
  | (.string bytes, d) => bytes.length + uptoBulk d + 1
  | (_, d) => uptoBulk d + 1
 end
def uptoSmall : (H : Type) → List (DataW H) → Bool := fun _ ds => decide (uptoBulkAll ds ≤ 1048576)
def OpenSpec.upto (s : _root_.Go.ChangeSpec) : _root_.Go.OpenSpec := { _root_.Go.OpenSpec.ofChange s with cond := some uptoSmall }

/-- 'laws.FnExactWindForce', WHERE WHAT IT READS IS OF BULK AT MOST 1048576: true; the input reads as it did. -/
def fnExactWindForceUptoRow : OpenClaim := { program := "ythbfpkagjobgiaa", sum := "a9b9bba550f37871ce4fa1cbe9e632a8cca820d6db67d74bbcb7b68948bbe8a6", func := "loop.example/g01044/laws.FnExactWindForce", spec := "fnExactWindForce", apart := false, narrowed := true }
def FnExactWindForceUptoSaid : Prop := fnExactWindForceUptoRow.holds Try.pinned (OpenSpec.upto fnExactWindForceSpec)

/-- 'laws.FnExactGustFactor', WHERE WHAT IT READS IS OF BULK AT MOST 1048576: true; the input reads as it did. -/
def fnExactGustFactorUptoRow : OpenClaim := { program := "ythbfpkagjobgiaa", sum := "a9b9bba550f37871ce4fa1cbe9e632a8cca820d6db67d74bbcb7b68948bbe8a6", func := "loop.example/g01044/laws.FnExactGustFactor", spec := "fnExactGustFactor", apart := false, narrowed := true }
def FnExactGustFactorUptoSaid : Prop := fnExactGustFactorUptoRow.holds Try.pinned (OpenSpec.upto fnExactGustFactorSpec)

/-- 'laws.FnExactValidCanvas', WHERE WHAT IT READS IS OF BULK AT MOST 1048576: true; the input reads as it did. -/
def fnExactValidCanvasUptoRow : OpenClaim := { program := "ythbfpkagjobgiaa", sum := "a9b9bba550f37871ce4fa1cbe9e632a8cca820d6db67d74bbcb7b68948bbe8a6", func := "loop.example/g01044/laws.FnExactValidCanvas", spec := "fnExactValidCanvas", unfollowed := true, recurses := true, apart := false, narrowed := true }
def FnExactValidCanvasUptoSaid : Prop := fnExactValidCanvasUptoRow.holds Try.pinned (OpenSpec.upto fnExactValidCanvasSpec)

/-- 'laws.FnWindForces', WHERE WHAT IT READS IS OF BULK AT MOST 1048576: true; the input reads as it did. -/
def fnWindForcesUptoRow : OpenClaim := { program := "ythbfpkagjobgiaa", sum := "a9b9bba550f37871ce4fa1cbe9e632a8cca820d6db67d74bbcb7b68948bbe8a6", func := "loop.example/g01044/laws.FnWindForces", spec := "fnWindForces", unfollowed := true, recurses := true, apart := false, narrowed := true }
def FnWindForcesUptoSaid : Prop := fnWindForcesUptoRow.holds Try.pinned (OpenSpec.upto fnWindForcesSpec)

/-- 'laws.FnExactHeelingMoment', WHERE WHAT IT READS IS OF BULK AT MOST 1048576: true; the input reads as it did. -/
def fnExactHeelingMomentUptoRow : OpenClaim := { program := "ythbfpkagjobgiaa", sum := "a9b9bba550f37871ce4fa1cbe9e632a8cca820d6db67d74bbcb7b68948bbe8a6", func := "loop.example/g01044/laws.FnExactHeelingMoment", spec := "fnExactHeelingMoment", unfollowed := true, recurses := true, apart := false, narrowed := true }
def FnExactHeelingMomentUptoSaid : Prop := fnExactHeelingMomentUptoRow.holds Try.pinned (OpenSpec.upto fnExactHeelingMomentSpec)

/-- 'laws.FnExactTotalForce', WHERE WHAT IT READS IS OF BULK AT MOST 1048576: true; the input reads as it did. -/
def fnExactTotalForceUptoRow : OpenClaim := { program := "ythbfpkagjobgiaa", sum := "a9b9bba550f37871ce4fa1cbe9e632a8cca820d6db67d74bbcb7b68948bbe8a6", func := "loop.example/g01044/laws.FnExactTotalForce", spec := "fnExactTotalForce", unfollowed := true, recurses := true, apart := false, narrowed := true }
def FnExactTotalForceUptoSaid : Prop := fnExactTotalForceUptoRow.holds Try.pinned (OpenSpec.upto fnExactTotalForceSpec)

/-- 'laws.FnExactMostWind', WHERE WHAT IT READS IS OF BULK AT MOST 1048576: true; the input reads as it did. -/
def fnExactMostWindUptoRow : OpenClaim := { program := "ythbfpkagjobgiaa", sum := "a9b9bba550f37871ce4fa1cbe9e632a8cca820d6db67d74bbcb7b68948bbe8a6", func := "loop.example/g01044/laws.FnExactMostWind", spec := "fnExactMostWind", unfollowed := true, recurses := true, apart := false, narrowed := true }
def FnExactMostWindUptoSaid : Prop := fnExactMostWindUptoRow.holds Try.pinned (OpenSpec.upto fnExactMostWindSpec)

/-- 'laws.FnExactBestSet', WHERE WHAT IT READS IS OF BULK AT MOST 1048576: true; the input reads as it did. -/
def fnExactBestSetUptoRow : OpenClaim := { program := "ythbfpkagjobgiaa", sum := "a9b9bba550f37871ce4fa1cbe9e632a8cca820d6db67d74bbcb7b68948bbe8a6", func := "loop.example/g01044/laws.FnExactBestSet", spec := "fnExactBestSet", unfollowed := true, recurses := true, apart := false, narrowed := true }
def FnExactBestSetUptoSaid : Prop := fnExactBestSetUptoRow.holds Try.pinned (OpenSpec.upto fnExactBestSetSpec)

/-- 'laws.FnWindSets', WHERE WHAT IT READS IS OF BULK AT MOST 1048576: true; the input reads as it did. -/
def fnWindSetsUptoRow : OpenClaim := { program := "ythbfpkagjobgiaa", sum := "a9b9bba550f37871ce4fa1cbe9e632a8cca820d6db67d74bbcb7b68948bbe8a6", func := "loop.example/g01044/laws.FnWindSets", spec := "fnWindSets", unfollowed := true, recurses := true, apart := false, narrowed := true }
def FnWindSetsUptoSaid : Prop := fnWindSetsUptoRow.holds Try.pinned (OpenSpec.upto fnWindSetsSpec)

end Rows
end Go.Proofs.Ythbfpkagjobgiaa
