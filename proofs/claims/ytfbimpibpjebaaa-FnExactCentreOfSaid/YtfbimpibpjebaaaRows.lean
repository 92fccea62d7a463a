/-
  No cell of these rows narrows 'for every input' (looked for: loops, veiled, ifaces, maps, wideKeys, modest, calm, conditions, laid).
  DERIVED. THE GIVEN ROWS OF THIS SEAT. 11 by the template 'for every input the law returns true; each argument reads behind the call as it read before'; 0 by the template 'total and deterministic' (their statements: YtfbimpibpjebaaaTotals.lean).
  GIVEN WITH THE SEED: the statements are not yours to turn. If you find one false, say at which input.
  Laid BY PROGRAM, IN A SANDBOX (cutbox-rows.mjs): the forced cells as the released guide's own fill.sh prints them over the translation 57eda968ed0f6d02… (all of the seat's roots in one cut). By AI agents, Wed Nov 11 2026. No macro, syntax, notation, axiom, sorry.
-/
import Derived.Test.YtfbimpibpjebaaaChecked
import GoSem.Claim
import GoSem.ClaimJoined
import GoSem.ClaimMapViews
import Derived.JoinedTies
import Derived.KernelRfl
namespace Go.Proofs.Ytfbimpibpjebaaa
/- THE CELL 'sum', in the pinned program and in every row, IS THE sha256 OF THE DUMP (.gsa) THAT YtfbimpibpjebaaaProg.lean LOADS. Nothing in Lean hashes anything: it is a label: what it is worth is what the hold of that sum in a sandbox is worth. -/
noncomputable def Try.pinned : Pinned := { name := "ytfbimpibpjebaaa", sum := "57eda968ed0f6d028c765012990eea6f780db5fb8551a7c4a787b71382dd52c0", checked := Try.checked }
namespace Rows
def none {H : Type} : Left H := { results := [], args := [] }

/-- 'laws.FnExactSameSail': WHATEVER THE INPUT: true; the input reads as it did. -/
def fnExactSameSailSpec : ChangeSpec := { name := "fnExactSameSail", fn := fun _ => fun
  | [d1, d2] => { results := [.lit (.bool true)], args := [d1, d2] }
  | _ => none }
def fnExactSameSailRow : OpenClaim := { program := "ytfbimpibpjebaaa", sum := "57eda968ed0f6d028c765012990eea6f780db5fb8551a7c4a787b71382dd52c0", func := "loop.example/g01044/laws.FnExactSameSail", spec := "fnExactSameSail", apart := false }
def FnExactSameSailSaid : Prop := fnExactSameSailRow.holds Try.pinned (OpenSpec.ofChange fnExactSameSailSpec)

/-- ITS FALSE NEIGHBOUR: 'it returns false'. Refute it at one input. -/
def fnExactSameSailWrong : ChangeSpec := { name := "fnExactSameSail", fn := fun _ => fun
  | [d1, d2] => { results := [.lit (.bool false)], args := [d1, d2] }
  | _ => none }
def FnExactSameSailWrongFalsely : Prop := fnExactSameSailRow.holds Try.pinned (OpenSpec.ofChange fnExactSameSailWrong)

/-- 'laws.FnExactValidSail': WHATEVER THE INPUT: true; the input reads as it did. -/
def fnExactValidSailSpec : ChangeSpec := { name := "fnExactValidSail", fn := fun _ => fun
  | [d] => { results := [.lit (.bool true)], args := [d] }
  | _ => none }
def fnExactValidSailRow : OpenClaim := { program := "ytfbimpibpjebaaa", sum := "57eda968ed0f6d028c765012990eea6f780db5fb8551a7c4a787b71382dd52c0", func := "loop.example/g01044/laws.FnExactValidSail", spec := "fnExactValidSail", apart := false }
def FnExactValidSailSaid : Prop := fnExactValidSailRow.holds Try.pinned (OpenSpec.ofChange fnExactValidSailSpec)

/-- ITS FALSE NEIGHBOUR: 'it returns false'. Refute it at one input. -/
def fnExactValidSailWrong : ChangeSpec := { name := "fnExactValidSail", fn := fun _ => fun
  | [d] => { results := [.lit (.bool false)], args := [d] }
  | _ => none }
def FnExactValidSailWrongFalsely : Prop := fnExactValidSailRow.holds Try.pinned (OpenSpec.ofChange fnExactValidSailWrong)

/-- 'laws.FnExactIsTriangle': WHATEVER THE INPUT: true; the input reads as it did. -/
def fnExactIsTriangleSpec : ChangeSpec := { name := "fnExactIsTriangle", fn := fun _ => fun
  | [d] => { results := [.lit (.bool true)], args := [d] }
  | _ => none }
def fnExactIsTriangleRow : OpenClaim := { program := "ytfbimpibpjebaaa", sum := "57eda968ed0f6d028c765012990eea6f780db5fb8551a7c4a787b71382dd52c0", func := "loop.example/g01044/laws.FnExactIsTriangle", spec := "fnExactIsTriangle", apart := false }
def FnExactIsTriangleSaid : Prop := fnExactIsTriangleRow.holds Try.pinned (OpenSpec.ofChange fnExactIsTriangleSpec)

/-- ITS FALSE NEIGHBOUR: 'it returns false'. Refute it at one input. -/
def fnExactIsTriangleWrong : ChangeSpec := { name := "fnExactIsTriangle", fn := fun _ => fun
  | [d] => { results := [.lit (.bool false)], args := [d] }
  | _ => none }
def FnExactIsTriangleWrongFalsely : Prop := fnExactIsTriangleRow.holds Try.pinned (OpenSpec.ofChange fnExactIsTriangleWrong)

/-- 'laws.FnExactTwiceSail': WHATEVER THE INPUT: true; the input reads as it did. -/
def fnExactTwiceSailSpec : ChangeSpec := { name := "fnExactTwiceSail", fn := fun _ => fun
  | [d] => { results := [.lit (.bool true)], args := [d] }
  | _ => none }
def fnExactTwiceSailRow : OpenClaim := { program := "ytfbimpibpjebaaa", sum := "57eda968ed0f6d028c765012990eea6f780db5fb8551a7c4a787b71382dd52c0", func := "loop.example/g01044/laws.FnExactTwiceSail", spec := "fnExactTwiceSail", apart := false }
def FnExactTwiceSailSaid : Prop := fnExactTwiceSailRow.holds Try.pinned (OpenSpec.ofChange fnExactTwiceSailSpec)

/-- ITS FALSE NEIGHBOUR: 'it returns false'. Refute it at one input. -/
def fnExactTwiceSailWrong : ChangeSpec := { name := "fnExactTwiceSail", fn := fun _ => fun
  | [d] => { results := [.lit (.bool false)], args := [d] }
  | _ => none }
def FnExactTwiceSailWrongFalsely : Prop := fnExactTwiceSailRow.holds Try.pinned (OpenSpec.ofChange fnExactTwiceSailWrong)

/-- 'laws.FnExactHeightOfSail': WHATEVER THE INPUT: true; the input reads as it did. -/
def fnExactHeightOfSailSpec : ChangeSpec := { name := "fnExactHeightOfSail", fn := fun _ => fun
  | [d] => { results := [.lit (.bool true)], args := [d] }
  | _ => none }
def fnExactHeightOfSailRow : OpenClaim := { program := "ytfbimpibpjebaaa", sum := "57eda968ed0f6d028c765012990eea6f780db5fb8551a7c4a787b71382dd52c0", func := "loop.example/g01044/laws.FnExactHeightOfSail", spec := "fnExactHeightOfSail", apart := false }
def FnExactHeightOfSailSaid : Prop := fnExactHeightOfSailRow.holds Try.pinned (OpenSpec.ofChange fnExactHeightOfSailSpec)

/-- ITS FALSE NEIGHBOUR: 'it returns false'. Refute it at one input. -/
def fnExactHeightOfSailWrong : ChangeSpec := { name := "fnExactHeightOfSail", fn := fun _ => fun
  | [d] => { results := [.lit (.bool false)], args := [d] }
  | _ => none }
def FnExactHeightOfSailWrongFalsely : Prop := fnExactHeightOfSailRow.holds Try.pinned (OpenSpec.ofChange fnExactHeightOfSailWrong)

/-- 'laws.FnExactIsBulged': WHATEVER THE INPUT: true; the input reads as it did. -/
def fnExactIsBulgedSpec : ChangeSpec := { name := "fnExactIsBulged", fn := fun _ => fun
  | [d] => { results := [.lit (.bool true)], args := [d] }
  | _ => none }
def fnExactIsBulgedRow : OpenClaim := { program := "ytfbimpibpjebaaa", sum := "57eda968ed0f6d028c765012990eea6f780db5fb8551a7c4a787b71382dd52c0", func := "loop.example/g01044/laws.FnExactIsBulged", spec := "fnExactIsBulged", apart := false }
def FnExactIsBulgedSaid : Prop := fnExactIsBulgedRow.holds Try.pinned (OpenSpec.ofChange fnExactIsBulgedSpec)

/-- ITS FALSE NEIGHBOUR: 'it returns false'. Refute it at one input. -/
def fnExactIsBulgedWrong : ChangeSpec := { name := "fnExactIsBulged", fn := fun _ => fun
  | [d] => { results := [.lit (.bool false)], args := [d] }
  | _ => none }
def FnExactIsBulgedWrongFalsely : Prop := fnExactIsBulgedRow.holds Try.pinned (OpenSpec.ofChange fnExactIsBulgedWrong)

/-- 'laws.FnExactLongestEdge': WHATEVER THE INPUT: true; the input reads as it did. -/
def fnExactLongestEdgeSpec : ChangeSpec := { name := "fnExactLongestEdge", fn := fun _ => fun
  | [d] => { results := [.lit (.bool true)], args := [d] }
  | _ => none }
def fnExactLongestEdgeRow : OpenClaim := { program := "ytfbimpibpjebaaa", sum := "57eda968ed0f6d028c765012990eea6f780db5fb8551a7c4a787b71382dd52c0", func := "loop.example/g01044/laws.FnExactLongestEdge", spec := "fnExactLongestEdge", apart := false }
def FnExactLongestEdgeSaid : Prop := fnExactLongestEdgeRow.holds Try.pinned (OpenSpec.ofChange fnExactLongestEdgeSpec)

/-- ITS FALSE NEIGHBOUR: 'it returns false'. Refute it at one input. -/
def fnExactLongestEdgeWrong : ChangeSpec := { name := "fnExactLongestEdge", fn := fun _ => fun
  | [d] => { results := [.lit (.bool false)], args := [d] }
  | _ => none }
def FnExactLongestEdgeWrongFalsely : Prop := fnExactLongestEdgeRow.holds Try.pinned (OpenSpec.ofChange fnExactLongestEdgeWrong)

/-- 'laws.FnExactSquareOfEdge': WHATEVER THE INPUT: true; the input reads as it did. -/
def fnExactSquareOfEdgeSpec : ChangeSpec := { name := "fnExactSquareOfEdge", fn := fun _ => fun
  | [d1, d2] => { results := [.lit (.bool true)], args := [d1, d2] }
  | _ => none }
def fnExactSquareOfEdgeRow : OpenClaim := { program := "ytfbimpibpjebaaa", sum := "57eda968ed0f6d028c765012990eea6f780db5fb8551a7c4a787b71382dd52c0", func := "loop.example/g01044/laws.FnExactSquareOfEdge", spec := "fnExactSquareOfEdge", apart := false }
def FnExactSquareOfEdgeSaid : Prop := fnExactSquareOfEdgeRow.holds Try.pinned (OpenSpec.ofChange fnExactSquareOfEdgeSpec)

/-- ITS FALSE NEIGHBOUR: 'it returns false'. Refute it at one input. -/
def fnExactSquareOfEdgeWrong : ChangeSpec := { name := "fnExactSquareOfEdge", fn := fun _ => fun
  | [d1, d2] => { results := [.lit (.bool false)], args := [d1, d2] }
  | _ => none }
def FnExactSquareOfEdgeWrongFalsely : Prop := fnExactSquareOfEdgeRow.holds Try.pinned (OpenSpec.ofChange fnExactSquareOfEdgeWrong)

/-- 'laws.FnExactRoundUpEdge': WHATEVER THE INPUT: true; the input reads as it did. -/
def fnExactRoundUpEdgeSpec : ChangeSpec := { name := "fnExactRoundUpEdge", fn := fun _ => fun
  | [d1, d2] => { results := [.lit (.bool true)], args := [d1, d2] }
  | _ => none }
def fnExactRoundUpEdgeRow : OpenClaim := { program := "ytfbimpibpjebaaa", sum := "57eda968ed0f6d028c765012990eea6f780db5fb8551a7c4a787b71382dd52c0", func := "loop.example/g01044/laws.FnExactRoundUpEdge", spec := "fnExactRoundUpEdge", apart := false }
def FnExactRoundUpEdgeSaid : Prop := fnExactRoundUpEdgeRow.holds Try.pinned (OpenSpec.ofChange fnExactRoundUpEdgeSpec)

/-- ITS FALSE NEIGHBOUR: 'it returns false'. Refute it at one input. -/
def fnExactRoundUpEdgeWrong : ChangeSpec := { name := "fnExactRoundUpEdge", fn := fun _ => fun
  | [d1, d2] => { results := [.lit (.bool false)], args := [d1, d2] }
  | _ => none }
def FnExactRoundUpEdgeWrongFalsely : Prop := fnExactRoundUpEdgeRow.holds Try.pinned (OpenSpec.ofChange fnExactRoundUpEdgeWrong)

/-- 'laws.FnExactMoveSail': WHATEVER THE INPUT: true; the input reads as it did. -/
def fnExactMoveSailSpec : ChangeSpec := { name := "fnExactMoveSail", fn := fun _ => fun
  | [d1, d2, d3] => { results := [.lit (.bool true)], args := [d1, d2, d3] }
  | _ => none }
def fnExactMoveSailRow : OpenClaim := { program := "ytfbimpibpjebaaa", sum := "57eda968ed0f6d028c765012990eea6f780db5fb8551a7c4a787b71382dd52c0", func := "loop.example/g01044/laws.FnExactMoveSail", spec := "fnExactMoveSail", apart := false }
def FnExactMoveSailSaid : Prop := fnExactMoveSailRow.holds Try.pinned (OpenSpec.ofChange fnExactMoveSailSpec)

/-- ITS FALSE NEIGHBOUR: 'it returns false'. Refute it at one input. -/
def fnExactMoveSailWrong : ChangeSpec := { name := "fnExactMoveSail", fn := fun _ => fun
  | [d1, d2, d3] => { results := [.lit (.bool false)], args := [d1, d2, d3] }
  | _ => none }
def FnExactMoveSailWrongFalsely : Prop := fnExactMoveSailRow.holds Try.pinned (OpenSpec.ofChange fnExactMoveSailWrong)

/-- 'laws.FnExactCentreOf': WHATEVER THE INPUT: true; the input reads as it did. -/
def fnExactCentreOfSpec : ChangeSpec := { name := "fnExactCentreOf", fn := fun _ => fun
  | [d] => { results := [.lit (.bool true)], args := [d] }
  | _ => none }
def fnExactCentreOfRow : OpenClaim := { program := "ytfbimpibpjebaaa", sum := "57eda968ed0f6d028c765012990eea6f780db5fb8551a7c4a787b71382dd52c0", func := "loop.example/g01044/laws.FnExactCentreOf", spec := "fnExactCentreOf", apart := false }
def FnExactCentreOfSaid : Prop := fnExactCentreOfRow.holds Try.pinned (OpenSpec.ofChange fnExactCentreOfSpec)

/-- ITS FALSE NEIGHBOUR: 'it returns false'. Refute it at one input. -/
def fnExactCentreOfWrong : ChangeSpec := { name := "fnExactCentreOf", fn := fun _ => fun
  | [d] => { results := [.lit (.bool false)], args := [d] }
  | _ => none }
def FnExactCentreOfWrongFalsely : Prop := fnExactCentreOfRow.holds Try.pinned (OpenSpec.ofChange fnExactCentreOfWrong)

/- THE SECOND FORM. 'bulk': how many values and letters a reading holds, each counted each time it is reached (what is shared counts as often as it is met; a slice's spare places count too). A statement '..UptoSaid' is the law's where the arguments, and the package variables that the reading takes, are together of bulk at most 1048576: NARROWER than '..Said'. Prove '..Said' where nothing that the law and all that it calls make is longer than what came in: it says more and counts as full. Else prove '..UptoSaid'. A law counts once. -/
mutual
def uptoBulk {H : Type} : DataW H → Nat
  | .lit (.string bytes) => bytes.length + 1
  | .lit _ => 1
  | .nil => 1
  | .ptr d => uptoBulk d + 1
  | .slice elems spare => uptoBulkAll elems + uptoBulkAll spare + 1
  | .agg parts => uptoBulkAll parts + 1
  | .iface _ d => uptoBulk d + 1
  | .map entries => uptoBulkEntries entries + 1
  | .held _ => 1
def uptoBulkAll {H : Type} : List (DataW H) → Nat
  | [] => 0
  | d :: r => uptoBulk d + uptoBulkAll r
def uptoBulkEntries {H : Type} : List (Lit × DataW H) → Nat
  | [] => 0
  | x :: r => uptoBulkEntry x + uptoBulkEntries r
def uptoBulkEntry {H : Type} : Lit × DataW H → Nat
  | (.string bytes, d) => bytes.length + uptoBulk d + 1
  | (_, d) => uptoBulk d + 1
 end
def uptoSmall : (H : Type) → List (DataW H) → Bool := fun _ ds => decide (uptoBulkAll ds ≤ 1048576)
def OpenSpec.upto (s : _root_.Go.ChangeSpec) : _root_.Go.OpenSpec := { _root_.Go.OpenSpec.ofChange s with cond := some uptoSmall }

/-- 'laws.FnExactSameSail', WHERE WHAT IT READS IS OF BULK AT MOST 1048576: true; the input reads as it did. -/
def fnExactSameSailUptoRow : OpenClaim := { program := "ytfbimpibpjebaaa", sum := "57eda968ed0f6d028c765012990eea6f780db5fb8551a7c4a787b71382dd52c0", func := "loop.example/g01044/laws.FnExactSameSail", spec := "fnExactSameSail", apart := false, narrowed := true }
def FnExactSameSailUptoSaid : Prop := fnExactSameSailUptoRow.holds Try.pinned (OpenSpec.upto fnExactSameSailSpec)

/-- 'laws.FnExactValidSail', WHERE WHAT IT READS IS OF BULK AT MOST 1048576: true; the input reads as it did. -/
def fnExactValidSailUptoRow : OpenClaim := { program := "ytfbimpibpjebaaa", sum := "57eda968ed0f6d028c765012990eea6f780db5fb8551a7c4a787b71382dd52c0", func := "loop.example/g01044/laws.FnExactValidSail", spec := "fnExactValidSail", apart := false, narrowed := true }
def FnExactValidSailUptoSaid : Prop := fnExactValidSailUptoRow.holds Try.pinned (OpenSpec.upto fnExactValidSailSpec)

/-- 'laws.FnExactIsTriangle', WHERE WHAT IT READS IS OF BULK AT MOST 1048576: true; the input reads as it did. -/
def fnExactIsTriangleUptoRow : OpenClaim := { program := "ytfbimpibpjebaaa", sum := "57eda968ed0f6d028c765012990eea6f780db5fb8551a7c4a787b71382dd52c0", func := "loop.example/g01044/laws.FnExactIsTriangle", spec := "fnExactIsTriangle", apart := false, narrowed := true }
def FnExactIsTriangleUptoSaid : Prop := fnExactIsTriangleUptoRow.holds Try.pinned (OpenSpec.upto fnExactIsTriangleSpec)

/-- 'laws.FnExactTwiceSail', WHERE WHAT IT READS IS OF BULK AT MOST 1048576: true; the input reads as it did. -/
def fnExactTwiceSailUptoRow : OpenClaim := { program := "ytfbimpibpjebaaa", sum := "57eda968ed0f6d028c765012990eea6f780db5fb8551a7c4a787b71382dd52c0", func := "loop.example/g01044/laws.FnExactTwiceSail", spec := "fnExactTwiceSail", apart := false, narrowed := true }
def FnExactTwiceSailUptoSaid : Prop := fnExactTwiceSailUptoRow.holds Try.pinned (OpenSpec.upto fnExactTwiceSailSpec)

/-- 'laws.FnExactHeightOfSail', WHERE WHAT IT READS IS OF BULK AT MOST 1048576: true; the input reads as it did. -/
def fnExactHeightOfSailUptoRow : OpenClaim := { program := "ytfbimpibpjebaaa", sum := "57eda968ed0f6d028c765012990eea6f780db5fb8551a7c4a787b71382dd52c0", func := "loop.example/g01044/laws.FnExactHeightOfSail", spec := "fnExactHeightOfSail", apart := false, narrowed := true }
def FnExactHeightOfSailUptoSaid : Prop := fnExactHeightOfSailUptoRow.holds Try.pinned (OpenSpec.upto fnExactHeightOfSailSpec)

/-- 'laws.FnExactIsBulged', WHERE WHAT IT READS IS OF BULK AT MOST 1048576: true; the input reads as it did. -/
def fnExactIsBulgedUptoRow : OpenClaim := { program := "ytfbimpibpjebaaa", sum := "57eda968ed0f6d028c765012990eea6f780db5fb8551a7c4a787b71382dd52c0", func := "loop.example/g01044/laws.FnExactIsBulged", spec := "fnExactIsBulged", apart := false, narrowed := true }
def FnExactIsBulgedUptoSaid : Prop := fnExactIsBulgedUptoRow.holds Try.pinned (OpenSpec.upto fnExactIsBulgedSpec)

/-- 'laws.FnExactLongestEdge', WHERE WHAT IT READS IS OF BULK AT MOST 1048576: true; the input reads as it did. -/
def fnExactLongestEdgeUptoRow : OpenClaim := { program := "ytfbimpibpjebaaa", sum := "57eda968ed0f6d028c765012990eea6f780db5fb8551a7c4a787b71382dd52c0", func := "loop.example/g01044/laws.FnExactLongestEdge", spec := "fnExactLongestEdge", apart := false, narrowed := true }
def FnExactLongestEdgeUptoSaid : Prop := fnExactLongestEdgeUptoRow.holds Try.pinned (OpenSpec.upto fnExactLongestEdgeSpec)

/-- 'laws.FnExactSquareOfEdge', WHERE WHAT IT READS IS OF BULK AT MOST 1048576: true; the input reads as it did. -/
def fnExactSquareOfEdgeUptoRow : OpenClaim := { program := "ytfbimpibpjebaaa", sum := "57eda968ed0f6d028c765012990eea6f780db5fb8551a7c4a787b71382dd52c0", func := "loop.example/g01044/laws.FnExactSquareOfEdge", spec := "fnExactSquareOfEdge", apart := false, narrowed := true }
def FnExactSquareOfEdgeUptoSaid : Prop := fnExactSquareOfEdgeUptoRow.holds Try.pinned (OpenSpec.upto fnExactSquareOfEdgeSpec)

/-- 'laws.FnExactRoundUpEdge', WHERE WHAT IT READS IS OF BULK AT MOST 1048576: true; the input reads as it did. -/
def fnExactRoundUpEdgeUptoRow : OpenClaim := { program := "ytfbimpibpjebaaa", sum := "57eda968ed0f6d028c765012990eea6f780db5fb8551a7c4a787b71382dd52c0", func := "loop.example/g01044/laws.FnExactRoundUpEdge", spec := "fnExactRoundUpEdge", apart := false, narrowed := true }
def FnExactRoundUpEdgeUptoSaid : Prop := fnExactRoundUpEdgeUptoRow.holds Try.pinned (OpenSpec.upto fnExactRoundUpEdgeSpec)

/-- 'laws.FnExactMoveSail', WHERE WHAT IT READS IS OF BULK AT MOST 1048576: true; the input reads as it did. -/
def fnExactMoveSailUptoRow : OpenClaim := { program := "ytfbimpibpjebaaa", sum := "57eda968ed0f6d028c765012990eea6f780db5fb8551a7c4a787b71382dd52c0", func := "loop.example/g01044/laws.FnExactMoveSail", spec := "fnExactMoveSail", apart := false, narrowed := true }
def FnExactMoveSailUptoSaid : Prop := fnExactMoveSailUptoRow.holds Try.pinned (OpenSpec.upto fnExactMoveSailSpec)

/-- 'laws.FnExactCentreOf', WHERE WHAT IT READS IS OF BULK AT MOST 1048576: true; the input reads as it did. -/
def fnExactCentreOfUptoRow : OpenClaim := { program := "ytfbimpibpjebaaa", sum := "57eda968ed0f6d028c765012990eea6f780db5fb8551a7c4a787b71382dd52c0", func := "loop.example/g01044/laws.FnExactCentreOf", spec := "fnExactCentreOf", apart := false, narrowed := true }
def FnExactCentreOfUptoSaid : Prop := fnExactCentreOfUptoRow.holds Try.pinned (OpenSpec.upto fnExactCentreOfSpec)

end Rows
end Go.Proofs.Ytfbimpibpjebaaa
