/-
  No cell of these rows narrows 'for every input' (looked for: loops, veiled, ifaces, maps, wideKeys, modest, calm, conditions, laid).
  DERIVED. THE GIVEN ROWS OF THIS SEAT. 11 by the template 'for every input the law returns true; each argument reads behind the call as it read before'; 0 by the template 'total and deterministic' (their statements: YthfpaldhdohnkaaTotals.lean).
  GIVEN WITH THE SEED: the statements are not yours to turn. If you find one false, say at which input.
  Laid BY PROGRAM, IN A SANDBOX (cutbox-rows.mjs): the forced cells as the released guide's own fill.sh prints them over the translation 0fc3a0afd6f9d2fa… (all of the seat's roots in one cut). By AI agents, Wed Nov 11 2026. No macro, syntax, notation, axiom, sorry.
-/
import Derived.Test.YthfpaldhdohnkaaChecked
import GoSem.Claim
import GoSem.ClaimJoined
import GoSem.ClaimMapViews
import Derived.JoinedTies
import Derived.KernelRfl
namespace Go.Proofs.Ythfpaldhdohnkaa
/- THE CELL 'sum', in the pinned program and in every row, IS THE sha256 OF THE DUMP (.gsa) THAT YthfpaldhdohnkaaProg.lean LOADS. Nothing in Lean hashes anything: it is a label: what it is worth is what the hold of that sum in a sandbox is worth. -/
noncomputable def Try.pinned : Pinned := { name := "ythfpaldhdohnkaa", sum := "0fc3a0afd6f9d2fab812572547b2cc8c99794298f183fd9574b1f02f756f2d97", checked := Try.checked }
namespace Rows
def none {H : Type} : Left H := { results := [], args := [] }

/-- 'laws.FnTunings': WHATEVER THE INPUT: true; the input reads as it did. -/
def fnTuningsSpec : ChangeSpec := { name := "fnTunings", fn := fun _ => fun
  | [d1, d2] => { results := [.lit (.bool true)], args := [d1, d2] }
  | _ => none }
def fnTuningsRow : OpenClaim := { program := "ythfpaldhdohnkaa", sum := "0fc3a0afd6f9d2fab812572547b2cc8c99794298f183fd9574b1f02f756f2d97", func := "loop.example/g01044/laws.FnTunings", spec := "fnTunings", unfollowed := true, recurses := true, apart := false }
def FnTuningsSaid : Prop := fnTuningsRow.holds Try.pinned (OpenSpec.ofChange fnTuningsSpec)

/-- ITS FALSE NEIGHBOUR: 'it returns false'. Refute it at one input. -/
def fnTuningsWrong : ChangeSpec := { name := "fnTunings", fn := fun _ => fun
  | [d1, d2] => { results := [.lit (.bool false)], args := [d1, d2] }
  | _ => none }
def FnTuningsWrongFalsely : Prop := fnTuningsRow.holds Try.pinned (OpenSpec.ofChange fnTuningsWrong)

/-- 'laws.FnExactValidTuning': WHATEVER THE INPUT: true; the input reads as it did. -/
def fnExactValidTuningSpec : ChangeSpec := { name := "fnExactValidTuning", fn := fun _ => fun
  | [d] => { results := [.lit (.bool true)], args := [d] }
  | _ => none }
def fnExactValidTuningRow : OpenClaim := { program := "ythfpaldhdohnkaa", sum := "0fc3a0afd6f9d2fab812572547b2cc8c99794298f183fd9574b1f02f756f2d97", func := "loop.example/g01044/laws.FnExactValidTuning", spec := "fnExactValidTuning", apart := false }
def FnExactValidTuningSaid : Prop := fnExactValidTuningRow.holds Try.pinned (OpenSpec.ofChange fnExactValidTuningSpec)

/-- ITS FALSE NEIGHBOUR: 'it returns false'. Refute it at one input. -/
def fnExactValidTuningWrong : ChangeSpec := { name := "fnExactValidTuning", fn := fun _ => fun
  | [d] => { results := [.lit (.bool false)], args := [d] }
  | _ => none }
def FnExactValidTuningWrongFalsely : Prop := fnExactValidTuningRow.holds Try.pinned (OpenSpec.ofChange fnExactValidTuningWrong)

/-- 'laws.FnExactStrongestScrew': WHATEVER THE INPUT: true; the input reads as it did. -/
def fnExactStrongestScrewSpec : ChangeSpec := { name := "fnExactStrongestScrew", fn := fun _ => fun
  | [d1, d2] => { results := [.lit (.bool true)], args := [d1, d2] }
  | _ => none }
def fnExactStrongestScrewRow : OpenClaim := { program := "ythfpaldhdohnkaa", sum := "0fc3a0afd6f9d2fab812572547b2cc8c99794298f183fd9574b1f02f756f2d97", func := "loop.example/g01044/laws.FnExactStrongestScrew", spec := "fnExactStrongestScrew", apart := false }
def FnExactStrongestScrewSaid : Prop := fnExactStrongestScrewRow.holds Try.pinned (OpenSpec.ofChange fnExactStrongestScrewSpec)

/-- ITS FALSE NEIGHBOUR: 'it returns false'. Refute it at one input. -/
def fnExactStrongestScrewWrong : ChangeSpec := { name := "fnExactStrongestScrew", fn := fun _ => fun
  | [d1, d2] => { results := [.lit (.bool false)], args := [d1, d2] }
  | _ => none }
def FnExactStrongestScrewWrongFalsely : Prop := fnExactStrongestScrewRow.holds Try.pinned (OpenSpec.ofChange fnExactStrongestScrewWrong)

/-- 'laws.FnExactCountTurns': WHATEVER THE INPUT: true; the input reads as it did. -/
def fnExactCountTurnsSpec : ChangeSpec := { name := "fnExactCountTurns", fn := fun _ => fun
  | [d1, d2] => { results := [.lit (.bool true)], args := [d1, d2] }
  | _ => none }
def fnExactCountTurnsRow : OpenClaim := { program := "ythfpaldhdohnkaa", sum := "0fc3a0afd6f9d2fab812572547b2cc8c99794298f183fd9574b1f02f756f2d97", func := "loop.example/g01044/laws.FnExactCountTurns", spec := "fnExactCountTurns", apart := false }
def FnExactCountTurnsSaid : Prop := fnExactCountTurnsRow.holds Try.pinned (OpenSpec.ofChange fnExactCountTurnsSpec)

/-- ITS FALSE NEIGHBOUR: 'it returns false'. Refute it at one input. -/
def fnExactCountTurnsWrong : ChangeSpec := { name := "fnExactCountTurns", fn := fun _ => fun
  | [d1, d2] => { results := [.lit (.bool false)], args := [d1, d2] }
  | _ => none }
def FnExactCountTurnsWrongFalsely : Prop := fnExactCountTurnsRow.holds Try.pinned (OpenSpec.ofChange fnExactCountTurnsWrong)

/-- 'laws.FnExactFirstLoose': WHATEVER THE INPUT: true; the input reads as it did. -/
def fnExactFirstLooseSpec : ChangeSpec := { name := "fnExactFirstLoose", fn := fun _ => fun
  | [d1, d2] => { results := [.lit (.bool true)], args := [d1, d2] }
  | _ => none }
def fnExactFirstLooseRow : OpenClaim := { program := "ythfpaldhdohnkaa", sum := "0fc3a0afd6f9d2fab812572547b2cc8c99794298f183fd9574b1f02f756f2d97", func := "loop.example/g01044/laws.FnExactFirstLoose", spec := "fnExactFirstLoose", apart := false }
def FnExactFirstLooseSaid : Prop := fnExactFirstLooseRow.holds Try.pinned (OpenSpec.ofChange fnExactFirstLooseSpec)

/-- ITS FALSE NEIGHBOUR: 'it returns false'. Refute it at one input. -/
def fnExactFirstLooseWrong : ChangeSpec := { name := "fnExactFirstLoose", fn := fun _ => fun
  | [d1, d2] => { results := [.lit (.bool false)], args := [d1, d2] }
  | _ => none }
def FnExactFirstLooseWrongFalsely : Prop := fnExactFirstLooseRow.holds Try.pinned (OpenSpec.ofChange fnExactFirstLooseWrong)

/-- 'laws.FnExactBackTurns': WHATEVER THE INPUT: true; the input reads as it did. -/
def fnExactBackTurnsSpec : ChangeSpec := { name := "fnExactBackTurns", fn := fun _ => fun
  | [d1, d2] => { results := [.lit (.bool true)], args := [d1, d2] }
  | _ => none }
def fnExactBackTurnsRow : OpenClaim := { program := "ythfpaldhdohnkaa", sum := "0fc3a0afd6f9d2fab812572547b2cc8c99794298f183fd9574b1f02f756f2d97", func := "loop.example/g01044/laws.FnExactBackTurns", spec := "fnExactBackTurns", apart := false }
def FnExactBackTurnsSaid : Prop := fnExactBackTurnsRow.holds Try.pinned (OpenSpec.ofChange fnExactBackTurnsSpec)

/-- ITS FALSE NEIGHBOUR: 'it returns false'. Refute it at one input. -/
def fnExactBackTurnsWrong : ChangeSpec := { name := "fnExactBackTurns", fn := fun _ => fun
  | [d1, d2] => { results := [.lit (.bool false)], args := [d1, d2] }
  | _ => none }
def FnExactBackTurnsWrongFalsely : Prop := fnExactBackTurnsRow.holds Try.pinned (OpenSpec.ofChange fnExactBackTurnsWrong)

/-- 'laws.FnExactTensionsAfter': WHATEVER THE INPUT: true; the input reads as it did. -/
def fnExactTensionsAfterSpec : ChangeSpec := { name := "fnExactTensionsAfter", fn := fun _ => fun
  | [d1, d2] => { results := [.lit (.bool true)], args := [d1, d2] }
  | _ => none }
def fnExactTensionsAfterRow : OpenClaim := { program := "ythfpaldhdohnkaa", sum := "0fc3a0afd6f9d2fab812572547b2cc8c99794298f183fd9574b1f02f756f2d97", func := "loop.example/g01044/laws.FnExactTensionsAfter", spec := "fnExactTensionsAfter", apart := false }
def FnExactTensionsAfterSaid : Prop := fnExactTensionsAfterRow.holds Try.pinned (OpenSpec.ofChange fnExactTensionsAfterSpec)

/-- ITS FALSE NEIGHBOUR: 'it returns false'. Refute it at one input. -/
def fnExactTensionsAfterWrong : ChangeSpec := { name := "fnExactTensionsAfter", fn := fun _ => fun
  | [d1, d2] => { results := [.lit (.bool false)], args := [d1, d2] }
  | _ => none }
def FnExactTensionsAfterWrongFalsely : Prop := fnExactTensionsAfterRow.holds Try.pinned (OpenSpec.ofChange fnExactTensionsAfterWrong)

/-- 'laws.FnEvenTurns': WHATEVER THE INPUT: true; the input reads as it did. -/
def fnEvenTurnsSpec : ChangeSpec := { name := "fnEvenTurns", fn := fun _ => fun
  | [d1, d2] => { results := [.lit (.bool true)], args := [d1, d2] }
  | _ => none }
def fnEvenTurnsRow : OpenClaim := { program := "ythfpaldhdohnkaa", sum := "0fc3a0afd6f9d2fab812572547b2cc8c99794298f183fd9574b1f02f756f2d97", func := "loop.example/g01044/laws.FnEvenTurns", spec := "fnEvenTurns", unfollowed := true, recurses := true, apart := false }
def FnEvenTurnsSaid : Prop := fnEvenTurnsRow.holds Try.pinned (OpenSpec.ofChange fnEvenTurnsSpec)

/-- ITS FALSE NEIGHBOUR: 'it returns false'. Refute it at one input. -/
def fnEvenTurnsWrong : ChangeSpec := { name := "fnEvenTurns", fn := fun _ => fun
  | [d1, d2] => { results := [.lit (.bool false)], args := [d1, d2] }
  | _ => none }
def FnEvenTurnsWrongFalsely : Prop := fnEvenTurnsRow.holds Try.pinned (OpenSpec.ofChange fnEvenTurnsWrong)

/-- 'laws.FnExactRetuned': WHATEVER THE INPUT: true; the input reads as it did. -/
def fnExactRetunedSpec : ChangeSpec := { name := "fnExactRetuned", fn := fun _ => fun
  | [d1, d2] => { results := [.lit (.bool true)], args := [d1, d2] }
  | _ => none }
def fnExactRetunedRow : OpenClaim := { program := "ythfpaldhdohnkaa", sum := "0fc3a0afd6f9d2fab812572547b2cc8c99794298f183fd9574b1f02f756f2d97", func := "loop.example/g01044/laws.FnExactRetuned", spec := "fnExactRetuned", apart := false }
def FnExactRetunedSaid : Prop := fnExactRetunedRow.holds Try.pinned (OpenSpec.ofChange fnExactRetunedSpec)

/-- ITS FALSE NEIGHBOUR: 'it returns false'. Refute it at one input. -/
def fnExactRetunedWrong : ChangeSpec := { name := "fnExactRetuned", fn := fun _ => fun
  | [d1, d2] => { results := [.lit (.bool false)], args := [d1, d2] }
  | _ => none }
def FnExactRetunedWrongFalsely : Prop := fnExactRetunedRow.holds Try.pinned (OpenSpec.ofChange fnExactRetunedWrong)

/-- 'laws.FnExactEvenTurns': WHATEVER THE INPUT: true; the input reads as it did. -/
def fnExactEvenTurnsSpec : ChangeSpec := { name := "fnExactEvenTurns", fn := fun _ => fun
  | [d] => { results := [.lit (.bool true)], args := [d] }
  | _ => none }
def fnExactEvenTurnsRow : OpenClaim := { program := "ythfpaldhdohnkaa", sum := "0fc3a0afd6f9d2fab812572547b2cc8c99794298f183fd9574b1f02f756f2d97", func := "loop.example/g01044/laws.FnExactEvenTurns", spec := "fnExactEvenTurns", unfollowed := true, recurses := true, apart := false }
def FnExactEvenTurnsSaid : Prop := fnExactEvenTurnsRow.holds Try.pinned (OpenSpec.ofChange fnExactEvenTurnsSpec)

/-- ITS FALSE NEIGHBOUR: 'it returns false'. Refute it at one input. -/
def fnExactEvenTurnsWrong : ChangeSpec := { name := "fnExactEvenTurns", fn := fun _ => fun
  | [d] => { results := [.lit (.bool false)], args := [d] }
  | _ => none }
def FnExactEvenTurnsWrongFalsely : Prop := fnExactEvenTurnsRow.holds Try.pinned (OpenSpec.ofChange fnExactEvenTurnsWrong)

/-- 'laws.FnExactTurnsNeeded': WHATEVER THE INPUT: true; the input reads as it did. -/
def fnExactTurnsNeededSpec : ChangeSpec := { name := "fnExactTurnsNeeded", fn := fun _ => fun
  | [d1, d2, d3] => { results := [.lit (.bool true)], args := [d1, d2, d3] }
  | _ => none }
def fnExactTurnsNeededRow : OpenClaim := { program := "ythfpaldhdohnkaa", sum := "0fc3a0afd6f9d2fab812572547b2cc8c99794298f183fd9574b1f02f756f2d97", func := "loop.example/g01044/laws.FnExactTurnsNeeded", spec := "fnExactTurnsNeeded", unfollowed := true, recurses := true, apart := false }
def FnExactTurnsNeededSaid : Prop := fnExactTurnsNeededRow.holds Try.pinned (OpenSpec.ofChange fnExactTurnsNeededSpec)

/-- ITS FALSE NEIGHBOUR: 'it returns false'. Refute it at one input. -/
def fnExactTurnsNeededWrong : ChangeSpec := { name := "fnExactTurnsNeeded", fn := fun _ => fun
  | [d1, d2, d3] => { results := [.lit (.bool false)], args := [d1, d2, d3] }
  | _ => none }
def FnExactTurnsNeededWrongFalsely : Prop := fnExactTurnsNeededRow.holds Try.pinned (OpenSpec.ofChange fnExactTurnsNeededWrong)

/- THE SECOND FORM. 'bulk': how many values and letters a reading holds, each counted each time it is reached (what is shared counts as often as it is met; a slice's spare places count too). A statement '..UptoSaid' is the law's where the arguments, and the package variables that the reading takes, are together of bulk at most 1048576: NARROWER than '..Said'. Prove '..Said' where nothing that the law and all that it calls make is longer than what came in: it says more and counts as full. Else prove '..UptoSaid'. A law counts once. -/
mutual
def uptoBulk {H : Type} : DataW H → Nat
  | .lit (.string bytes) => bytes.length + 1
  | .lit _ => 1
  | .nil => 1
  | .ptr d => uptoBulk d + 1
  | .slice elems spare => uptoBulkAll elems + uptoBulkAll spare + 1
  | .agg parts => uptoBulkAll parts + 1
  | .iface _ d => uptoBulk d + 1
  | .map entries => uptoBulkEntries entries + 1
  | .held _ => 1
def uptoBulkAll {H : Type} : List (DataW H) → Nat
  | [] => 0
  | d :: r => uptoBulk d + uptoBulkAll r
def uptoBulkEntries {H : Type} : List (Lit × DataW H) → Nat
  | [] => 0
  | x :: r => uptoBulkEntry x + uptoBulkEntries r
def uptoBulkEntry {H : Type} : Lit × DataW H → Nat
  | (.string bytes, d) => bytes.length + uptoBulk d + 1
  | (_, d) => uptoBulk d + 1
 end
def uptoSmall : (H : Type) → List (DataW H) → Bool := fun _ ds => decide (uptoBulkAll ds ≤ 1048576)
def OpenSpec.upto (s : _root_.Go.ChangeSpec) : _root_.Go.OpenSpec := { _root_.Go.OpenSpec.ofChange s with cond := some uptoSmall }

/-- 'laws.FnTunings', WHERE WHAT IT READS IS OF BULK AT MOST 1048576: true; the input reads as it did. -/
def fnTuningsUptoRow : OpenClaim := { program := "ythfpaldhdohnkaa", sum := "0fc3a0afd6f9d2fab812572547b2cc8c99794298f183fd9574b1f02f756f2d97", func := "loop.example/g01044/laws.FnTunings", spec := "fnTunings", unfollowed := true, recurses := true, apart := false, narrowed := true }
def FnTuningsUptoSaid : Prop := fnTuningsUptoRow.holds Try.pinned (OpenSpec.upto fnTuningsSpec)

/-- 'laws.FnExactValidTuning', WHERE WHAT IT READS IS OF BULK AT MOST 1048576: true; the input reads as it did. -/
def fnExactValidTuningUptoRow : OpenClaim := { program := "ythfpaldhdohnkaa", sum := "0fc3a0afd6f9d2fab812572547b2cc8c99794298f183fd9574b1f02f756f2d97", func := "loop.example/g01044/laws.FnExactValidTuning", spec := "fnExactValidTuning", apart := false, narrowed := true }
def FnExactValidTuningUptoSaid : Prop := fnExactValidTuningUptoRow.holds Try.pinned (OpenSpec.upto fnExactValidTuningSpec)

/-- 'laws.FnExactStrongestScrew', WHERE WHAT IT READS IS OF BULK AT MOST 1048576: true; the input reads as it did. -/
def fnExactStrongestScrewUptoRow : OpenClaim := { program := "ythfpaldhdohnkaa", sum := "0fc3a0afd6f9d2fab812572547b2cc8c99794298f183fd9574b1f02f756f2d97", func := "loop.example/g01044/laws.FnExactStrongestScrew", spec := "fnExactStrongestScrew", apart := false, narrowed := true }
def FnExactStrongestScrewUptoSaid : Prop := fnExactStrongestScrewUptoRow.holds Try.pinned (OpenSpec.upto fnExactStrongestScrewSpec)

/-- 'laws.FnExactCountTurns', WHERE WHAT IT READS IS OF BULK AT MOST 1048576: true; the input reads as it did. -/
def fnExactCountTurnsUptoRow : OpenClaim := { program := "ythfpaldhdohnkaa", sum := "0fc3a0afd6f9d2fab812572547b2cc8c99794298f183fd9574b1f02f756f2d97", func := "loop.example/g01044/laws.FnExactCountTurns", spec := "fnExactCountTurns", apart := false, narrowed := true }
def FnExactCountTurnsUptoSaid : Prop := fnExactCountTurnsUptoRow.holds Try.pinned (OpenSpec.upto fnExactCountTurnsSpec)

/-- 'laws.FnExactFirstLoose', WHERE WHAT IT READS IS OF BULK AT MOST 1048576: true; the input reads as it did. -/
def fnExactFirstLooseUptoRow : OpenClaim := { program := "ythfpaldhdohnkaa", sum := "0fc3a0afd6f9d2fab812572547b2cc8c99794298f183fd9574b1f02f756f2d97", func := "loop.example/g01044/laws.FnExactFirstLoose", spec := "fnExactFirstLoose", apart := false, narrowed := true }
def FnExactFirstLooseUptoSaid : Prop := fnExactFirstLooseUptoRow.holds Try.pinned (OpenSpec.upto fnExactFirstLooseSpec)

/-- 'laws.FnExactBackTurns', WHERE WHAT IT READS IS OF BULK AT MOST 1048576: true; the input reads as it did. -/
def fnExactBackTurnsUptoRow : OpenClaim := { program := "ythfpaldhdohnkaa", sum := "0fc3a0afd6f9d2fab812572547b2cc8c99794298f183fd9574b1f02f756f2d97", func := "loop.example/g01044/laws.FnExactBackTurns", spec := "fnExactBackTurns", apart := false, narrowed := true }
def FnExactBackTurnsUptoSaid : Prop := fnExactBackTurnsUptoRow.holds Try.pinned (OpenSpec.upto fnExactBackTurnsSpec)

/-- 'laws.FnExactTensionsAfter', WHERE WHAT IT READS IS OF BULK AT MOST 1048576: true; the input reads as it did. -/
def fnExactTensionsAfterUptoRow : OpenClaim := { program := "ythfpaldhdohnkaa", sum := "0fc3a0afd6f9d2fab812572547b2cc8c99794298f183fd9574b1f02f756f2d97", func := "loop.example/g01044/laws.FnExactTensionsAfter", spec := "fnExactTensionsAfter", apart := false, narrowed := true }
def FnExactTensionsAfterUptoSaid : Prop := fnExactTensionsAfterUptoRow.holds Try.pinned (OpenSpec.upto fnExactTensionsAfterSpec)

/-- 'laws.FnEvenTurns', WHERE WHAT IT READS IS OF BULK AT MOST 1048576: true; the input reads as it did. -/
def fnEvenTurnsUptoRow : OpenClaim := { program := "ythfpaldhdohnkaa", sum := "0fc3a0afd6f9d2fab812572547b2cc8c99794298f183fd9574b1f02f756f2d97", func := "loop.example/g01044/laws.FnEvenTurns", spec := "fnEvenTurns", unfollowed := true, recurses := true, apart := false, narrowed := true }
def FnEvenTurnsUptoSaid : Prop := fnEvenTurnsUptoRow.holds Try.pinned (OpenSpec.upto fnEvenTurnsSpec)

/-- 'laws.FnExactRetuned', WHERE WHAT IT READS IS OF BULK AT MOST 1048576: true; the input reads as it did. -/
def fnExactRetunedUptoRow : OpenClaim := { program := "ythfpaldhdohnkaa", sum := "0fc3a0afd6f9d2fab812572547b2cc8c99794298f183fd9574b1f02f756f2d97", func := "loop.example/g01044/laws.FnExactRetuned", spec := "fnExactRetuned", apart := false, narrowed := true }
def FnExactRetunedUptoSaid : Prop := fnExactRetunedUptoRow.holds Try.pinned (OpenSpec.upto fnExactRetunedSpec)

/-- 'laws.FnExactEvenTurns', WHERE WHAT IT READS IS OF BULK AT MOST 1048576: true; the input reads as it did. -/
def fnExactEvenTurnsUptoRow : OpenClaim := { program := "ythfpaldhdohnkaa", sum := "0fc3a0afd6f9d2fab812572547b2cc8c99794298f183fd9574b1f02f756f2d97", func := "loop.example/g01044/laws.FnExactEvenTurns", spec := "fnExactEvenTurns", unfollowed := true, recurses := true, apart := false, narrowed := true }
def FnExactEvenTurnsUptoSaid : Prop := fnExactEvenTurnsUptoRow.holds Try.pinned (OpenSpec.upto fnExactEvenTurnsSpec)

/-- 'laws.FnExactTurnsNeeded', WHERE WHAT IT READS IS OF BULK AT MOST 1048576: true; the input reads as it did. -/
def fnExactTurnsNeededUptoRow : OpenClaim := { program := "ythfpaldhdohnkaa", sum := "0fc3a0afd6f9d2fab812572547b2cc8c99794298f183fd9574b1f02f756f2d97", func := "loop.example/g01044/laws.FnExactTurnsNeeded", spec := "fnExactTurnsNeeded", unfollowed := true, recurses := true, apart := false, narrowed := true }
def FnExactTurnsNeededUptoSaid : Prop := fnExactTurnsNeededUptoRow.holds Try.pinned (OpenSpec.upto fnExactTurnsNeededSpec)

end Rows
end Go.Proofs.Ythfpaldhdohnkaa
