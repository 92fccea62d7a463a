/-
  No cell of these rows narrows 'for every input' (looked for: loops, veiled, ifaces, maps, wideKeys, modest, calm, conditions, laid).
  DERIVED. THE GIVEN ROWS OF THIS SEAT. 12 by the template 'for every input the law returns true; each argument reads behind the call as it read before'; 0 by the template 'total and deterministic' (their statements: YtimjblgepbhoaaaTotals.lean).
  GIVEN WITH THE SEED: the statements are not yours to turn. If you find one false, say at which input.
  Laid BY PROGRAM, IN A SANDBOX (cutbox-rows.mjs): the forced cells as the released guide's own fill.sh prints them over the translation ac4f334db4bb31fc… (all of the seat's roots in one cut). By AI agents, Wed Nov 11 2026. No macro, syntax, notation, axiom, sorry.
-/
import Derived.Test.YtimjblgepbhoaaaChecked
import GoSem.Claim
import GoSem.ClaimJoined
import GoSem.ClaimMapViews
import Derived.JoinedTies
import Derived.KernelRfl
namespace Go.Proofs.Ytimjblgepbhoaaa
/- THE CELL 'sum', in the pinned program and in every row, IS THE sha256 OF THE DUMP (.gsa) THAT YtimjblgepbhoaaaProg.lean LOADS. Nothing in Lean hashes anything: it is a label: what it is worth is what the hold of that sum in a sandbox is worth. -/
noncomputable def Try.pinned : Pinned := { name := "ytimjblgepbhoaaa", sum := "ac4f334db4bb31fc39647eabfb35fa7a36834a64fd52b206f39609eabff1f9cc", checked := Try.checked }
namespace Rows
def none {H : Type} : Left H := { results := [], args := [] }

/-- 'laws.FnHolding': WHATEVER THE INPUT: true; the input reads as it did. -/
def fnHoldingSpec : ChangeSpec := { name := "fnHolding", fn := fun _ => fun
  | [d] => { results := [.lit (.bool true)], args := [d] }
  | _ => none }
def fnHoldingRow : OpenClaim := { program := "ytimjblgepbhoaaa", sum := "ac4f334db4bb31fc39647eabfb35fa7a36834a64fd52b206f39609eabff1f9cc", func := "loop.example/g01044/laws.FnHolding", spec := "fnHolding", unfollowed := true, recurses := true, apart := false }
def FnHoldingSaid : Prop := fnHoldingRow.holds Try.pinned (OpenSpec.ofChange fnHoldingSpec)

/-- ITS FALSE NEIGHBOUR: 'it returns false'. Refute it at one input. -/
def fnHoldingWrong : ChangeSpec := { name := "fnHolding", fn := fun _ => fun
  | [d] => { results := [.lit (.bool false)], args := [d] }
  | _ => none }
def FnHoldingWrongFalsely : Prop := fnHoldingRow.holds Try.pinned (OpenSpec.ofChange fnHoldingWrong)

/-- 'laws.FnExactCanHold': WHATEVER THE INPUT: true; the input reads as it did. -/
def fnExactCanHoldSpec : ChangeSpec := { name := "fnExactCanHold", fn := fun _ => fun
  | [d1, d2, d3] => { results := [.lit (.bool true)], args := [d1, d2, d3] }
  | _ => none }
def fnExactCanHoldRow : OpenClaim := { program := "ytimjblgepbhoaaa", sum := "ac4f334db4bb31fc39647eabfb35fa7a36834a64fd52b206f39609eabff1f9cc", func := "loop.example/g01044/laws.FnExactCanHold", spec := "fnExactCanHold", unfollowed := true, recurses := true, apart := false }
def FnExactCanHoldSaid : Prop := fnExactCanHoldRow.holds Try.pinned (OpenSpec.ofChange fnExactCanHoldSpec)

/-- ITS FALSE NEIGHBOUR: 'it returns false'. Refute it at one input. -/
def fnExactCanHoldWrong : ChangeSpec := { name := "fnExactCanHold", fn := fun _ => fun
  | [d1, d2, d3] => { results := [.lit (.bool false)], args := [d1, d2, d3] }
  | _ => none }
def FnExactCanHoldWrongFalsely : Prop := fnExactCanHoldRow.holds Try.pinned (OpenSpec.ofChange fnExactCanHoldWrong)

/-- 'laws.FnExactSlackenBars': WHATEVER THE INPUT: true; the input reads as it did. -/
def fnExactSlackenBarsSpec : ChangeSpec := { name := "fnExactSlackenBars", fn := fun _ => fun
  | [d1, d2, d3] => { results := [.lit (.bool true)], args := [d1, d2, d3] }
  | _ => none }
def fnExactSlackenBarsRow : OpenClaim := { program := "ytimjblgepbhoaaa", sum := "ac4f334db4bb31fc39647eabfb35fa7a36834a64fd52b206f39609eabff1f9cc", func := "loop.example/g01044/laws.FnExactSlackenBars", spec := "fnExactSlackenBars", apart := false }
def FnExactSlackenBarsSaid : Prop := fnExactSlackenBarsRow.holds Try.pinned (OpenSpec.ofChange fnExactSlackenBarsSpec)

/-- ITS FALSE NEIGHBOUR: 'it returns false'. Refute it at one input. -/
def fnExactSlackenBarsWrong : ChangeSpec := { name := "fnExactSlackenBars", fn := fun _ => fun
  | [d1, d2, d3] => { results := [.lit (.bool false)], args := [d1, d2, d3] }
  | _ => none }
def FnExactSlackenBarsWrongFalsely : Prop := fnExactSlackenBarsRow.holds Try.pinned (OpenSpec.ofChange fnExactSlackenBarsWrong)

/-- 'laws.FnExactGreatestLoad': WHATEVER THE INPUT: true; the input reads as it did. -/
def fnExactGreatestLoadSpec : ChangeSpec := { name := "fnExactGreatestLoad", fn := fun _ => fun
  | [d1, d2, d3] => { results := [.lit (.bool true)], args := [d1, d2, d3] }
  | _ => none }
def fnExactGreatestLoadRow : OpenClaim := { program := "ytimjblgepbhoaaa", sum := "ac4f334db4bb31fc39647eabfb35fa7a36834a64fd52b206f39609eabff1f9cc", func := "loop.example/g01044/laws.FnExactGreatestLoad", spec := "fnExactGreatestLoad", unfollowed := true, recurses := true, apart := false }
def FnExactGreatestLoadSaid : Prop := fnExactGreatestLoadRow.holds Try.pinned (OpenSpec.ofChange fnExactGreatestLoadSpec)

/-- ITS FALSE NEIGHBOUR: 'it returns false'. Refute it at one input. -/
def fnExactGreatestLoadWrong : ChangeSpec := { name := "fnExactGreatestLoad", fn := fun _ => fun
  | [d1, d2, d3] => { results := [.lit (.bool false)], args := [d1, d2, d3] }
  | _ => none }
def FnExactGreatestLoadWrongFalsely : Prop := fnExactGreatestLoadRow.holds Try.pinned (OpenSpec.ofChange fnExactGreatestLoadWrong)

/-- 'laws.FnExactHoldsAll': WHATEVER THE INPUT: true; the input reads as it did. -/
def fnExactHoldsAllSpec : ChangeSpec := { name := "fnExactHoldsAll", fn := fun _ => fun
  | [d1, d2, d3] => { results := [.lit (.bool true)], args := [d1, d2, d3] }
  | _ => none }
def fnExactHoldsAllRow : OpenClaim := { program := "ytimjblgepbhoaaa", sum := "ac4f334db4bb31fc39647eabfb35fa7a36834a64fd52b206f39609eabff1f9cc", func := "loop.example/g01044/laws.FnExactHoldsAll", spec := "fnExactHoldsAll", unfollowed := true, recurses := true, apart := false }
def FnExactHoldsAllSaid : Prop := fnExactHoldsAllRow.holds Try.pinned (OpenSpec.ofChange fnExactHoldsAllSpec)

/-- ITS FALSE NEIGHBOUR: 'it returns false'. Refute it at one input. -/
def fnExactHoldsAllWrong : ChangeSpec := { name := "fnExactHoldsAll", fn := fun _ => fun
  | [d1, d2, d3] => { results := [.lit (.bool false)], args := [d1, d2, d3] }
  | _ => none }
def FnExactHoldsAllWrongFalsely : Prop := fnExactHoldsAllRow.holds Try.pinned (OpenSpec.ofChange fnExactHoldsAllWrong)

/-- 'laws.FnExactHoldingBars': WHATEVER THE INPUT: true; the input reads as it did. -/
def fnExactHoldingBarsSpec : ChangeSpec := { name := "fnExactHoldingBars", fn := fun _ => fun
  | [d1, d2] => { results := [.lit (.bool true)], args := [d1, d2] }
  | _ => none }
def fnExactHoldingBarsRow : OpenClaim := { program := "ytimjblgepbhoaaa", sum := "ac4f334db4bb31fc39647eabfb35fa7a36834a64fd52b206f39609eabff1f9cc", func := "loop.example/g01044/laws.FnExactHoldingBars", spec := "fnExactHoldingBars", unfollowed := true, recurses := true, apart := false }
def FnExactHoldingBarsSaid : Prop := fnExactHoldingBarsRow.holds Try.pinned (OpenSpec.ofChange fnExactHoldingBarsSpec)

/-- ITS FALSE NEIGHBOUR: 'it returns false'. Refute it at one input. -/
def fnExactHoldingBarsWrong : ChangeSpec := { name := "fnExactHoldingBars", fn := fun _ => fun
  | [d1, d2] => { results := [.lit (.bool false)], args := [d1, d2] }
  | _ => none }
def FnExactHoldingBarsWrongFalsely : Prop := fnExactHoldingBarsRow.holds Try.pinned (OpenSpec.ofChange fnExactHoldingBarsWrong)

/-- 'laws.FnExactFirstLooseWind': WHATEVER THE INPUT: true; the input reads as it did. -/
def fnExactFirstLooseWindSpec : ChangeSpec := { name := "fnExactFirstLooseWind", fn := fun _ => fun
  | [d1, d2, d3] => { results := [.lit (.bool true)], args := [d1, d2, d3] }
  | _ => none }
def fnExactFirstLooseWindRow : OpenClaim := { program := "ytimjblgepbhoaaa", sum := "ac4f334db4bb31fc39647eabfb35fa7a36834a64fd52b206f39609eabff1f9cc", func := "loop.example/g01044/laws.FnExactFirstLooseWind", spec := "fnExactFirstLooseWind", unfollowed := true, recurses := true, apart := false }
def FnExactFirstLooseWindSaid : Prop := fnExactFirstLooseWindRow.holds Try.pinned (OpenSpec.ofChange fnExactFirstLooseWindSpec)

/-- ITS FALSE NEIGHBOUR: 'it returns false'. Refute it at one input. -/
def fnExactFirstLooseWindWrong : ChangeSpec := { name := "fnExactFirstLooseWind", fn := fun _ => fun
  | [d1, d2, d3] => { results := [.lit (.bool false)], args := [d1, d2, d3] }
  | _ => none }
def FnExactFirstLooseWindWrongFalsely : Prop := fnExactFirstLooseWindRow.holds Try.pinned (OpenSpec.ofChange fnExactFirstLooseWindWrong)

/-- 'laws.FnExactHoldingDensities': WHATEVER THE INPUT: true; the input reads as it did. -/
def fnExactHoldingDensitiesSpec : ChangeSpec := { name := "fnExactHoldingDensities", fn := fun _ => fun
  | [d1, d2] => { results := [.lit (.bool true)], args := [d1, d2] }
  | _ => none }
def fnExactHoldingDensitiesRow : OpenClaim := { program := "ytimjblgepbhoaaa", sum := "ac4f334db4bb31fc39647eabfb35fa7a36834a64fd52b206f39609eabff1f9cc", func := "loop.example/g01044/laws.FnExactHoldingDensities", spec := "fnExactHoldingDensities", unfollowed := true, recurses := true, apart := false }
def FnExactHoldingDensitiesSaid : Prop := fnExactHoldingDensitiesRow.holds Try.pinned (OpenSpec.ofChange fnExactHoldingDensitiesSpec)

/-- ITS FALSE NEIGHBOUR: 'it returns false'. Refute it at one input. -/
def fnExactHoldingDensitiesWrong : ChangeSpec := { name := "fnExactHoldingDensities", fn := fun _ => fun
  | [d1, d2] => { results := [.lit (.bool false)], args := [d1, d2] }
  | _ => none }
def FnExactHoldingDensitiesWrongFalsely : Prop := fnExactHoldingDensitiesRow.holds Try.pinned (OpenSpec.ofChange fnExactHoldingDensitiesWrong)

/-- 'laws.FnExactNeedlessStays': WHATEVER THE INPUT: true; the input reads as it did. -/
def fnExactNeedlessStaysSpec : ChangeSpec := { name := "fnExactNeedlessStays", fn := fun _ => fun
  | [d1, d2, d3] => { results := [.lit (.bool true)], args := [d1, d2, d3] }
  | _ => none }
def fnExactNeedlessStaysRow : OpenClaim := { program := "ytimjblgepbhoaaa", sum := "ac4f334db4bb31fc39647eabfb35fa7a36834a64fd52b206f39609eabff1f9cc", func := "loop.example/g01044/laws.FnExactNeedlessStays", spec := "fnExactNeedlessStays", unfollowed := true, recurses := true, apart := false }
def FnExactNeedlessStaysSaid : Prop := fnExactNeedlessStaysRow.holds Try.pinned (OpenSpec.ofChange fnExactNeedlessStaysSpec)

/-- ITS FALSE NEIGHBOUR: 'it returns false'. Refute it at one input. -/
def fnExactNeedlessStaysWrong : ChangeSpec := { name := "fnExactNeedlessStays", fn := fun _ => fun
  | [d1, d2, d3] => { results := [.lit (.bool false)], args := [d1, d2, d3] }
  | _ => none }
def FnExactNeedlessStaysWrongFalsely : Prop := fnExactNeedlessStaysRow.holds Try.pinned (OpenSpec.ofChange fnExactNeedlessStaysWrong)

/-- 'laws.FnExactFewestStays': WHATEVER THE INPUT: true; the input reads as it did. -/
def fnExactFewestStaysSpec : ChangeSpec := { name := "fnExactFewestStays", fn := fun _ => fun
  | [d1, d2] => { results := [.lit (.bool true)], args := [d1, d2] }
  | _ => none }
def fnExactFewestStaysRow : OpenClaim := { program := "ytimjblgepbhoaaa", sum := "ac4f334db4bb31fc39647eabfb35fa7a36834a64fd52b206f39609eabff1f9cc", func := "loop.example/g01044/laws.FnExactFewestStays", spec := "fnExactFewestStays", unfollowed := true, recurses := true, apart := false }
def FnExactFewestStaysSaid : Prop := fnExactFewestStaysRow.holds Try.pinned (OpenSpec.ofChange fnExactFewestStaysSpec)

/-- ITS FALSE NEIGHBOUR: 'it returns false'. Refute it at one input. -/
def fnExactFewestStaysWrong : ChangeSpec := { name := "fnExactFewestStays", fn := fun _ => fun
  | [d1, d2] => { results := [.lit (.bool false)], args := [d1, d2] }
  | _ => none }
def FnExactFewestStaysWrongFalsely : Prop := fnExactFewestStaysRow.holds Try.pinned (OpenSpec.ofChange fnExactFewestStaysWrong)

/-- 'laws.FnExactNeededStays': WHATEVER THE INPUT: true; the input reads as it did. -/
def fnExactNeededStaysSpec : ChangeSpec := { name := "fnExactNeededStays", fn := fun _ => fun
  | [d1, d2] => { results := [.lit (.bool true)], args := [d1, d2] }
  | _ => none }
def fnExactNeededStaysRow : OpenClaim := { program := "ytimjblgepbhoaaa", sum := "ac4f334db4bb31fc39647eabfb35fa7a36834a64fd52b206f39609eabff1f9cc", func := "loop.example/g01044/laws.FnExactNeededStays", spec := "fnExactNeededStays", unfollowed := true, recurses := true, apart := false }
def FnExactNeededStaysSaid : Prop := fnExactNeededStaysRow.holds Try.pinned (OpenSpec.ofChange fnExactNeededStaysSpec)

/-- ITS FALSE NEIGHBOUR: 'it returns false'. Refute it at one input. -/
def fnExactNeededStaysWrong : ChangeSpec := { name := "fnExactNeededStays", fn := fun _ => fun
  | [d1, d2] => { results := [.lit (.bool false)], args := [d1, d2] }
  | _ => none }
def FnExactNeededStaysWrongFalsely : Prop := fnExactNeededStaysRow.holds Try.pinned (OpenSpec.ofChange fnExactNeededStaysWrong)

/-- 'laws.FnStays': WHATEVER THE INPUT: true; the input reads as it did. -/
def fnStaysSpec : ChangeSpec := { name := "fnStays", fn := fun _ => fun
  | [d] => { results := [.lit (.bool true)], args := [d] }
  | _ => none }
def fnStaysRow : OpenClaim := { program := "ytimjblgepbhoaaa", sum := "ac4f334db4bb31fc39647eabfb35fa7a36834a64fd52b206f39609eabff1f9cc", func := "loop.example/g01044/laws.FnStays", spec := "fnStays", unfollowed := true, recurses := true, apart := false }
def FnStaysSaid : Prop := fnStaysRow.holds Try.pinned (OpenSpec.ofChange fnStaysSpec)

/-- ITS FALSE NEIGHBOUR: 'it returns false'. Refute it at one input. -/
def fnStaysWrong : ChangeSpec := { name := "fnStays", fn := fun _ => fun
  | [d] => { results := [.lit (.bool false)], args := [d] }
  | _ => none }
def FnStaysWrongFalsely : Prop := fnStaysRow.holds Try.pinned (OpenSpec.ofChange fnStaysWrong)

/- THE SECOND FORM. 'bulk': how many values and letters a reading holds, each counted each time it is reached (what is shared counts as often as it is met; a slice's spare places count too). A statement '..UptoSaid' is the law's where the arguments, and the package variables that the reading takes, are together of bulk at most 1048576: NARROWER than '..Said'. Prove '..Said' where nothing that the law and all that it calls make is longer than what came in: it says more and counts as full. Else prove '..UptoSaid'. A law counts once. -/
mutual
def uptoBulk {H : Type} : DataW H → Nat
  | .lit (.string bytes) => bytes.length + 1
  | .lit _ => 1
  | .nil => 1
  | .ptr d => uptoBulk d + 1
  | .slice elems spare => uptoBulkAll elems + uptoBulkAll spare + 1
  | .agg parts => uptoBulkAll parts + 1
  | .iface _ d => uptoBulk d + 1
  | .map entries => uptoBulkEntries entries + 1
  | .held _ => 1
def uptoBulkAll {H : Type} : List (DataW H) → Nat
  | [] => 0
  | d :: r => uptoBulk d + uptoBulkAll r
def uptoBulkEntries {H : Type} : List (Lit × DataW H) → Nat
  | [] => 0
  | x :: r => uptoBulkEntry x + uptoBulkEntries r
def uptoBulkEntry {H : Type} : Lit × DataW H → Nat
  | (.string bytes, d) => bytes.length + uptoBulk d + 1
  | (_, d) => uptoBulk d + 1
 end
def uptoSmall : (H : Type) → List (DataW H) → Bool := fun _ ds => decide (uptoBulkAll ds ≤ 1048576)
def OpenSpec.upto (s : _root_.Go.ChangeSpec) : _root_.Go.OpenSpec := { _root_.Go.OpenSpec.ofChange s with cond := some uptoSmall }

/-- 'laws.FnHolding', WHERE WHAT IT READS IS OF BULK AT MOST 1048576: true; the input reads as it did. -/
def fnHoldingUptoRow : OpenClaim := { program := "ytimjblgepbhoaaa", sum := "ac4f334db4bb31fc39647eabfb35fa7a36834a64fd52b206f39609eabff1f9cc", func := "loop.example/g01044/laws.FnHolding", spec := "fnHolding", unfollowed := true, recurses := true, apart := false, narrowed := true }
def FnHoldingUptoSaid : Prop := fnHoldingUptoRow.holds Try.pinned (OpenSpec.upto fnHoldingSpec)

/-- 'laws.FnExactCanHold', WHERE WHAT IT READS IS OF BULK AT MOST 1048576: true; the input reads as it did. -/
def fnExactCanHoldUptoRow : OpenClaim := { program := "ytimjblgepbhoaaa", sum := "ac4f334db4bb31fc39647eabfb35fa7a36834a64fd52b206f39609eabff1f9cc", func := "loop.example/g01044/laws.FnExactCanHold", spec := "fnExactCanHold", unfollowed := true, recurses := true, apart := false, narrowed := true }
def FnExactCanHoldUptoSaid : Prop := fnExactCanHoldUptoRow.holds Try.pinned (OpenSpec.upto fnExactCanHoldSpec)

/-- 'laws.FnExactSlackenBars', WHERE WHAT IT READS IS OF BULK AT MOST 1048576: true; the input reads as it did. -/
def fnExactSlackenBarsUptoRow : OpenClaim := { program := "ytimjblgepbhoaaa", sum := "ac4f334db4bb31fc39647eabfb35fa7a36834a64fd52b206f39609eabff1f9cc", func := "loop.example/g01044/laws.FnExactSlackenBars", spec := "fnExactSlackenBars", apart := false, narrowed := true }
def FnExactSlackenBarsUptoSaid : Prop := fnExactSlackenBarsUptoRow.holds Try.pinned (OpenSpec.upto fnExactSlackenBarsSpec)

/-- 'laws.FnExactGreatestLoad', WHERE WHAT IT READS IS OF BULK AT MOST 1048576: true; the input reads as it did. -/
def fnExactGreatestLoadUptoRow : OpenClaim := { program := "ytimjblgepbhoaaa", sum := "ac4f334db4bb31fc39647eabfb35fa7a36834a64fd52b206f39609eabff1f9cc", func := "loop.example/g01044/laws.FnExactGreatestLoad", spec := "fnExactGreatestLoad", unfollowed := true, recurses := true, apart := false, narrowed := true }
def FnExactGreatestLoadUptoSaid : Prop := fnExactGreatestLoadUptoRow.holds Try.pinned (OpenSpec.upto fnExactGreatestLoadSpec)

/-- 'laws.FnExactHoldsAll', WHERE WHAT IT READS IS OF BULK AT MOST 1048576: true; the input reads as it did. -/
def fnExactHoldsAllUptoRow : OpenClaim := { program := "ytimjblgepbhoaaa", sum := "ac4f334db4bb31fc39647eabfb35fa7a36834a64fd52b206f39609eabff1f9cc", func := "loop.example/g01044/laws.FnExactHoldsAll", spec := "fnExactHoldsAll", unfollowed := true, recurses := true, apart := false, narrowed := true }
def FnExactHoldsAllUptoSaid : Prop := fnExactHoldsAllUptoRow.holds Try.pinned (OpenSpec.upto fnExactHoldsAllSpec)

/-- 'laws.FnExactHoldingBars', WHERE WHAT IT READS IS OF BULK AT MOST 1048576: true; the input reads as it did. -/
def fnExactHoldingBarsUptoRow : OpenClaim := { program := "ytimjblgepbhoaaa", sum := "ac4f334db4bb31fc39647eabfb35fa7a36834a64fd52b206f39609eabff1f9cc", func := "loop.example/g01044/laws.FnExactHoldingBars", spec := "fnExactHoldingBars", unfollowed := true, recurses := true, apart := false, narrowed := true }
def FnExactHoldingBarsUptoSaid : Prop := fnExactHoldingBarsUptoRow.holds Try.pinned (OpenSpec.upto fnExactHoldingBarsSpec)

/-- 'laws.FnExactFirstLooseWind', WHERE WHAT IT READS IS OF BULK AT MOST 1048576: true; the input reads as it did. -/
def fnExactFirstLooseWindUptoRow : OpenClaim := { program := "ytimjblgepbhoaaa", sum := "ac4f334db4bb31fc39647eabfb35fa7a36834a64fd52b206f39609eabff1f9cc", func := "loop.example/g01044/laws.FnExactFirstLooseWind", spec := "fnExactFirstLooseWind", unfollowed := true, recurses := true, apart := false, narrowed := true }
def FnExactFirstLooseWindUptoSaid : Prop := fnExactFirstLooseWindUptoRow.holds Try.pinned (OpenSpec.upto fnExactFirstLooseWindSpec)

/-- 'laws.FnExactHoldingDensities', WHERE WHAT IT READS IS OF BULK AT MOST 1048576: true; the input reads as it did. -/
def fnExactHoldingDensitiesUptoRow : OpenClaim := { program := "ytimjblgepbhoaaa", sum := "ac4f334db4bb31fc39647eabfb35fa7a36834a64fd52b206f39609eabff1f9cc", func := "loop.example/g01044/laws.FnExactHoldingDensities", spec := "fnExactHoldingDensities", unfollowed := true, recurses := true, apart := false, narrowed := true }
def FnExactHoldingDensitiesUptoSaid : Prop := fnExactHoldingDensitiesUptoRow.holds Try.pinned (OpenSpec.upto fnExactHoldingDensitiesSpec)

/-- 'laws.FnExactNeedlessStays', WHERE WHAT IT READS IS OF BULK AT MOST 1048576: true; the input reads as it did. -/
def fnExactNeedlessStaysUptoRow : OpenClaim := { program := "ytimjblgepbhoaaa", sum := "ac4f334db4bb31fc39647eabfb35fa7a36834a64fd52b206f39609eabff1f9cc", func := "loop.example/g01044/laws.FnExactNeedlessStays", spec := "fnExactNeedlessStays", unfollowed := true, recurses := true, apart := false, narrowed := true }
def FnExactNeedlessStaysUptoSaid : Prop := fnExactNeedlessStaysUptoRow.holds Try.pinned (OpenSpec.upto fnExactNeedlessStaysSpec)

/-- 'laws.FnExactFewestStays', WHERE WHAT IT READS IS OF BULK AT MOST 1048576: true; the input reads as it did. -/
def fnExactFewestStaysUptoRow : OpenClaim := { program := "ytimjblgepbhoaaa", sum := "ac4f334db4bb31fc39647eabfb35fa7a36834a64fd52b206f39609eabff1f9cc", func := "loop.example/g01044/laws.FnExactFewestStays", spec := "fnExactFewestStays", unfollowed := true, recurses := true, apart := false, narrowed := true }
def FnExactFewestStaysUptoSaid : Prop := fnExactFewestStaysUptoRow.holds Try.pinned (OpenSpec.upto fnExactFewestStaysSpec)

/-- 'laws.FnExactNeededStays', WHERE WHAT IT READS IS OF BULK AT MOST 1048576: true; the input reads as it did. -/
def fnExactNeededStaysUptoRow : OpenClaim := { program := "ytimjblgepbhoaaa", sum := "ac4f334db4bb31fc39647eabfb35fa7a36834a64fd52b206f39609eabff1f9cc", func := "loop.example/g01044/laws.FnExactNeededStays", spec := "fnExactNeededStays", unfollowed := true, recurses := true, apart := false, narrowed := true }
def FnExactNeededStaysUptoSaid : Prop := fnExactNeededStaysUptoRow.holds Try.pinned (OpenSpec.upto fnExactNeededStaysSpec)

/-- 'laws.FnStays', WHERE WHAT IT READS IS OF BULK AT MOST 1048576: true; the input reads as it did. -/
def fnStaysUptoRow : OpenClaim := { program := "ytimjblgepbhoaaa", sum := "ac4f334db4bb31fc39647eabfb35fa7a36834a64fd52b206f39609eabff1f9cc", func := "loop.example/g01044/laws.FnStays", spec := "fnStays", unfollowed := true, recurses := true, apart := false, narrowed := true }
def FnStaysUptoSaid : Prop := fnStaysUptoRow.holds Try.pinned (OpenSpec.upto fnStaysSpec)

end Rows
end Go.Proofs.Ytimjblgepbhoaaa
