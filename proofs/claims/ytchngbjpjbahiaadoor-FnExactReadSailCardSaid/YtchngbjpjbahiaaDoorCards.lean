/-
  DERIVED. GIVEN WITH THE SEED: THE CARDS: each row of YtchngbjpjbahiaaDoorRows.lean that lists a variable, with what it lists TIED to the program's text (the seventh form; the later family's looks); each row that meets fmt, with fmt's text TOLD by the authors' own Lean function (tested against real Go, not proved from fmt's source: count such statements apart). THE CARD IS WHAT COUNTS. Prove the row's statement (the work); the ties are given (YtchngbjpjbahiaaDoorTie.lean); close each card by the builder's one call (the guide's Derived/Test/ToyasCard.lean, 'card_holds'). Laid BY PROGRAM, IN A SANDBOX (cutbox-door.mjs). By AI agents, Wed Nov 11 2026. No macro, syntax, notation, axiom, sorry.
-/
import Derived.Test.YtchngbjpjbahiaaDoorRows
import GoSem.ClaimSeven
namespace Go.Proofs.YtchngbjpjbahiaaDoor
namespace Rows

/-- THE TIED CARD OF 'laws.FnExactSailText'. -/
def fnExactSailTextCard : Claim7 := { stood := { row := fnExactSailTextRow, standIns := [], harness := (true, "7290128b9f7e0b2e0be21e1be6809f557d096870184265446b010072de73c0bb"), looks := false }, kinds := [], alts := [], laidByText := true, laidKinds := [.data, .data, .data], laidTests := true, laidLooks := .later }
def FnExactSailTextCardSaid : Prop := Claim7.holds Tryd.pinned (.plain (OpenSpec.ofChange fnExactSailTextSpec)) fnExactSailTextCard

/-- THE TIED CARD OF 'laws.FnExactReadSail'. -/
def fnExactReadSailCard : Claim7 := { stood := { row := fnExactReadSailRow, standIns := [], harness := (true, "7290128b9f7e0b2e0be21e1be6809f557d096870184265446b010072de73c0bb"), looks := false }, kinds := [], alts := [], laidByText := true, laidKinds := [.data, .data, .data, .data, .pinned], laidTests := true, laidLooks := .later }
def FnExactReadSailCardSaid : Prop := Claim7.holds Tryd.pinned (.plain (OpenSpec.ofChange fnExactReadSailSpec)) fnExactReadSailCard

/-- THE SECOND FORM's CARD OF 'laws.FnExactSailText'. -/
def fnExactSailTextUptoCard : Claim7 := { stood := { row := fnExactSailTextUptoRow, standIns := [], harness := (true, "7290128b9f7e0b2e0be21e1be6809f557d096870184265446b010072de73c0bb"), looks := false }, kinds := [], alts := [], laidByText := true, laidKinds := [.data, .data, .data], laidTests := true, laidLooks := .later }
def FnExactSailTextUptoCardSaid : Prop := Claim7.holds Tryd.pinned (.plain (OpenSpec.upto fnExactSailTextSpec)) fnExactSailTextUptoCard

/-- THE SECOND FORM's CARD OF 'laws.FnExactReadSail'. -/
def fnExactReadSailUptoCard : Claim7 := { stood := { row := fnExactReadSailUptoRow, standIns := [], harness := (true, "7290128b9f7e0b2e0be21e1be6809f557d096870184265446b010072de73c0bb"), looks := false }, kinds := [], alts := [], laidByText := true, laidKinds := [.data, .data, .data, .data, .pinned], laidTests := true, laidLooks := .later }
def FnExactReadSailUptoCardSaid : Prop := Claim7.holds Tryd.pinned (.plain (OpenSpec.upto fnExactReadSailSpec)) fnExactReadSailUptoCard
end Rows
end Go.Proofs.YtchngbjpjbahiaaDoor
