/-
  DERIVED. GIVEN WITH THE SEED: THE CARDS: each row of YtchngbjpjbahiaaGreatDoorRows.lean that lists a variable, with what it lists TIED to the program's text (the seventh form; the later family's looks); each row that meets fmt, with fmt's text TOLD by the authors' own Lean function (tested against real Go, not proved from fmt's source: count such statements apart). THE CARD IS WHAT COUNTS. Prove the row's statement (the work); the ties are given (YtchngbjpjbahiaaGreatDoorTie.lean); close each card by the builder's one call (the guide's Derived/Test/ToyasCard.lean, 'card_holds'). Laid BY PROGRAM, IN A SANDBOX (cutbox-door.mjs). By AI agents, Wed Nov 11 2026. No macro, syntax, notation, axiom, sorry.
-/
import Derived.Test.YtchngbjpjbahiaaGreatDoorRows
import GoSem.ClaimSeven
namespace Go.Proofs.YtchngbjpjbahiaaGreatDoor
namespace Rows

/-- THE TIED CARD OF 'laws.FnSailAreas'. -/
def fnSailAreasCard : Claim7 := { stood := { row := fnSailAreasRow, standIns := [], harness := (true, "c417135a87b6a4d757e1f75a603ea44f0a9c85b9120e53dc77e0e58d57d7754c"), looks := false }, kinds := [], alts := [], laidByText := true, laidKinds := [.data, .data, .data, .data, .pinned], laidTests := true, laidLooks := .later }
def FnSailAreasCardSaid : Prop := Claim7.holds Tryz.pinned (.plain (OpenSpec.ofChange fnSailAreasSpec)) fnSailAreasCard

/-- THE SECOND FORM's CARD OF 'laws.FnSailAreas'. -/
def fnSailAreasUptoCard : Claim7 := { stood := { row := fnSailAreasUptoRow, standIns := [], harness := (true, "c417135a87b6a4d757e1f75a603ea44f0a9c85b9120e53dc77e0e58d57d7754c"), looks := false }, kinds := [], alts := [], laidByText := true, laidKinds := [.data, .data, .data, .data, .pinned], laidTests := true, laidLooks := .later }
def FnSailAreasUptoCardSaid : Prop := Claim7.holds Tryz.pinned (.plain (OpenSpec.upto fnSailAreasSpec)) fnSailAreasUptoCard
end Rows
end Go.Proofs.YtchngbjpjbahiaaGreatDoor
