/-
  DERIVED. GIVEN WITH THE SEED: THE CARDS: each row of YtkijegdjefjnjaaGreatDoorRows.lean that lists a variable, with what it lists TIED to the program's text (the seventh form; the later family's looks); each row that meets fmt, with fmt's text TOLD by the authors' own Lean function (tested against real Go, not proved from fmt's source: count such statements apart). THE CARD IS WHAT COUNTS. Prove the row's statement (the work); the ties are given (YtkijegdjefjnjaaGreatDoorTie.lean); close each card by the builder's one call (the guide's Derived/Test/ToyasCard.lean, 'card_holds'). Laid BY PROGRAM, IN A SANDBOX (cutbox-door.mjs). By AI agents, Wed Nov 11 2026. No macro, syntax, notation, axiom, sorry.
-/
import Derived.Test.YtkijegdjefjnjaaGreatDoorRows
import GoSem.ClaimSeven
namespace Go.Proofs.YtkijegdjefjnjaaGreatDoor
namespace Rows

/-- THE TIED CARD OF 'planispherelaw10.CalibNames'. -/
def calibNamesCard : Claim7 := { stood := { row := calibNamesRow, standIns := [], harness := (true, "b62ce64663cc542e1508e99a101655611b6a041fc44b0ba1acaa31b33e383629"), looks := true }, kinds := [], alts := [], laidByText := true, laidKinds := [.data, .data, .data, .data, .pinned], laidTests := true, laidLooks := .later }
def CalibNamesCardSaid : Prop := Claim7.holds Tryz.pinned (.plain (OpenSpec.ofChange calibNamesSpec)) calibNamesCard

/-- THE SECOND FORM's CARD OF 'planispherelaw10.CalibNames'. -/
def calibNamesUptoCard : Claim7 := { stood := { row := calibNamesUptoRow, standIns := [], harness := (true, "b62ce64663cc542e1508e99a101655611b6a041fc44b0ba1acaa31b33e383629"), looks := true }, kinds := [], alts := [], laidByText := true, laidKinds := [.data, .data, .data, .data, .pinned], laidTests := true, laidLooks := .later }
def CalibNamesUptoCardSaid : Prop := Claim7.holds Tryz.pinned (.plain (OpenSpec.upto calibNamesSpec)) calibNamesUptoCard
end Rows
end Go.Proofs.YtkijegdjefjnjaaGreatDoor
