/-
  DERIVED. GIVEN WITH THE SEED: THE CARDS: each row of YtdmhligiipjchaaGreatDoorRows.lean that lists a variable, with what it lists TIED to the program's text (the seventh form; the later family's looks); each row that meets fmt, with fmt's text TOLD by the authors' own Lean function (tested against real Go, not proved from fmt's source: count such statements apart). THE CARD IS WHAT COUNTS. Prove the row's statement (the work); the ties are given (YtdmhligiipjchaaGreatDoorTie.lean); close each card by the builder's one call (the guide's Derived/Test/ToyasCard.lean, 'card_holds'). Laid BY PROGRAM, IN A SANDBOX (cutbox-door.mjs). By AI agents, Wed Nov 11 2026. No macro, syntax, notation, axiom, sorry.
-/
import Derived.Test.YtdmhligiipjchaaGreatDoorRows
import GoSem.ClaimSeven
namespace Go.Proofs.YtdmhligiipjchaaGreatDoor
namespace Rows

/-- THE TIED CARD OF 'yardsticklaw13.LinearMatchesReference'. -/
def linearMatchesReferenceCard : Claim7 := { stood := { row := linearMatchesReferenceRow, standIns := [], harness := (true, "a838cad622e10b3f07372c328cb99379d8369e43f410957b284743b99d527da5"), looks := true }, kinds := [], alts := [], laidByText := true, laidKinds := [.data, .data, .data, .data, .sentinel, .sentinel, .pinned], laidTests := true, laidLooks := .later }
def LinearMatchesReferenceCardSaid : Prop := Claim7.holds Tryz.pinned (.plain (OpenSpec.ofChange linearMatchesReferenceSpec)) linearMatchesReferenceCard

/-- THE SECOND FORM's CARD OF 'yardsticklaw13.LinearMatchesReference'. -/
def linearMatchesReferenceUptoCard : Claim7 := { stood := { row := linearMatchesReferenceUptoRow, standIns := [], harness := (true, "a838cad622e10b3f07372c328cb99379d8369e43f410957b284743b99d527da5"), looks := true }, kinds := [], alts := [], laidByText := true, laidKinds := [.data, .data, .data, .data, .sentinel, .sentinel, .pinned], laidTests := true, laidLooks := .later }
def LinearMatchesReferenceUptoCardSaid : Prop := Claim7.holds Tryz.pinned (.plain (OpenSpec.upto linearMatchesReferenceSpec)) linearMatchesReferenceUptoCard
end Rows
end Go.Proofs.YtdmhligiipjchaaGreatDoor
