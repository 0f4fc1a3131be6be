/-
  DERIVED. GIVEN WITH THE SEED: THE CARDS: each row of YthpinljhfnodeaaGreatDoorRows.lean that lists a variable, with what it lists TIED to the program's text (the seventh form; the later family's looks); each row that meets fmt, with fmt's text TOLD by the authors' own Lean function (tested against real Go, not proved from fmt's source: count such statements apart). THE CARD IS WHAT COUNTS. Prove the row's statement (the work); the ties are given (YthpinljhfnodeaaGreatDoorTie.lean); close each card by the builder's one call (the guide's Derived/Test/ToyasCard.lean, 'card_holds'). Laid BY PROGRAM, IN A SANDBOX (cutbox-door.mjs). By AI agents, Wed Nov 11 2026. No macro, syntax, notation, axiom, sorry.
-/
import Derived.Test.YthpinljhfnodeaaGreatDoorRows
import GoSem.ClaimSeven
namespace Go.Proofs.YthpinljhfnodeaaGreatDoor
namespace Rows

/-- THE TIED CARD OF 'yardsticklaw15.RiskIntegralsMatchReference'. -/
def riskIntegralsMatchReferenceCard : Claim7 := { stood := { row := riskIntegralsMatchReferenceRow, standIns := [], harness := (true, "227f22d5e2cf16ff76b6678830a01a95b4c6683d73854d1968eb0156927987b4"), looks := true }, kinds := [], alts := [], laidByText := true, laidKinds := [.data, .data, .data, .data, .sentinel, .sentinel, .sentinel, .pinned], laidTests := true, laidLooks := .later }
def RiskIntegralsMatchReferenceCardSaid : Prop := Claim7.holds Tryz.pinned (.plain (OpenSpec.ofChange riskIntegralsMatchReferenceSpec)) riskIntegralsMatchReferenceCard

/-- THE SECOND FORM's CARD OF 'yardsticklaw15.RiskIntegralsMatchReference'. -/
def riskIntegralsMatchReferenceUptoCard : Claim7 := { stood := { row := riskIntegralsMatchReferenceUptoRow, standIns := [], harness := (true, "227f22d5e2cf16ff76b6678830a01a95b4c6683d73854d1968eb0156927987b4"), looks := true }, kinds := [], alts := [], laidByText := true, laidKinds := [.data, .data, .data, .data, .sentinel, .sentinel, .sentinel, .pinned], laidTests := true, laidLooks := .later }
def RiskIntegralsMatchReferenceUptoCardSaid : Prop := Claim7.holds Tryz.pinned (.plain (OpenSpec.upto riskIntegralsMatchReferenceSpec)) riskIntegralsMatchReferenceUptoCard
end Rows
end Go.Proofs.YthpinljhfnodeaaGreatDoor
