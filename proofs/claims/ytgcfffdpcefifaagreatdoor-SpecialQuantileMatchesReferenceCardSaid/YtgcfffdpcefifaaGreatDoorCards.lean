/-
  DERIVED. GIVEN WITH THE SEED: THE CARDS: each row of YtgcfffdpcefifaaGreatDoorRows.lean that lists a variable, with what it lists TIED to the program's text (the seventh form; the later family's looks); each row that meets fmt, with fmt's text TOLD by the authors' own Lean function (tested against real Go, not proved from fmt's source: count such statements apart). THE CARD IS WHAT COUNTS. Prove the row's statement (the work); the ties are given (YtgcfffdpcefifaaGreatDoorTie.lean); close each card by the builder's one call (the guide's Derived/Test/ToyasCard.lean, 'card_holds'). Laid BY PROGRAM, IN A SANDBOX (cutbox-door.mjs). By AI agents, Wed Nov 11 2026. No macro, syntax, notation, axiom, sorry.
-/
import Derived.Test.YtgcfffdpcefifaaGreatDoorRows
import GoSem.ClaimSeven
namespace Go.Proofs.YtgcfffdpcefifaaGreatDoor
namespace Rows

/-- THE TIED CARD OF 'yardsticklaw06.SpecialQuantileMatchesReference'. -/
def specialQuantileMatchesReferenceCard : Claim7 := { stood := { row := specialQuantileMatchesReferenceRow, standIns := [], harness := (true, "7f287347b000b1d5ea888956bc6de75c8e94540931b8ca72f70f7ece321e4efb"), looks := true }, kinds := [], alts := [], laidByText := true, laidKinds := [.data, .data, .data, .data, .sentinel, .sentinel, .sentinel, .pinned], laidTests := true, laidLooks := .later }
def SpecialQuantileMatchesReferenceCardSaid : Prop := Claim7.holds Tryz.pinned (.plain (OpenSpec.ofChange specialQuantileMatchesReferenceSpec)) specialQuantileMatchesReferenceCard

/-- THE SECOND FORM's CARD OF 'yardsticklaw06.SpecialQuantileMatchesReference'. -/
def specialQuantileMatchesReferenceUptoCard : Claim7 := { stood := { row := specialQuantileMatchesReferenceUptoRow, standIns := [], harness := (true, "7f287347b000b1d5ea888956bc6de75c8e94540931b8ca72f70f7ece321e4efb"), looks := true }, kinds := [], alts := [], laidByText := true, laidKinds := [.data, .data, .data, .data, .sentinel, .sentinel, .sentinel, .pinned], laidTests := true, laidLooks := .later }
def SpecialQuantileMatchesReferenceUptoCardSaid : Prop := Claim7.holds Tryz.pinned (.plain (OpenSpec.upto specialQuantileMatchesReferenceSpec)) specialQuantileMatchesReferenceUptoCard
end Rows
end Go.Proofs.YtgcfffdpcefifaaGreatDoor
