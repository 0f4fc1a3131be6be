/-
  DERIVED. GIVEN WITH THE SEED: THE CARDS: each row of YtinldhphnpflaaaGreatDoorRows.lean that lists a variable, with what it lists TIED to the program's text (the seventh form; the later family's looks); each row that meets fmt, with fmt's text TOLD by the authors' own Lean function (tested against real Go, not proved from fmt's source: count such statements apart). THE CARD IS WHAT COUNTS. Prove the row's statement (the work); the ties are given (YtinldhphnpflaaaGreatDoorTie.lean); close each card by the builder's one call (the guide's Derived/Test/ToyasCard.lean, 'card_holds'). Laid BY PROGRAM, IN A SANDBOX (cutbox-door.mjs). By AI agents, Wed Nov 11 2026. No macro, syntax, notation, axiom, sorry.
-/
import Derived.Test.YtinldhphnpflaaaGreatDoorRows
import GoSem.ClaimSeven
namespace Go.Proofs.YtinldhphnpflaaaGreatDoor
namespace Rows

/-- THE TIED CARD OF 'yardsticklaw16.DecideGuarded'. -/
def decideGuardedCard : Claim7 := { stood := { row := decideGuardedRow, standIns := [], harness := (true, "77c8e135377799a2ef72287f827f7b24e1eb72c0d231003f72a425c0accfeee4"), looks := true }, kinds := [], alts := [], laidByText := true, laidKinds := [.data, .data, .data, .data, .sentinel, .sentinel, .sentinel, .pinned], laidTests := true, laidLooks := .later }
def DecideGuardedCardSaid : Prop := Claim7.holds Tryz.pinned (.plain (OpenSpec.ofChange decideGuardedSpec)) decideGuardedCard

/-- THE SECOND FORM's CARD OF 'yardsticklaw16.DecideGuarded'. -/
def decideGuardedUptoCard : Claim7 := { stood := { row := decideGuardedUptoRow, standIns := [], harness := (true, "77c8e135377799a2ef72287f827f7b24e1eb72c0d231003f72a425c0accfeee4"), looks := true }, kinds := [], alts := [], laidByText := true, laidKinds := [.data, .data, .data, .data, .sentinel, .sentinel, .sentinel, .pinned], laidTests := true, laidLooks := .later }
def DecideGuardedUptoCardSaid : Prop := Claim7.holds Tryz.pinned (.plain (OpenSpec.upto decideGuardedSpec)) decideGuardedUptoCard
end Rows
end Go.Proofs.YtinldhphnpflaaaGreatDoor
