/-
  DERIVED. GIVEN WITH THE SEED: THE CARDS: each row of YtonigegpknhdnaaGreatDoorRows.lean that lists a variable, with what it lists TIED to the program's text (the seventh form; the later family's looks); each row that meets fmt, with fmt's text TOLD by the authors' own Lean function (tested against real Go, not proved from fmt's source: count such statements apart). THE CARD IS WHAT COUNTS. Prove the row's statement (the work); the ties are given (YtonigegpknhdnaaGreatDoorTie.lean); close each card by the builder's one call (the guide's Derived/Test/ToyasCard.lean, 'card_holds'). Laid BY PROGRAM, IN A SANDBOX (cutbox-door.mjs). By AI agents, Wed Nov 11 2026. No macro, syntax, notation, axiom, sorry.
-/
import Derived.Test.YtonigegpknhdnaaGreatDoorRows
import GoSem.ClaimSeven
namespace Go.Proofs.YtonigegpknhdnaaGreatDoor
namespace Rows

/-- THE TIED CARD OF 'yardsticklaw16.DecideConsistent'. -/
def decideConsistentCard : Claim7 := { stood := { row := decideConsistentRow, standIns := [], harness := (true, "8128fb512618068e838026fc636d787b7392a04c67bf829eecf38fe6e5f6b859"), looks := true }, kinds := [], alts := [], laidByText := true, laidKinds := [.data, .data, .data, .data, .sentinel, .sentinel, .sentinel, .pinned], laidTests := true, laidLooks := .later }
def DecideConsistentCardSaid : Prop := Claim7.holds Tryz.pinned (.plain (OpenSpec.ofChange decideConsistentSpec)) decideConsistentCard

/-- THE TIED CARD OF 'yardsticklaw16.DecideMonotone'. -/
def decideMonotoneCard : Claim7 := { stood := { row := decideMonotoneRow, standIns := [], harness := (true, "8128fb512618068e838026fc636d787b7392a04c67bf829eecf38fe6e5f6b859"), looks := true }, kinds := [], alts := [], laidByText := true, laidKinds := [.data, .data, .data, .data, .sentinel, .sentinel, .sentinel, .pinned], laidTests := true, laidLooks := .later }
def DecideMonotoneCardSaid : Prop := Claim7.holds Tryz.pinned (.plain (OpenSpec.ofChange decideMonotoneSpec)) decideMonotoneCard

/-- THE TIED CARD OF 'yardsticklaw16.DecideScaled'. -/
def decideScaledCard : Claim7 := { stood := { row := decideScaledRow, standIns := [], harness := (true, "8128fb512618068e838026fc636d787b7392a04c67bf829eecf38fe6e5f6b859"), looks := true }, kinds := [], alts := [], laidByText := true, laidKinds := [.data, .data, .data, .data, .sentinel, .sentinel, .sentinel, .pinned], laidTests := true, laidLooks := .later }
def DecideScaledCardSaid : Prop := Claim7.holds Tryz.pinned (.plain (OpenSpec.ofChange decideScaledSpec)) decideScaledCard

/-- THE TIED CARD OF 'yardsticklaw16.DecideOutside'. -/
def decideOutsideCard : Claim7 := { stood := { row := decideOutsideRow, standIns := [], harness := (true, "8128fb512618068e838026fc636d787b7392a04c67bf829eecf38fe6e5f6b859"), looks := true }, kinds := [], alts := [], laidByText := true, laidKinds := [.data, .data, .data, .data, .sentinel, .sentinel, .sentinel, .pinned], laidTests := true, laidLooks := .later }
def DecideOutsideCardSaid : Prop := Claim7.holds Tryz.pinned (.plain (OpenSpec.ofChange decideOutsideSpec)) decideOutsideCard

/-- THE TIED CARD OF 'yardsticklaw16.DecideProved'. -/
def decideProvedCard : Claim7 := { stood := { row := decideProvedRow, standIns := [], harness := (true, "8128fb512618068e838026fc636d787b7392a04c67bf829eecf38fe6e5f6b859"), looks := true }, kinds := [], alts := [], laidByText := true, laidKinds := [.data, .data, .data, .data, .sentinel, .sentinel, .sentinel, .pinned], laidTests := true, laidLooks := .later }
def DecideProvedCardSaid : Prop := Claim7.holds Tryz.pinned (.plain (OpenSpec.ofChange decideProvedSpec)) decideProvedCard

/-- THE SECOND FORM's CARD OF 'yardsticklaw16.DecideConsistent'. -/
def decideConsistentUptoCard : Claim7 := { stood := { row := decideConsistentUptoRow, standIns := [], harness := (true, "8128fb512618068e838026fc636d787b7392a04c67bf829eecf38fe6e5f6b859"), looks := true }, kinds := [], alts := [], laidByText := true, laidKinds := [.data, .data, .data, .data, .sentinel, .sentinel, .sentinel, .pinned], laidTests := true, laidLooks := .later }
def DecideConsistentUptoCardSaid : Prop := Claim7.holds Tryz.pinned (.plain (OpenSpec.upto decideConsistentSpec)) decideConsistentUptoCard

/-- THE SECOND FORM's CARD OF 'yardsticklaw16.DecideMonotone'. -/
def decideMonotoneUptoCard : Claim7 := { stood := { row := decideMonotoneUptoRow, standIns := [], harness := (true, "8128fb512618068e838026fc636d787b7392a04c67bf829eecf38fe6e5f6b859"), looks := true }, kinds := [], alts := [], laidByText := true, laidKinds := [.data, .data, .data, .data, .sentinel, .sentinel, .sentinel, .pinned], laidTests := true, laidLooks := .later }
def DecideMonotoneUptoCardSaid : Prop := Claim7.holds Tryz.pinned (.plain (OpenSpec.upto decideMonotoneSpec)) decideMonotoneUptoCard

/-- THE SECOND FORM's CARD OF 'yardsticklaw16.DecideScaled'. -/
def decideScaledUptoCard : Claim7 := { stood := { row := decideScaledUptoRow, standIns := [], harness := (true, "8128fb512618068e838026fc636d787b7392a04c67bf829eecf38fe6e5f6b859"), looks := true }, kinds := [], alts := [], laidByText := true, laidKinds := [.data, .data, .data, .data, .sentinel, .sentinel, .sentinel, .pinned], laidTests := true, laidLooks := .later }
def DecideScaledUptoCardSaid : Prop := Claim7.holds Tryz.pinned (.plain (OpenSpec.upto decideScaledSpec)) decideScaledUptoCard

/-- THE SECOND FORM's CARD OF 'yardsticklaw16.DecideOutside'. -/
def decideOutsideUptoCard : Claim7 := { stood := { row := decideOutsideUptoRow, standIns := [], harness := (true, "8128fb512618068e838026fc636d787b7392a04c67bf829eecf38fe6e5f6b859"), looks := true }, kinds := [], alts := [], laidByText := true, laidKinds := [.data, .data, .data, .data, .sentinel, .sentinel, .sentinel, .pinned], laidTests := true, laidLooks := .later }
def DecideOutsideUptoCardSaid : Prop := Claim7.holds Tryz.pinned (.plain (OpenSpec.upto decideOutsideSpec)) decideOutsideUptoCard

/-- THE SECOND FORM's CARD OF 'yardsticklaw16.DecideProved'. -/
def decideProvedUptoCard : Claim7 := { stood := { row := decideProvedUptoRow, standIns := [], harness := (true, "8128fb512618068e838026fc636d787b7392a04c67bf829eecf38fe6e5f6b859"), looks := true }, kinds := [], alts := [], laidByText := true, laidKinds := [.data, .data, .data, .data, .sentinel, .sentinel, .sentinel, .pinned], laidTests := true, laidLooks := .later }
def DecideProvedUptoCardSaid : Prop := Claim7.holds Tryz.pinned (.plain (OpenSpec.upto decideProvedSpec)) decideProvedUptoCard
end Rows
end Go.Proofs.YtonigegpknhdnaaGreatDoor
