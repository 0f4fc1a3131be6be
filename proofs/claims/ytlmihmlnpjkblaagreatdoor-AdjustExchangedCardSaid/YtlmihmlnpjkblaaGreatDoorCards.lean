/-
  DERIVED. GIVEN WITH THE SEED: THE CARDS: each row of YtlmihmlnpjkblaaGreatDoorRows.lean that lists a variable, with what it lists TIED to the program's text (the seventh form; the later family's looks); each row that meets fmt, with fmt's text TOLD by the authors' own Lean function (tested against real Go, not proved from fmt's source: count such statements apart). THE CARD IS WHAT COUNTS. Prove the row's statement (the work); the ties are given (YtlmihmlnpjkblaaGreatDoorTie.lean); close each card by the builder's one call (the guide's Derived/Test/ToyasCard.lean, 'card_holds'). Laid BY PROGRAM, IN A SANDBOX (cutbox-door.mjs). By AI agents, Wed Nov 11 2026. No macro, syntax, notation, axiom, sorry.
-/
import Derived.Test.YtlmihmlnpjkblaaGreatDoorRows
import GoSem.ClaimSeven
namespace Go.Proofs.YtlmihmlnpjkblaaGreatDoor
namespace Rows

/-- THE TIED CARD OF 'yardsticklaw14.AdjustScaled'. -/
def adjustScaledCard : Claim7 := { stood := { row := adjustScaledRow, standIns := [], harness := (true, "34815ec5d82b391dc384656a681cf5d0d46628e25bea1cb3c065010962aef233"), looks := true }, kinds := [], alts := [], laidByText := true, laidKinds := [.data, .data, .data, .data, .sentinel, .sentinel, .sentinel, .sentinel, .pinned], laidTests := true, laidLooks := .later }
def AdjustScaledCardSaid : Prop := Claim7.holds Tryz.pinned (.plain (OpenSpec.ofChange adjustScaledSpec)) adjustScaledCard

/-- THE TIED CARD OF 'yardsticklaw14.AdjustExchanged'. -/
def adjustExchangedCard : Claim7 := { stood := { row := adjustExchangedRow, standIns := [], harness := (true, "34815ec5d82b391dc384656a681cf5d0d46628e25bea1cb3c065010962aef233"), looks := true }, kinds := [], alts := [], laidByText := true, laidKinds := [.data, .data, .data, .data, .sentinel, .sentinel, .sentinel, .sentinel, .pinned], laidTests := true, laidLooks := .later }
def AdjustExchangedCardSaid : Prop := Claim7.holds Tryz.pinned (.plain (OpenSpec.ofChange adjustExchangedSpec)) adjustExchangedCard

/-- THE TIED CARD OF 'yardsticklaw14.AdjustLevels'. -/
def adjustLevelsCard : Claim7 := { stood := { row := adjustLevelsRow, standIns := [], harness := (true, "34815ec5d82b391dc384656a681cf5d0d46628e25bea1cb3c065010962aef233"), looks := true }, kinds := [], alts := [], laidByText := true, laidKinds := [.data, .data, .data, .data, .sentinel, .sentinel, .sentinel, .sentinel, .pinned], laidTests := true, laidLooks := .later }
def AdjustLevelsCardSaid : Prop := Claim7.holds Tryz.pinned (.plain (OpenSpec.ofChange adjustLevelsSpec)) adjustLevelsCard

/-- THE TIED CARD OF 'yardsticklaw14.AdjustLargest'. -/
def adjustLargestCard : Claim7 := { stood := { row := adjustLargestRow, standIns := [], harness := (true, "34815ec5d82b391dc384656a681cf5d0d46628e25bea1cb3c065010962aef233"), looks := true }, kinds := [], alts := [], laidByText := true, laidKinds := [.data, .data, .data, .data, .sentinel, .sentinel, .sentinel, .sentinel, .pinned], laidTests := true, laidLooks := .later }
def AdjustLargestCardSaid : Prop := Claim7.holds Tryz.pinned (.plain (OpenSpec.ofChange adjustLargestSpec)) adjustLargestCard

/-- THE TIED CARD OF 'yardsticklaw14.AdjustLeast'. -/
def adjustLeastCard : Claim7 := { stood := { row := adjustLeastRow, standIns := [], harness := (true, "34815ec5d82b391dc384656a681cf5d0d46628e25bea1cb3c065010962aef233"), looks := true }, kinds := [], alts := [], laidByText := true, laidKinds := [.data, .data, .data, .data, .sentinel, .sentinel, .sentinel, .sentinel, .pinned], laidTests := true, laidLooks := .later }
def AdjustLeastCardSaid : Prop := Claim7.holds Tryz.pinned (.plain (OpenSpec.ofChange adjustLeastSpec)) adjustLeastCard

/-- THE TIED CARD OF 'yardsticklaw14.AdjustExact'. -/
def adjustExactCard : Claim7 := { stood := { row := adjustExactRow, standIns := [], harness := (true, "34815ec5d82b391dc384656a681cf5d0d46628e25bea1cb3c065010962aef233"), looks := true }, kinds := [], alts := [], laidByText := true, laidKinds := [.data, .data, .data, .data, .sentinel, .sentinel, .sentinel, .sentinel, .pinned], laidTests := true, laidLooks := .later }
def AdjustExactCardSaid : Prop := Claim7.holds Tryz.pinned (.plain (OpenSpec.ofChange adjustExactSpec)) adjustExactCard

/-- THE SECOND FORM's CARD OF 'yardsticklaw14.AdjustScaled'. -/
def adjustScaledUptoCard : Claim7 := { stood := { row := adjustScaledUptoRow, standIns := [], harness := (true, "34815ec5d82b391dc384656a681cf5d0d46628e25bea1cb3c065010962aef233"), looks := true }, kinds := [], alts := [], laidByText := true, laidKinds := [.data, .data, .data, .data, .sentinel, .sentinel, .sentinel, .sentinel, .pinned], laidTests := true, laidLooks := .later }
def AdjustScaledUptoCardSaid : Prop := Claim7.holds Tryz.pinned (.plain (OpenSpec.upto adjustScaledSpec)) adjustScaledUptoCard

/-- THE SECOND FORM's CARD OF 'yardsticklaw14.AdjustExchanged'. -/
def adjustExchangedUptoCard : Claim7 := { stood := { row := adjustExchangedUptoRow, standIns := [], harness := (true, "34815ec5d82b391dc384656a681cf5d0d46628e25bea1cb3c065010962aef233"), looks := true }, kinds := [], alts := [], laidByText := true, laidKinds := [.data, .data, .data, .data, .sentinel, .sentinel, .sentinel, .sentinel, .pinned], laidTests := true, laidLooks := .later }
def AdjustExchangedUptoCardSaid : Prop := Claim7.holds Tryz.pinned (.plain (OpenSpec.upto adjustExchangedSpec)) adjustExchangedUptoCard

/-- THE SECOND FORM's CARD OF 'yardsticklaw14.AdjustLevels'. -/
def adjustLevelsUptoCard : Claim7 := { stood := { row := adjustLevelsUptoRow, standIns := [], harness := (true, "34815ec5d82b391dc384656a681cf5d0d46628e25bea1cb3c065010962aef233"), looks := true }, kinds := [], alts := [], laidByText := true, laidKinds := [.data, .data, .data, .data, .sentinel, .sentinel, .sentinel, .sentinel, .pinned], laidTests := true, laidLooks := .later }
def AdjustLevelsUptoCardSaid : Prop := Claim7.holds Tryz.pinned (.plain (OpenSpec.upto adjustLevelsSpec)) adjustLevelsUptoCard

/-- THE SECOND FORM's CARD OF 'yardsticklaw14.AdjustLargest'. -/
def adjustLargestUptoCard : Claim7 := { stood := { row := adjustLargestUptoRow, standIns := [], harness := (true, "34815ec5d82b391dc384656a681cf5d0d46628e25bea1cb3c065010962aef233"), looks := true }, kinds := [], alts := [], laidByText := true, laidKinds := [.data, .data, .data, .data, .sentinel, .sentinel, .sentinel, .sentinel, .pinned], laidTests := true, laidLooks := .later }
def AdjustLargestUptoCardSaid : Prop := Claim7.holds Tryz.pinned (.plain (OpenSpec.upto adjustLargestSpec)) adjustLargestUptoCard

/-- THE SECOND FORM's CARD OF 'yardsticklaw14.AdjustLeast'. -/
def adjustLeastUptoCard : Claim7 := { stood := { row := adjustLeastUptoRow, standIns := [], harness := (true, "34815ec5d82b391dc384656a681cf5d0d46628e25bea1cb3c065010962aef233"), looks := true }, kinds := [], alts := [], laidByText := true, laidKinds := [.data, .data, .data, .data, .sentinel, .sentinel, .sentinel, .sentinel, .pinned], laidTests := true, laidLooks := .later }
def AdjustLeastUptoCardSaid : Prop := Claim7.holds Tryz.pinned (.plain (OpenSpec.upto adjustLeastSpec)) adjustLeastUptoCard

/-- THE SECOND FORM's CARD OF 'yardsticklaw14.AdjustExact'. -/
def adjustExactUptoCard : Claim7 := { stood := { row := adjustExactUptoRow, standIns := [], harness := (true, "34815ec5d82b391dc384656a681cf5d0d46628e25bea1cb3c065010962aef233"), looks := true }, kinds := [], alts := [], laidByText := true, laidKinds := [.data, .data, .data, .data, .sentinel, .sentinel, .sentinel, .sentinel, .pinned], laidTests := true, laidLooks := .later }
def AdjustExactUptoCardSaid : Prop := Claim7.holds Tryz.pinned (.plain (OpenSpec.upto adjustExactSpec)) adjustExactUptoCard
end Rows
end Go.Proofs.YtlmihmlnpjkblaaGreatDoor
