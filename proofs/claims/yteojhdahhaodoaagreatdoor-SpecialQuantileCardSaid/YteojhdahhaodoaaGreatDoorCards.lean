/-
  DERIVED. GIVEN WITH THE SEED: THE CARDS: each row of YteojhdahhaodoaaGreatDoorRows.lean that lists a variable, with what it lists TIED to the program's text (the seventh form; the later family's looks); each row that meets fmt, with fmt's text TOLD by the authors' own Lean function (tested against real Go, not proved from fmt's source: count such statements apart). THE CARD IS WHAT COUNTS. Prove the row's statement (the work); the ties are given (YteojhdahhaodoaaGreatDoorTie.lean); close each card by the builder's one call (the guide's Derived/Test/ToyasCard.lean, 'card_holds'). Laid BY PROGRAM, IN A SANDBOX (cutbox-door.mjs). By AI agents, Wed Nov 11 2026. No macro, syntax, notation, axiom, sorry.
-/
import Derived.Test.YteojhdahhaodoaaGreatDoorRows
import GoSem.ClaimSeven
namespace Go.Proofs.YteojhdahhaodoaaGreatDoor
namespace Rows

/-- THE TIED CARD OF 'yardsticklaw06.SpecialBounds'. -/
def specialBoundsCard : Claim7 := { stood := { row := specialBoundsRow, standIns := [], harness := (true, "b10753f8d68cbb33806e927626b2a0748bd6ccea8c6d2d835ff70a69daebe9fd"), looks := true }, kinds := [], alts := [], laidByText := true, laidKinds := [.data, .data, .data, .data, .sentinel, .sentinel, .sentinel, .pinned], laidTests := true, laidLooks := .later }
def SpecialBoundsCardSaid : Prop := Claim7.holds Tryz.pinned (.plain (OpenSpec.ofChange specialBoundsSpec)) specialBoundsCard

/-- THE TIED CARD OF 'yardsticklaw06.SpecialQuantile'. -/
def specialQuantileCard : Claim7 := { stood := { row := specialQuantileRow, standIns := [], harness := (true, "b10753f8d68cbb33806e927626b2a0748bd6ccea8c6d2d835ff70a69daebe9fd"), looks := true }, kinds := [], alts := [], laidByText := true, laidKinds := [.data, .data, .data, .data, .sentinel, .sentinel, .sentinel, .pinned], laidTests := true, laidLooks := .later }
def SpecialQuantileCardSaid : Prop := Claim7.holds Tryz.pinned (.plain (OpenSpec.ofChange specialQuantileSpec)) specialQuantileCard

/-- THE TIED CARD OF 'yardsticklaw06.SpecialSymmetric'. -/
def specialSymmetricCard : Claim7 := { stood := { row := specialSymmetricRow, standIns := [], harness := (true, "b10753f8d68cbb33806e927626b2a0748bd6ccea8c6d2d835ff70a69daebe9fd"), looks := true }, kinds := [], alts := [], laidByText := true, laidKinds := [.data, .data, .data, .data, .sentinel, .sentinel, .sentinel, .pinned], laidTests := true, laidLooks := .later }
def SpecialSymmetricCardSaid : Prop := Claim7.holds Tryz.pinned (.plain (OpenSpec.ofChange specialSymmetricSpec)) specialSymmetricCard

/-- THE SECOND FORM's CARD OF 'yardsticklaw06.SpecialBounds'. -/
def specialBoundsUptoCard : Claim7 := { stood := { row := specialBoundsUptoRow, standIns := [], harness := (true, "b10753f8d68cbb33806e927626b2a0748bd6ccea8c6d2d835ff70a69daebe9fd"), looks := true }, kinds := [], alts := [], laidByText := true, laidKinds := [.data, .data, .data, .data, .sentinel, .sentinel, .sentinel, .pinned], laidTests := true, laidLooks := .later }
def SpecialBoundsUptoCardSaid : Prop := Claim7.holds Tryz.pinned (.plain (OpenSpec.upto specialBoundsSpec)) specialBoundsUptoCard

/-- THE SECOND FORM's CARD OF 'yardsticklaw06.SpecialQuantile'. -/
def specialQuantileUptoCard : Claim7 := { stood := { row := specialQuantileUptoRow, standIns := [], harness := (true, "b10753f8d68cbb33806e927626b2a0748bd6ccea8c6d2d835ff70a69daebe9fd"), looks := true }, kinds := [], alts := [], laidByText := true, laidKinds := [.data, .data, .data, .data, .sentinel, .sentinel, .sentinel, .pinned], laidTests := true, laidLooks := .later }
def SpecialQuantileUptoCardSaid : Prop := Claim7.holds Tryz.pinned (.plain (OpenSpec.upto specialQuantileSpec)) specialQuantileUptoCard

/-- THE SECOND FORM's CARD OF 'yardsticklaw06.SpecialSymmetric'. -/
def specialSymmetricUptoCard : Claim7 := { stood := { row := specialSymmetricUptoRow, standIns := [], harness := (true, "b10753f8d68cbb33806e927626b2a0748bd6ccea8c6d2d835ff70a69daebe9fd"), looks := true }, kinds := [], alts := [], laidByText := true, laidKinds := [.data, .data, .data, .data, .sentinel, .sentinel, .sentinel, .pinned], laidTests := true, laidLooks := .later }
def SpecialSymmetricUptoCardSaid : Prop := Claim7.holds Tryz.pinned (.plain (OpenSpec.upto specialSymmetricSpec)) specialSymmetricUptoCard
end Rows
end Go.Proofs.YteojhdahhaodoaaGreatDoor
