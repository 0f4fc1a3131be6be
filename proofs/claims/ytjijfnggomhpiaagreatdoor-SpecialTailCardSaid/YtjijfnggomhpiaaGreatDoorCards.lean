/-
  DERIVED. GIVEN WITH THE SEED: THE CARDS: each row of YtjijfnggomhpiaaGreatDoorRows.lean that lists a variable, with what it lists TIED to the program's text (the seventh form; the later family's looks); each row that meets fmt, with fmt's text TOLD by the authors' own Lean function (tested against real Go, not proved from fmt's source: count such statements apart). THE CARD IS WHAT COUNTS. Prove the row's statement (the work); the ties are given (YtjijfnggomhpiaaGreatDoorTie.lean); close each card by the builder's one call (the guide's Derived/Test/ToyasCard.lean, 'card_holds'). Laid BY PROGRAM, IN A SANDBOX (cutbox-door.mjs). By AI agents, Wed Nov 11 2026. No macro, syntax, notation, axiom, sorry.
-/
import Derived.Test.YtjijfnggomhpiaaGreatDoorRows
import GoSem.ClaimSeven
namespace Go.Proofs.YtjijfnggomhpiaaGreatDoor
namespace Rows

/-- THE TIED CARD OF 'yardsticklaw06.SpecialCells'. -/
def specialCellsCard : Claim7 := { stood := { row := specialCellsRow, standIns := [], harness := (true, "992822e617a753b9cfbfad97e92db66d729d38519a3fbc79aa047e2471ccbb3d"), looks := true }, kinds := [], alts := [], laidByText := true, laidKinds := [.data, .data, .data, .data, .sentinel, .sentinel, .sentinel, .pinned], laidTests := true, laidLooks := .later }
def SpecialCellsCardSaid : Prop := Claim7.holds Tryz.pinned (.plain (OpenSpec.ofChange specialCellsSpec)) specialCellsCard

/-- THE TIED CARD OF 'yardsticklaw06.SpecialTail'. -/
def specialTailCard : Claim7 := { stood := { row := specialTailRow, standIns := [], harness := (true, "992822e617a753b9cfbfad97e92db66d729d38519a3fbc79aa047e2471ccbb3d"), looks := true }, kinds := [], alts := [], laidByText := true, laidKinds := [.data, .data, .data, .data, .sentinel, .sentinel, .sentinel, .pinned], laidTests := true, laidLooks := .later }
def SpecialTailCardSaid : Prop := Claim7.holds Tryz.pinned (.plain (OpenSpec.ofChange specialTailSpec)) specialTailCard

/-- THE TIED CARD OF 'yardsticklaw06.SpecialExponential'. -/
def specialExponentialCard : Claim7 := { stood := { row := specialExponentialRow, standIns := [], harness := (true, "992822e617a753b9cfbfad97e92db66d729d38519a3fbc79aa047e2471ccbb3d"), looks := true }, kinds := [], alts := [], laidByText := true, laidKinds := [.data, .data, .data, .data, .sentinel, .sentinel, .sentinel, .pinned], laidTests := true, laidLooks := .later }
def SpecialExponentialCardSaid : Prop := Claim7.holds Tryz.pinned (.plain (OpenSpec.ofChange specialExponentialSpec)) specialExponentialCard

/-- THE SECOND FORM's CARD OF 'yardsticklaw06.SpecialCells'. -/
def specialCellsUptoCard : Claim7 := { stood := { row := specialCellsUptoRow, standIns := [], harness := (true, "992822e617a753b9cfbfad97e92db66d729d38519a3fbc79aa047e2471ccbb3d"), looks := true }, kinds := [], alts := [], laidByText := true, laidKinds := [.data, .data, .data, .data, .sentinel, .sentinel, .sentinel, .pinned], laidTests := true, laidLooks := .later }
def SpecialCellsUptoCardSaid : Prop := Claim7.holds Tryz.pinned (.plain (OpenSpec.upto specialCellsSpec)) specialCellsUptoCard

/-- THE SECOND FORM's CARD OF 'yardsticklaw06.SpecialTail'. -/
def specialTailUptoCard : Claim7 := { stood := { row := specialTailUptoRow, standIns := [], harness := (true, "992822e617a753b9cfbfad97e92db66d729d38519a3fbc79aa047e2471ccbb3d"), looks := true }, kinds := [], alts := [], laidByText := true, laidKinds := [.data, .data, .data, .data, .sentinel, .sentinel, .sentinel, .pinned], laidTests := true, laidLooks := .later }
def SpecialTailUptoCardSaid : Prop := Claim7.holds Tryz.pinned (.plain (OpenSpec.upto specialTailSpec)) specialTailUptoCard

/-- THE SECOND FORM's CARD OF 'yardsticklaw06.SpecialExponential'. -/
def specialExponentialUptoCard : Claim7 := { stood := { row := specialExponentialUptoRow, standIns := [], harness := (true, "992822e617a753b9cfbfad97e92db66d729d38519a3fbc79aa047e2471ccbb3d"), looks := true }, kinds := [], alts := [], laidByText := true, laidKinds := [.data, .data, .data, .data, .sentinel, .sentinel, .sentinel, .pinned], laidTests := true, laidLooks := .later }
def SpecialExponentialUptoCardSaid : Prop := Claim7.holds Tryz.pinned (.plain (OpenSpec.upto specialExponentialSpec)) specialExponentialUptoCard
end Rows
end Go.Proofs.YtjijfnggomhpiaaGreatDoor
