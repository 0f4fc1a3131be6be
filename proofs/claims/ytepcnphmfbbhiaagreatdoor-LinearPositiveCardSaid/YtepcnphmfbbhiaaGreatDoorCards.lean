/-
  DERIVED. GIVEN WITH THE SEED: THE CARDS: each row of YtepcnphmfbbhiaaGreatDoorRows.lean that lists a variable, with what it lists TIED to the program's text (the seventh form; the later family's looks); each row that meets fmt, with fmt's text TOLD by the authors' own Lean function (tested against real Go, not proved from fmt's source: count such statements apart). THE CARD IS WHAT COUNTS. Prove the row's statement (the work); the ties are given (YtepcnphmfbbhiaaGreatDoorTie.lean); close each card by the builder's one call (the guide's Derived/Test/ToyasCard.lean, 'card_holds'). Laid BY PROGRAM, IN A SANDBOX (cutbox-door.mjs). By AI agents, Wed Nov 11 2026. No macro, syntax, notation, axiom, sorry.
-/
import Derived.Test.YtepcnphmfbbhiaaGreatDoorRows
import GoSem.ClaimSeven
namespace Go.Proofs.YtepcnphmfbbhiaaGreatDoor
namespace Rows

/-- THE TIED CARD OF 'yardsticklaw13.LinearSolves'. -/
def linearSolvesCard : Claim7 := { stood := { row := linearSolvesRow, standIns := [], harness := (true, "866fb6c79e50fd624bf4262db00452dcee70d3b8a3bec232049eeba4339e6c2b"), looks := true }, kinds := [], alts := [], laidByText := true, laidKinds := [.data, .data, .data, .data, .sentinel, .sentinel, .pinned], laidTests := true, laidLooks := .later }
def LinearSolvesCardSaid : Prop := Claim7.holds Tryz.pinned (.plain (OpenSpec.ofChange linearSolvesSpec)) linearSolvesCard

/-- THE TIED CARD OF 'yardsticklaw13.LinearUnsolved'. -/
def linearUnsolvedCard : Claim7 := { stood := { row := linearUnsolvedRow, standIns := [], harness := (true, "866fb6c79e50fd624bf4262db00452dcee70d3b8a3bec232049eeba4339e6c2b"), looks := true }, kinds := [], alts := [], laidByText := true, laidKinds := [.data, .data, .data, .data, .sentinel, .sentinel, .pinned], laidTests := true, laidLooks := .later }
def LinearUnsolvedCardSaid : Prop := Claim7.holds Tryz.pinned (.plain (OpenSpec.ofChange linearUnsolvedSpec)) linearUnsolvedCard

/-- THE TIED CARD OF 'yardsticklaw13.LinearRank'. -/
def linearRankCard : Claim7 := { stood := { row := linearRankRow, standIns := [], harness := (true, "866fb6c79e50fd624bf4262db00452dcee70d3b8a3bec232049eeba4339e6c2b"), looks := true }, kinds := [], alts := [], laidByText := true, laidKinds := [.data, .data, .data, .data, .sentinel, .sentinel, .pinned], laidTests := true, laidLooks := .later }
def LinearRankCardSaid : Prop := Claim7.holds Tryz.pinned (.plain (OpenSpec.ofChange linearRankSpec)) linearRankCard

/-- THE TIED CARD OF 'yardsticklaw13.LinearInverse'. -/
def linearInverseCard : Claim7 := { stood := { row := linearInverseRow, standIns := [], harness := (true, "866fb6c79e50fd624bf4262db00452dcee70d3b8a3bec232049eeba4339e6c2b"), looks := true }, kinds := [], alts := [], laidByText := true, laidKinds := [.data, .data, .data, .data, .sentinel, .sentinel, .pinned], laidTests := true, laidLooks := .later }
def LinearInverseCardSaid : Prop := Claim7.holds Tryz.pinned (.plain (OpenSpec.ofChange linearInverseSpec)) linearInverseCard

/-- THE TIED CARD OF 'yardsticklaw13.LinearDeterminant'. -/
def linearDeterminantCard : Claim7 := { stood := { row := linearDeterminantRow, standIns := [], harness := (true, "866fb6c79e50fd624bf4262db00452dcee70d3b8a3bec232049eeba4339e6c2b"), looks := true }, kinds := [], alts := [], laidByText := true, laidKinds := [.data, .data, .data, .data, .sentinel, .sentinel, .pinned], laidTests := true, laidLooks := .later }
def LinearDeterminantCardSaid : Prop := Claim7.holds Tryz.pinned (.plain (OpenSpec.ofChange linearDeterminantSpec)) linearDeterminantCard

/-- THE TIED CARD OF 'yardsticklaw13.LinearProducts'. -/
def linearProductsCard : Claim7 := { stood := { row := linearProductsRow, standIns := [], harness := (true, "866fb6c79e50fd624bf4262db00452dcee70d3b8a3bec232049eeba4339e6c2b"), looks := true }, kinds := [], alts := [], laidByText := true, laidKinds := [.data, .data, .data, .data, .sentinel, .sentinel, .pinned], laidTests := true, laidLooks := .later }
def LinearProductsCardSaid : Prop := Claim7.holds Tryz.pinned (.plain (OpenSpec.ofChange linearProductsSpec)) linearProductsCard

/-- THE TIED CARD OF 'yardsticklaw13.LinearPositive'. -/
def linearPositiveCard : Claim7 := { stood := { row := linearPositiveRow, standIns := [], harness := (true, "866fb6c79e50fd624bf4262db00452dcee70d3b8a3bec232049eeba4339e6c2b"), looks := true }, kinds := [], alts := [], laidByText := true, laidKinds := [.data, .data, .data, .data, .sentinel, .sentinel, .pinned], laidTests := true, laidLooks := .later }
def LinearPositiveCardSaid : Prop := Claim7.holds Tryz.pinned (.plain (OpenSpec.ofChange linearPositiveSpec)) linearPositiveCard

/-- THE TIED CARD OF 'yardsticklaw13.LinearCramer'. -/
def linearCramerCard : Claim7 := { stood := { row := linearCramerRow, standIns := [], harness := (true, "866fb6c79e50fd624bf4262db00452dcee70d3b8a3bec232049eeba4339e6c2b"), looks := true }, kinds := [], alts := [], laidByText := true, laidKinds := [.data, .data, .data, .data, .sentinel, .sentinel, .pinned], laidTests := true, laidLooks := .later }
def LinearCramerCardSaid : Prop := Claim7.holds Tryz.pinned (.plain (OpenSpec.ofChange linearCramerSpec)) linearCramerCard

/-- THE SECOND FORM's CARD OF 'yardsticklaw13.LinearSolves'. -/
def linearSolvesUptoCard : Claim7 := { stood := { row := linearSolvesUptoRow, standIns := [], harness := (true, "866fb6c79e50fd624bf4262db00452dcee70d3b8a3bec232049eeba4339e6c2b"), looks := true }, kinds := [], alts := [], laidByText := true, laidKinds := [.data, .data, .data, .data, .sentinel, .sentinel, .pinned], laidTests := true, laidLooks := .later }
def LinearSolvesUptoCardSaid : Prop := Claim7.holds Tryz.pinned (.plain (OpenSpec.upto linearSolvesSpec)) linearSolvesUptoCard

/-- THE SECOND FORM's CARD OF 'yardsticklaw13.LinearUnsolved'. -/
def linearUnsolvedUptoCard : Claim7 := { stood := { row := linearUnsolvedUptoRow, standIns := [], harness := (true, "866fb6c79e50fd624bf4262db00452dcee70d3b8a3bec232049eeba4339e6c2b"), looks := true }, kinds := [], alts := [], laidByText := true, laidKinds := [.data, .data, .data, .data, .sentinel, .sentinel, .pinned], laidTests := true, laidLooks := .later }
def LinearUnsolvedUptoCardSaid : Prop := Claim7.holds Tryz.pinned (.plain (OpenSpec.upto linearUnsolvedSpec)) linearUnsolvedUptoCard

/-- THE SECOND FORM's CARD OF 'yardsticklaw13.LinearRank'. -/
def linearRankUptoCard : Claim7 := { stood := { row := linearRankUptoRow, standIns := [], harness := (true, "866fb6c79e50fd624bf4262db00452dcee70d3b8a3bec232049eeba4339e6c2b"), looks := true }, kinds := [], alts := [], laidByText := true, laidKinds := [.data, .data, .data, .data, .sentinel, .sentinel, .pinned], laidTests := true, laidLooks := .later }
def LinearRankUptoCardSaid : Prop := Claim7.holds Tryz.pinned (.plain (OpenSpec.upto linearRankSpec)) linearRankUptoCard

/-- THE SECOND FORM's CARD OF 'yardsticklaw13.LinearInverse'. -/
def linearInverseUptoCard : Claim7 := { stood := { row := linearInverseUptoRow, standIns := [], harness := (true, "866fb6c79e50fd624bf4262db00452dcee70d3b8a3bec232049eeba4339e6c2b"), looks := true }, kinds := [], alts := [], laidByText := true, laidKinds := [.data, .data, .data, .data, .sentinel, .sentinel, .pinned], laidTests := true, laidLooks := .later }
def LinearInverseUptoCardSaid : Prop := Claim7.holds Tryz.pinned (.plain (OpenSpec.upto linearInverseSpec)) linearInverseUptoCard

/-- THE SECOND FORM's CARD OF 'yardsticklaw13.LinearDeterminant'. -/
def linearDeterminantUptoCard : Claim7 := { stood := { row := linearDeterminantUptoRow, standIns := [], harness := (true, "866fb6c79e50fd624bf4262db00452dcee70d3b8a3bec232049eeba4339e6c2b"), looks := true }, kinds := [], alts := [], laidByText := true, laidKinds := [.data, .data, .data, .data, .sentinel, .sentinel, .pinned], laidTests := true, laidLooks := .later }
def LinearDeterminantUptoCardSaid : Prop := Claim7.holds Tryz.pinned (.plain (OpenSpec.upto linearDeterminantSpec)) linearDeterminantUptoCard

/-- THE SECOND FORM's CARD OF 'yardsticklaw13.LinearProducts'. -/
def linearProductsUptoCard : Claim7 := { stood := { row := linearProductsUptoRow, standIns := [], harness := (true, "866fb6c79e50fd624bf4262db00452dcee70d3b8a3bec232049eeba4339e6c2b"), looks := true }, kinds := [], alts := [], laidByText := true, laidKinds := [.data, .data, .data, .data, .sentinel, .sentinel, .pinned], laidTests := true, laidLooks := .later }
def LinearProductsUptoCardSaid : Prop := Claim7.holds Tryz.pinned (.plain (OpenSpec.upto linearProductsSpec)) linearProductsUptoCard

/-- THE SECOND FORM's CARD OF 'yardsticklaw13.LinearPositive'. -/
def linearPositiveUptoCard : Claim7 := { stood := { row := linearPositiveUptoRow, standIns := [], harness := (true, "866fb6c79e50fd624bf4262db00452dcee70d3b8a3bec232049eeba4339e6c2b"), looks := true }, kinds := [], alts := [], laidByText := true, laidKinds := [.data, .data, .data, .data, .sentinel, .sentinel, .pinned], laidTests := true, laidLooks := .later }
def LinearPositiveUptoCardSaid : Prop := Claim7.holds Tryz.pinned (.plain (OpenSpec.upto linearPositiveSpec)) linearPositiveUptoCard

/-- THE SECOND FORM's CARD OF 'yardsticklaw13.LinearCramer'. -/
def linearCramerUptoCard : Claim7 := { stood := { row := linearCramerUptoRow, standIns := [], harness := (true, "866fb6c79e50fd624bf4262db00452dcee70d3b8a3bec232049eeba4339e6c2b"), looks := true }, kinds := [], alts := [], laidByText := true, laidKinds := [.data, .data, .data, .data, .sentinel, .sentinel, .pinned], laidTests := true, laidLooks := .later }
def LinearCramerUptoCardSaid : Prop := Claim7.holds Tryz.pinned (.plain (OpenSpec.upto linearCramerSpec)) linearCramerUptoCard
end Rows
end Go.Proofs.YtepcnphmfbbhiaaGreatDoor
