/-
  DERIVED. GIVEN WITH THE SEED: THE CARDS: each row of YtmehbpjpbbhohaaGreatDoorRows.lean that lists a variable, with what it lists TIED to the program's text (the seventh form; the later family's looks); each row that meets fmt, with fmt's text TOLD by the authors' own Lean function (tested against real Go, not proved from fmt's source: count such statements apart). THE CARD IS WHAT COUNTS. Prove the row's statement (the work); the ties are given (YtmehbpjpbbhohaaGreatDoorTie.lean); close each card by the builder's one call (the guide's Derived/Test/ToyasCard.lean, 'card_holds'). Laid BY PROGRAM, IN A SANDBOX (cutbox-door.mjs). By AI agents, Wed Nov 11 2026. No macro, syntax, notation, axiom, sorry.
-/
import Derived.Test.YtmehbpjpbbhohaaGreatDoorRows
import GoSem.ClaimSeven
namespace Go.Proofs.YtmehbpjpbbhohaaGreatDoor
namespace Rows

/-- THE TIED CARD OF 'yardsticklaw15.RiskMirrored'. -/
def riskMirroredCard : Claim7 := { stood := { row := riskMirroredRow, standIns := [], harness := (true, "729512569518ad83e4d7ce5504c85dea9acb39d83e0e407a3ee86dc07a0dcf21"), looks := true }, kinds := [], alts := [], laidByText := true, laidKinds := [.data, .data, .data, .data, .sentinel, .sentinel, .sentinel, .pinned], laidTests := true, laidLooks := .later }
def RiskMirroredCardSaid : Prop := Claim7.holds Tryz.pinned (.plain (OpenSpec.ofChange riskMirroredSpec)) riskMirroredCard

/-- THE TIED CARD OF 'yardsticklaw15.RiskNarrower'. -/
def riskNarrowerCard : Claim7 := { stood := { row := riskNarrowerRow, standIns := [], harness := (true, "729512569518ad83e4d7ce5504c85dea9acb39d83e0e407a3ee86dc07a0dcf21"), looks := true }, kinds := [], alts := [], laidByText := true, laidKinds := [.data, .data, .data, .data, .sentinel, .sentinel, .sentinel, .pinned], laidTests := true, laidLooks := .later }
def RiskNarrowerCardSaid : Prop := Claim7.holds Tryz.pinned (.plain (OpenSpec.ofChange riskNarrowerSpec)) riskNarrowerCard

/-- THE TIED CARD OF 'yardsticklaw15.RiskOutside'. -/
def riskOutsideCard : Claim7 := { stood := { row := riskOutsideRow, standIns := [], harness := (true, "729512569518ad83e4d7ce5504c85dea9acb39d83e0e407a3ee86dc07a0dcf21"), looks := true }, kinds := [], alts := [], laidByText := true, laidKinds := [.data, .data, .data, .data, .sentinel, .sentinel, .sentinel, .pinned], laidTests := true, laidLooks := .later }
def RiskOutsideCardSaid : Prop := Claim7.holds Tryz.pinned (.plain (OpenSpec.ofChange riskOutsideSpec)) riskOutsideCard

/-- THE TIED CARD OF 'yardsticklaw15.RiskLimits'. -/
def riskLimitsCard : Claim7 := { stood := { row := riskLimitsRow, standIns := [], harness := (true, "729512569518ad83e4d7ce5504c85dea9acb39d83e0e407a3ee86dc07a0dcf21"), looks := true }, kinds := [], alts := [], laidByText := true, laidKinds := [.data, .data, .data, .data, .sentinel, .sentinel, .sentinel, .pinned], laidTests := true, laidLooks := .later }
def RiskLimitsCardSaid : Prop := Claim7.holds Tryz.pinned (.plain (OpenSpec.ofChange riskLimitsSpec)) riskLimitsCard

/-- THE TIED CARD OF 'yardsticklaw15.RiskMeets'. -/
def riskMeetsCard : Claim7 := { stood := { row := riskMeetsRow, standIns := [], harness := (true, "729512569518ad83e4d7ce5504c85dea9acb39d83e0e407a3ee86dc07a0dcf21"), looks := true }, kinds := [], alts := [], laidByText := true, laidKinds := [.data, .data, .data, .data, .sentinel, .sentinel, .sentinel, .pinned], laidTests := true, laidLooks := .later }
def RiskMeetsCardSaid : Prop := Claim7.holds Tryz.pinned (.plain (OpenSpec.ofChange riskMeetsSpec)) riskMeetsCard

/-- THE SECOND FORM's CARD OF 'yardsticklaw15.RiskMirrored'. -/
def riskMirroredUptoCard : Claim7 := { stood := { row := riskMirroredUptoRow, standIns := [], harness := (true, "729512569518ad83e4d7ce5504c85dea9acb39d83e0e407a3ee86dc07a0dcf21"), looks := true }, kinds := [], alts := [], laidByText := true, laidKinds := [.data, .data, .data, .data, .sentinel, .sentinel, .sentinel, .pinned], laidTests := true, laidLooks := .later }
def RiskMirroredUptoCardSaid : Prop := Claim7.holds Tryz.pinned (.plain (OpenSpec.upto riskMirroredSpec)) riskMirroredUptoCard

/-- THE SECOND FORM's CARD OF 'yardsticklaw15.RiskNarrower'. -/
def riskNarrowerUptoCard : Claim7 := { stood := { row := riskNarrowerUptoRow, standIns := [], harness := (true, "729512569518ad83e4d7ce5504c85dea9acb39d83e0e407a3ee86dc07a0dcf21"), looks := true }, kinds := [], alts := [], laidByText := true, laidKinds := [.data, .data, .data, .data, .sentinel, .sentinel, .sentinel, .pinned], laidTests := true, laidLooks := .later }
def RiskNarrowerUptoCardSaid : Prop := Claim7.holds Tryz.pinned (.plain (OpenSpec.upto riskNarrowerSpec)) riskNarrowerUptoCard

/-- THE SECOND FORM's CARD OF 'yardsticklaw15.RiskOutside'. -/
def riskOutsideUptoCard : Claim7 := { stood := { row := riskOutsideUptoRow, standIns := [], harness := (true, "729512569518ad83e4d7ce5504c85dea9acb39d83e0e407a3ee86dc07a0dcf21"), looks := true }, kinds := [], alts := [], laidByText := true, laidKinds := [.data, .data, .data, .data, .sentinel, .sentinel, .sentinel, .pinned], laidTests := true, laidLooks := .later }
def RiskOutsideUptoCardSaid : Prop := Claim7.holds Tryz.pinned (.plain (OpenSpec.upto riskOutsideSpec)) riskOutsideUptoCard

/-- THE SECOND FORM's CARD OF 'yardsticklaw15.RiskLimits'. -/
def riskLimitsUptoCard : Claim7 := { stood := { row := riskLimitsUptoRow, standIns := [], harness := (true, "729512569518ad83e4d7ce5504c85dea9acb39d83e0e407a3ee86dc07a0dcf21"), looks := true }, kinds := [], alts := [], laidByText := true, laidKinds := [.data, .data, .data, .data, .sentinel, .sentinel, .sentinel, .pinned], laidTests := true, laidLooks := .later }
def RiskLimitsUptoCardSaid : Prop := Claim7.holds Tryz.pinned (.plain (OpenSpec.upto riskLimitsSpec)) riskLimitsUptoCard

/-- THE SECOND FORM's CARD OF 'yardsticklaw15.RiskMeets'. -/
def riskMeetsUptoCard : Claim7 := { stood := { row := riskMeetsUptoRow, standIns := [], harness := (true, "729512569518ad83e4d7ce5504c85dea9acb39d83e0e407a3ee86dc07a0dcf21"), looks := true }, kinds := [], alts := [], laidByText := true, laidKinds := [.data, .data, .data, .data, .sentinel, .sentinel, .sentinel, .pinned], laidTests := true, laidLooks := .later }
def RiskMeetsUptoCardSaid : Prop := Claim7.holds Tryz.pinned (.plain (OpenSpec.upto riskMeetsSpec)) riskMeetsUptoCard
end Rows
end Go.Proofs.YtmehbpjpbbhohaaGreatDoor
