/-
  DERIVED. GIVEN WITH THE SEED: THE CARDS: each row of YtcnhfdljfjgmkaaGreatDoorRows.lean that lists a variable, with what it lists TIED to the program's text (the seventh form; the later family's looks); each row that meets fmt, with fmt's text TOLD by the authors' own Lean function (tested against real Go, not proved from fmt's source: count such statements apart). THE CARD IS WHAT COUNTS. Prove the row's statement (the work); the ties are given (YtcnhfdljfjgmkaaGreatDoorTie.lean); close each card by the builder's one call (the guide's Derived/Test/ToyasCard.lean, 'card_holds'). Laid BY PROGRAM, IN A SANDBOX (cutbox-door.mjs). By AI agents, Wed Nov 11 2026. No macro, syntax, notation, axiom, sorry.
-/
import Derived.Test.YtcnhfdljfjgmkaaGreatDoorRows
import GoSem.ClaimSeven
namespace Go.Proofs.YtcnhfdljfjgmkaaGreatDoor
namespace Rows

/-- THE TIED CARD OF 'casebooklaw32.DeclareBack'. -/
def declareBackCard : Claim7 := { stood := { row := declareBackRow, standIns := [], harness := (true, "d67f907dff768424f1a58b5572c12822b1d88a7396b76a4cf3a422f1f1678d91"), looks := true }, kinds := [], alts := [], laidByText := true, laidKinds := [.data, .data, .data, .sentinel, .sentinel], laidTests := true, laidLooks := .later }
def DeclareBackCardSaid : Prop := Claim7.holds Tryz.pinned (.plain (OpenSpec.ofChange declareBackSpec)) declareBackCard

/-- THE TIED CARD OF 'casebooklaw33.MonitorAgrees'. -/
def monitorAgreesCard : Claim7 := { stood := { row := monitorAgreesRow, standIns := [], harness := (true, "d67f907dff768424f1a58b5572c12822b1d88a7396b76a4cf3a422f1f1678d91"), looks := true }, kinds := [], alts := [], laidByText := true, laidKinds := [.data, .data, .data], laidTests := true, laidLooks := .later }
def MonitorAgreesCardSaid : Prop := Claim7.holds Tryz.pinned (.plain (OpenSpec.ofChange monitorAgreesSpec)) monitorAgreesCard

/-- THE SECOND FORM's CARD OF 'casebooklaw32.DeclareBack'. -/
def declareBackUptoCard : Claim7 := { stood := { row := declareBackUptoRow, standIns := [], harness := (true, "d67f907dff768424f1a58b5572c12822b1d88a7396b76a4cf3a422f1f1678d91"), looks := true }, kinds := [], alts := [], laidByText := true, laidKinds := [.data, .data, .data, .sentinel, .sentinel], laidTests := true, laidLooks := .later }
def DeclareBackUptoCardSaid : Prop := Claim7.holds Tryz.pinned (.plain (OpenSpec.upto declareBackSpec)) declareBackUptoCard

/-- THE SECOND FORM's CARD OF 'casebooklaw33.MonitorAgrees'. -/
def monitorAgreesUptoCard : Claim7 := { stood := { row := monitorAgreesUptoRow, standIns := [], harness := (true, "d67f907dff768424f1a58b5572c12822b1d88a7396b76a4cf3a422f1f1678d91"), looks := true }, kinds := [], alts := [], laidByText := true, laidKinds := [.data, .data, .data], laidTests := true, laidLooks := .later }
def MonitorAgreesUptoCardSaid : Prop := Claim7.holds Tryz.pinned (.plain (OpenSpec.upto monitorAgreesSpec)) monitorAgreesUptoCard
end Rows
end Go.Proofs.YtcnhfdljfjgmkaaGreatDoor
