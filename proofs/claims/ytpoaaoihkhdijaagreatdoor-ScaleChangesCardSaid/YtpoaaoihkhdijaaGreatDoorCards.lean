/-
  DERIVED. GIVEN WITH THE SEED: THE CARDS: each row of YtpoaaoihkhdijaaGreatDoorRows.lean that lists a variable, with what it lists TIED to the program's text (the seventh form; the later family's looks); each row that meets fmt, with fmt's text TOLD by the authors' own Lean function (tested against real Go, not proved from fmt's source: count such statements apart). THE CARD IS WHAT COUNTS. Prove the row's statement (the work); the ties are given (YtpoaaoihkhdijaaGreatDoorTie.lean); close each card by the builder's one call (the guide's Derived/Test/ToyasCard.lean, 'card_holds'). Laid BY PROGRAM, IN A SANDBOX (cutbox-door.mjs). By AI agents, Wed Nov 11 2026. No macro, syntax, notation, axiom, sorry.
-/
import Derived.Test.YtpoaaoihkhdijaaGreatDoorRows
import GoSem.ClaimSeven
namespace Go.Proofs.YtpoaaoihkhdijaaGreatDoor
namespace Rows

/-- THE TIED CARD OF 'integraphlaw06.ScaleGreatest'. -/
def scaleGreatestCard : Claim7 := { stood := { row := scaleGreatestRow, standIns := [], harness := (true, "9954644cfe82d0faaade2cbd6ad83c371632d67e0ebf13b4759dcdf199e4fbe5"), looks := true }, kinds := [], alts := [], laidByText := true, laidKinds := [.data, .data, .data, .sentinel, .sentinel], laidTests := true, laidLooks := .later }
def ScaleGreatestCardSaid : Prop := Claim7.holds Tryz.pinned (.plain (OpenSpec.ofChange scaleGreatestSpec)) scaleGreatestCard

/-- THE TIED CARD OF 'integraphlaw06.ScaleBest'. -/
def scaleBestCard : Claim7 := { stood := { row := scaleBestRow, standIns := [], harness := (true, "9954644cfe82d0faaade2cbd6ad83c371632d67e0ebf13b4759dcdf199e4fbe5"), looks := true }, kinds := [], alts := [], laidByText := true, laidKinds := [.data, .data, .data, .sentinel, .sentinel], laidTests := true, laidLooks := .later }
def ScaleBestCardSaid : Prop := Claim7.holds Tryz.pinned (.plain (OpenSpec.ofChange scaleBestSpec)) scaleBestCard

/-- THE TIED CARD OF 'integraphlaw06.ScaleKeeps'. -/
def scaleKeepsCard : Claim7 := { stood := { row := scaleKeepsRow, standIns := [], harness := (true, "9954644cfe82d0faaade2cbd6ad83c371632d67e0ebf13b4759dcdf199e4fbe5"), looks := true }, kinds := [], alts := [], laidByText := true, laidKinds := [.data, .data, .data, .sentinel, .sentinel], laidTests := true, laidLooks := .later }
def ScaleKeepsCardSaid : Prop := Claim7.holds Tryz.pinned (.plain (OpenSpec.ofChange scaleKeepsSpec)) scaleKeepsCard

/-- THE TIED CARD OF 'integraphlaw06.ScaleSetups'. -/
def scaleSetupsCard : Claim7 := { stood := { row := scaleSetupsRow, standIns := [], harness := (true, "9954644cfe82d0faaade2cbd6ad83c371632d67e0ebf13b4759dcdf199e4fbe5"), looks := true }, kinds := [], alts := [], laidByText := true, laidKinds := [.data, .data, .data, .sentinel, .sentinel], laidTests := true, laidLooks := .later }
def ScaleSetupsCardSaid : Prop := Claim7.holds Tryz.pinned (.plain (OpenSpec.ofChange scaleSetupsSpec)) scaleSetupsCard

/-- THE TIED CARD OF 'integraphlaw06.ScaleChanges'. -/
def scaleChangesCard : Claim7 := { stood := { row := scaleChangesRow, standIns := [], harness := (true, "9954644cfe82d0faaade2cbd6ad83c371632d67e0ebf13b4759dcdf199e4fbe5"), looks := true }, kinds := [], alts := [], laidByText := true, laidKinds := [.data, .data, .data, .sentinel, .sentinel], laidTests := true, laidLooks := .later }
def ScaleChangesCardSaid : Prop := Claim7.holds Tryz.pinned (.plain (OpenSpec.ofChange scaleChangesSpec)) scaleChangesCard

/-- THE TIED CARD OF 'integraphlaw06.ScaleRanges'. -/
def scaleRangesCard : Claim7 := { stood := { row := scaleRangesRow, standIns := [], harness := (true, "9954644cfe82d0faaade2cbd6ad83c371632d67e0ebf13b4759dcdf199e4fbe5"), looks := true }, kinds := [], alts := [], laidByText := true, laidKinds := [.data, .data, .data, .sentinel, .sentinel], laidTests := true, laidLooks := .later }
def ScaleRangesCardSaid : Prop := Claim7.holds Tryz.pinned (.plain (OpenSpec.ofChange scaleRangesSpec)) scaleRangesCard

/-- THE SECOND FORM's CARD OF 'integraphlaw06.ScaleGreatest'. -/
def scaleGreatestUptoCard : Claim7 := { stood := { row := scaleGreatestUptoRow, standIns := [], harness := (true, "9954644cfe82d0faaade2cbd6ad83c371632d67e0ebf13b4759dcdf199e4fbe5"), looks := true }, kinds := [], alts := [], laidByText := true, laidKinds := [.data, .data, .data, .sentinel, .sentinel], laidTests := true, laidLooks := .later }
def ScaleGreatestUptoCardSaid : Prop := Claim7.holds Tryz.pinned (.plain (OpenSpec.upto scaleGreatestSpec)) scaleGreatestUptoCard

/-- THE SECOND FORM's CARD OF 'integraphlaw06.ScaleBest'. -/
def scaleBestUptoCard : Claim7 := { stood := { row := scaleBestUptoRow, standIns := [], harness := (true, "9954644cfe82d0faaade2cbd6ad83c371632d67e0ebf13b4759dcdf199e4fbe5"), looks := true }, kinds := [], alts := [], laidByText := true, laidKinds := [.data, .data, .data, .sentinel, .sentinel], laidTests := true, laidLooks := .later }
def ScaleBestUptoCardSaid : Prop := Claim7.holds Tryz.pinned (.plain (OpenSpec.upto scaleBestSpec)) scaleBestUptoCard

/-- THE SECOND FORM's CARD OF 'integraphlaw06.ScaleKeeps'. -/
def scaleKeepsUptoCard : Claim7 := { stood := { row := scaleKeepsUptoRow, standIns := [], harness := (true, "9954644cfe82d0faaade2cbd6ad83c371632d67e0ebf13b4759dcdf199e4fbe5"), looks := true }, kinds := [], alts := [], laidByText := true, laidKinds := [.data, .data, .data, .sentinel, .sentinel], laidTests := true, laidLooks := .later }
def ScaleKeepsUptoCardSaid : Prop := Claim7.holds Tryz.pinned (.plain (OpenSpec.upto scaleKeepsSpec)) scaleKeepsUptoCard

/-- THE SECOND FORM's CARD OF 'integraphlaw06.ScaleSetups'. -/
def scaleSetupsUptoCard : Claim7 := { stood := { row := scaleSetupsUptoRow, standIns := [], harness := (true, "9954644cfe82d0faaade2cbd6ad83c371632d67e0ebf13b4759dcdf199e4fbe5"), looks := true }, kinds := [], alts := [], laidByText := true, laidKinds := [.data, .data, .data, .sentinel, .sentinel], laidTests := true, laidLooks := .later }
def ScaleSetupsUptoCardSaid : Prop := Claim7.holds Tryz.pinned (.plain (OpenSpec.upto scaleSetupsSpec)) scaleSetupsUptoCard

/-- THE SECOND FORM's CARD OF 'integraphlaw06.ScaleChanges'. -/
def scaleChangesUptoCard : Claim7 := { stood := { row := scaleChangesUptoRow, standIns := [], harness := (true, "9954644cfe82d0faaade2cbd6ad83c371632d67e0ebf13b4759dcdf199e4fbe5"), looks := true }, kinds := [], alts := [], laidByText := true, laidKinds := [.data, .data, .data, .sentinel, .sentinel], laidTests := true, laidLooks := .later }
def ScaleChangesUptoCardSaid : Prop := Claim7.holds Tryz.pinned (.plain (OpenSpec.upto scaleChangesSpec)) scaleChangesUptoCard

/-- THE SECOND FORM's CARD OF 'integraphlaw06.ScaleRanges'. -/
def scaleRangesUptoCard : Claim7 := { stood := { row := scaleRangesUptoRow, standIns := [], harness := (true, "9954644cfe82d0faaade2cbd6ad83c371632d67e0ebf13b4759dcdf199e4fbe5"), looks := true }, kinds := [], alts := [], laidByText := true, laidKinds := [.data, .data, .data, .sentinel, .sentinel], laidTests := true, laidLooks := .later }
def ScaleRangesUptoCardSaid : Prop := Claim7.holds Tryz.pinned (.plain (OpenSpec.upto scaleRangesSpec)) scaleRangesUptoCard
end Rows
end Go.Proofs.YtpoaaoihkhdijaaGreatDoor
