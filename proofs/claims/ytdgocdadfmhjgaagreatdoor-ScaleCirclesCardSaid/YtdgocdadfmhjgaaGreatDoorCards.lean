/-
  DERIVED. GIVEN WITH THE SEED: THE CARDS: each row of YtdgocdadfmhjgaaGreatDoorRows.lean that lists a variable, with what it lists TIED to the program's text (the seventh form; the later family's looks); each row that meets fmt, with fmt's text TOLD by the authors' own Lean function (tested against real Go, not proved from fmt's source: count such statements apart). THE CARD IS WHAT COUNTS. Prove the row's statement (the work); the ties are given (YtdgocdadfmhjgaaGreatDoorTie.lean); close each card by the builder's one call (the guide's Derived/Test/ToyasCard.lean, 'card_holds'). Laid BY PROGRAM, IN A SANDBOX (cutbox-door.mjs). By AI agents, Wed Nov 11 2026. No macro, syntax, notation, axiom, sorry.
-/
import Derived.Test.YtdgocdadfmhjgaaGreatDoorRows
import GoSem.ClaimSeven
namespace Go.Proofs.YtdgocdadfmhjgaaGreatDoor
namespace Rows

/-- THE TIED CARD OF 'integraphlaw06.ScaleLimits'. -/
def scaleLimitsCard : Claim7 := { stood := { row := scaleLimitsRow, standIns := [], harness := (true, "4176a5bb68dc293df4e4be0dd4368e9fd1bb1a2062694dae16ba2e5e6924222e"), looks := true }, kinds := [], alts := [], laidByText := true, laidKinds := [.data, .data, .data, .sentinel, .sentinel], laidTests := true, laidLooks := .later }
def ScaleLimitsCardSaid : Prop := Claim7.holds Tryz.pinned (.plain (OpenSpec.ofChange scaleLimitsSpec)) scaleLimitsCard

/-- THE TIED CARD OF 'integraphlaw06.ScaleCircles'. -/
def scaleCirclesCard : Claim7 := { stood := { row := scaleCirclesRow, standIns := [], harness := (true, "4176a5bb68dc293df4e4be0dd4368e9fd1bb1a2062694dae16ba2e5e6924222e"), looks := true }, kinds := [], alts := [], laidByText := true, laidKinds := [.data, .data, .data, .sentinel, .sentinel], laidTests := true, laidLooks := .later }
def ScaleCirclesCardSaid : Prop := Claim7.holds Tryz.pinned (.plain (OpenSpec.ofChange scaleCirclesSpec)) scaleCirclesCard

/-- THE TIED CARD OF 'integraphlaw06.ScaleGreatest'. -/
def scaleGreatestCard : Claim7 := { stood := { row := scaleGreatestRow, standIns := [], harness := (true, "4176a5bb68dc293df4e4be0dd4368e9fd1bb1a2062694dae16ba2e5e6924222e"), looks := true }, kinds := [], alts := [], laidByText := true, laidKinds := [.data, .data, .data, .sentinel, .sentinel], laidTests := true, laidLooks := .later }
def ScaleGreatestCardSaid : Prop := Claim7.holds Tryz.pinned (.plain (OpenSpec.ofChange scaleGreatestSpec)) scaleGreatestCard

/-- THE TIED CARD OF 'integraphlaw06.ScaleNumbers'. -/
def scaleNumbersCard : Claim7 := { stood := { row := scaleNumbersRow, standIns := [], harness := (true, "4176a5bb68dc293df4e4be0dd4368e9fd1bb1a2062694dae16ba2e5e6924222e"), looks := true }, kinds := [], alts := [], laidByText := true, laidKinds := [.data, .data, .data, .sentinel, .sentinel], laidTests := true, laidLooks := .later }
def ScaleNumbersCardSaid : Prop := Claim7.holds Tryz.pinned (.plain (OpenSpec.ofChange scaleNumbersSpec)) scaleNumbersCard

/-- THE SECOND FORM's CARD OF 'integraphlaw06.ScaleLimits'. -/
def scaleLimitsUptoCard : Claim7 := { stood := { row := scaleLimitsUptoRow, standIns := [], harness := (true, "4176a5bb68dc293df4e4be0dd4368e9fd1bb1a2062694dae16ba2e5e6924222e"), looks := true }, kinds := [], alts := [], laidByText := true, laidKinds := [.data, .data, .data, .sentinel, .sentinel], laidTests := true, laidLooks := .later }
def ScaleLimitsUptoCardSaid : Prop := Claim7.holds Tryz.pinned (.plain (OpenSpec.upto scaleLimitsSpec)) scaleLimitsUptoCard

/-- THE SECOND FORM's CARD OF 'integraphlaw06.ScaleCircles'. -/
def scaleCirclesUptoCard : Claim7 := { stood := { row := scaleCirclesUptoRow, standIns := [], harness := (true, "4176a5bb68dc293df4e4be0dd4368e9fd1bb1a2062694dae16ba2e5e6924222e"), looks := true }, kinds := [], alts := [], laidByText := true, laidKinds := [.data, .data, .data, .sentinel, .sentinel], laidTests := true, laidLooks := .later }
def ScaleCirclesUptoCardSaid : Prop := Claim7.holds Tryz.pinned (.plain (OpenSpec.upto scaleCirclesSpec)) scaleCirclesUptoCard

/-- THE SECOND FORM's CARD OF 'integraphlaw06.ScaleGreatest'. -/
def scaleGreatestUptoCard : Claim7 := { stood := { row := scaleGreatestUptoRow, standIns := [], harness := (true, "4176a5bb68dc293df4e4be0dd4368e9fd1bb1a2062694dae16ba2e5e6924222e"), looks := true }, kinds := [], alts := [], laidByText := true, laidKinds := [.data, .data, .data, .sentinel, .sentinel], laidTests := true, laidLooks := .later }
def ScaleGreatestUptoCardSaid : Prop := Claim7.holds Tryz.pinned (.plain (OpenSpec.upto scaleGreatestSpec)) scaleGreatestUptoCard

/-- THE SECOND FORM's CARD OF 'integraphlaw06.ScaleNumbers'. -/
def scaleNumbersUptoCard : Claim7 := { stood := { row := scaleNumbersUptoRow, standIns := [], harness := (true, "4176a5bb68dc293df4e4be0dd4368e9fd1bb1a2062694dae16ba2e5e6924222e"), looks := true }, kinds := [], alts := [], laidByText := true, laidKinds := [.data, .data, .data, .sentinel, .sentinel], laidTests := true, laidLooks := .later }
def ScaleNumbersUptoCardSaid : Prop := Claim7.holds Tryz.pinned (.plain (OpenSpec.upto scaleNumbersSpec)) scaleNumbersUptoCard
end Rows
end Go.Proofs.YtdgocdadfmhjgaaGreatDoor
