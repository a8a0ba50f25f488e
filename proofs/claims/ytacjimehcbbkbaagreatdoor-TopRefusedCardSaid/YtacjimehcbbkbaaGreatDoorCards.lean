/-
  DERIVED. GIVEN WITH THE SEED: THE CARDS: each row of YtacjimehcbbkbaaGreatDoorRows.lean that lists a variable, with what it lists TIED to the program's text (the seventh form; the later family's looks); each row that meets fmt, with fmt's text TOLD by the authors' own Lean function (tested against real Go, not proved from fmt's source: count such statements apart). THE CARD IS WHAT COUNTS. Prove the row's statement (the work); the ties are given (YtacjimehcbbkbaaGreatDoorTie.lean); close each card by the builder's one call (the guide's Derived/Test/ToyasCard.lean, 'card_holds'). Laid BY PROGRAM, IN A SANDBOX (cutbox-door.mjs). By AI agents, Wed Nov 11 2026. No macro, syntax, notation, axiom, sorry.
-/
import Derived.Test.YtacjimehcbbkbaaGreatDoorRows
import GoSem.ClaimSeven
namespace Go.Proofs.YtacjimehcbbkbaaGreatDoor
namespace Rows

/-- THE TIED CARD OF 'integraphlaw06.ScaleRanges'. -/
def scaleRangesCard : Claim7 := { stood := { row := scaleRangesRow, standIns := [], harness := (true, "17e7dd421416a00d8d5f5404f1058ffac148f02891df996c3c5ac79551a9a522"), looks := true }, kinds := [], alts := [], laidByText := true, laidKinds := [.data, .data, .data, .sentinel, .sentinel], laidTests := true, laidLooks := .later }
def ScaleRangesCardSaid : Prop := Claim7.holds Tryz.pinned (.plain (OpenSpec.ofChange scaleRangesSpec)) scaleRangesCard

/-- THE TIED CARD OF 'integraphlaw06.ScaleTurns'. -/
def scaleTurnsCard : Claim7 := { stood := { row := scaleTurnsRow, standIns := [], harness := (true, "17e7dd421416a00d8d5f5404f1058ffac148f02891df996c3c5ac79551a9a522"), looks := true }, kinds := [], alts := [], laidByText := true, laidKinds := [.data, .data, .data, .sentinel, .sentinel], laidTests := true, laidLooks := .later }
def ScaleTurnsCardSaid : Prop := Claim7.holds Tryz.pinned (.plain (OpenSpec.ofChange scaleTurnsSpec)) scaleTurnsCard

/-- THE TIED CARD OF 'integraphlaw06.ScaleSeries'. -/
def scaleSeriesCard : Claim7 := { stood := { row := scaleSeriesRow, standIns := [], harness := (true, "17e7dd421416a00d8d5f5404f1058ffac148f02891df996c3c5ac79551a9a522"), looks := true }, kinds := [], alts := [], laidByText := true, laidKinds := [.data, .data, .data, .sentinel, .sentinel], laidTests := true, laidLooks := .later }
def ScaleSeriesCardSaid : Prop := Claim7.holds Tryz.pinned (.plain (OpenSpec.ofChange scaleSeriesSpec)) scaleSeriesCard

/-- THE TIED CARD OF 'integraphtop.TopRefused'. -/
def topRefusedCard : Claim7 := { stood := { row := topRefusedRow, standIns := [], harness := (true, "17e7dd421416a00d8d5f5404f1058ffac148f02891df996c3c5ac79551a9a522"), looks := true }, kinds := [], alts := [], laidByText := true, laidKinds := [.data, .data, .data, .sentinel, .sentinel], laidTests := true, laidLooks := .later }
def TopRefusedCardSaid : Prop := Claim7.holds Tryz.pinned (.plain (OpenSpec.ofChange topRefusedSpec)) topRefusedCard

/-- THE SECOND FORM's CARD OF 'integraphlaw06.ScaleRanges'. -/
def scaleRangesUptoCard : Claim7 := { stood := { row := scaleRangesUptoRow, standIns := [], harness := (true, "17e7dd421416a00d8d5f5404f1058ffac148f02891df996c3c5ac79551a9a522"), looks := true }, kinds := [], alts := [], laidByText := true, laidKinds := [.data, .data, .data, .sentinel, .sentinel], laidTests := true, laidLooks := .later }
def ScaleRangesUptoCardSaid : Prop := Claim7.holds Tryz.pinned (.plain (OpenSpec.upto scaleRangesSpec)) scaleRangesUptoCard

/-- THE SECOND FORM's CARD OF 'integraphlaw06.ScaleTurns'. -/
def scaleTurnsUptoCard : Claim7 := { stood := { row := scaleTurnsUptoRow, standIns := [], harness := (true, "17e7dd421416a00d8d5f5404f1058ffac148f02891df996c3c5ac79551a9a522"), looks := true }, kinds := [], alts := [], laidByText := true, laidKinds := [.data, .data, .data, .sentinel, .sentinel], laidTests := true, laidLooks := .later }
def ScaleTurnsUptoCardSaid : Prop := Claim7.holds Tryz.pinned (.plain (OpenSpec.upto scaleTurnsSpec)) scaleTurnsUptoCard

/-- THE SECOND FORM's CARD OF 'integraphlaw06.ScaleSeries'. -/
def scaleSeriesUptoCard : Claim7 := { stood := { row := scaleSeriesUptoRow, standIns := [], harness := (true, "17e7dd421416a00d8d5f5404f1058ffac148f02891df996c3c5ac79551a9a522"), looks := true }, kinds := [], alts := [], laidByText := true, laidKinds := [.data, .data, .data, .sentinel, .sentinel], laidTests := true, laidLooks := .later }
def ScaleSeriesUptoCardSaid : Prop := Claim7.holds Tryz.pinned (.plain (OpenSpec.upto scaleSeriesSpec)) scaleSeriesUptoCard

/-- THE SECOND FORM's CARD OF 'integraphtop.TopRefused'. -/
def topRefusedUptoCard : Claim7 := { stood := { row := topRefusedUptoRow, standIns := [], harness := (true, "17e7dd421416a00d8d5f5404f1058ffac148f02891df996c3c5ac79551a9a522"), looks := true }, kinds := [], alts := [], laidByText := true, laidKinds := [.data, .data, .data, .sentinel, .sentinel], laidTests := true, laidLooks := .later }
def TopRefusedUptoCardSaid : Prop := Claim7.holds Tryz.pinned (.plain (OpenSpec.upto topRefusedSpec)) topRefusedUptoCard
end Rows
end Go.Proofs.YtacjimehcbbkbaaGreatDoor
