/- Parts of the proof of ScaleNumbers (CheckBench, Exponent and Largest answer as the reference does), at every input, with no further conditions. -/
import Derived.Test.YtdgocdadfmhjgaaGreatDoorZAV
import Derived.Test.YtdgocdadfmhjgaaGreatDoorZAW
import Derived.Test.YtdgocdadfmhjgaaGreatDoorZAX
set_option linter.unusedVariables false
set_option linter.unusedSimpArgs false
namespace Go.Proofs.YtdgocdadfmhjgaaGreatDoor.ScaleNumbersProof
open Go Go.ChangeShapes Go.WideShapes Go.ChangeAt Go.RowKit
set_option maxRecDepth 100000
theorem card:Rows.ScaleNumbersCardSaid:=Claim7.holds_tied_plain_at .later [] _ _ _ _ said (fun _ h=>by cases h) Ux (fun _ h=>by cases h) scaleNumbers_row_tie start ⟨rfl,rfl⟩ main har plain goes
end Go.Proofs.YtdgocdadfmhjgaaGreatDoor.ScaleNumbersProof
