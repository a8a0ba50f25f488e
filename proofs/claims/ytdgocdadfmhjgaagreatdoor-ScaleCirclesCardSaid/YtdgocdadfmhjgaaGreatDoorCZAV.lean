/- Parts of the proof of ScaleCircles (CheckRefused returns the error of the reference), at every input, with no further conditions. -/
import Derived.Test.YtdgocdadfmhjgaaGreatDoorCZAS
import Derived.Test.YtdgocdadfmhjgaaGreatDoorCZAT
import Derived.Test.YtdgocdadfmhjgaaGreatDoorCZAU
set_option linter.all false
set_option maxRecDepth 100000
set_option maxHeartbeats 0
namespace Go.Proofs.YtdgocdadfmhjgaaGreatDoor.ScaleCirclesProof
open Go Go.ChangeShapes Go.WideShapes Go.ChangeAt Go.RowKit
set_option maxRecDepth 100000
theorem card:Rows.ScaleCirclesCardSaid:=Claim7.holds_tied_plain_at .later [] _ _ _ _ said (λ_ h=>by cases h) aar (λ_ h=>by cases h) scaleCircles_row_tie start ⟨rfl,rfl⟩ main har plain goes
end Go.Proofs.YtdgocdadfmhjgaaGreatDoor.ScaleCirclesProof
