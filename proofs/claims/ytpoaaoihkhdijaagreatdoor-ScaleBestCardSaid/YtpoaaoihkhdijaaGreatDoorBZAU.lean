/- Parts of the proof of ScaleBest (Best returns the greatest set-up, and Refuse a circle that the reference accepts, if there is none; or the errors of the reference), at every input, with no further conditions. -/
import Derived.Test.YtpoaaoihkhdijaaGreatDoorBZAR
import Derived.Test.YtpoaaoihkhdijaaGreatDoorBZAS
import Derived.Test.YtpoaaoihkhdijaaGreatDoorBZAT
set_option linter.all false
set_option maxRecDepth 100000
set_option maxHeartbeats 0
namespace Go.Proofs.YtpoaaoihkhdijaaGreatDoor.ScaleBestProof
open Go Go.ChangeShapes Go.WideShapes Go.ChangeAt Go.RowKit
set_option maxRecDepth 100000
theorem card:Rows.ScaleBestCardSaid:=Claim7.holds_tied_plain_at .later [] _ _ _ _ said (λ_ h=>by cases h) V8 (λ_ h=>by cases h) scaleBest_row_tie start ⟨rfl,rfl⟩ main har plain goes
end Go.Proofs.YtpoaaoihkhdijaaGreatDoor.ScaleBestProof
