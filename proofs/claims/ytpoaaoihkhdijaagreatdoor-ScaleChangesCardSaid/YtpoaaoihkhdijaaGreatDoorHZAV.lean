/- Parts of the proof of ScaleChanges (as AIM.md's row tells), at every input, with no further conditions. -/
import Derived.Test.YtpoaaoihkhdijaaGreatDoorHZAS
import Derived.Test.YtpoaaoihkhdijaaGreatDoorHZAT
import Derived.Test.YtpoaaoihkhdijaaGreatDoorHZAU
set_option linter.all false
set_option maxRecDepth 100000
set_option maxHeartbeats 0
namespace Go.Proofs.YtpoaaoihkhdijaaGreatDoor.ScaleChangesProof
open Go Go.ChangeShapes Go.WideShapes Go.ChangeAt Go.RowKit
set_option maxRecDepth 100000
theorem card:Rows.ScaleChangesCardSaid:=Claim7.holds_tied_plain_at .later [] _ _ _ _ said (λ_ h=>by cases h) V8 (λ_ h=>by cases h) scaleChanges_row_tie start ⟨rfl,rfl⟩ main har plain goes
end Go.Proofs.YtpoaaoihkhdijaaGreatDoor.ScaleChangesProof
