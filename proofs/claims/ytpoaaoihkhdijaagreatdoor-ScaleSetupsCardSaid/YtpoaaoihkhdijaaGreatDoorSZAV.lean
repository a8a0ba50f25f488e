/- Parts of the proof of ScaleSetups (as AIM.md's row tells), at every input, with no further conditions. -/
import Derived.Test.YtpoaaoihkhdijaaGreatDoorSZAS
import Derived.Test.YtpoaaoihkhdijaaGreatDoorSZAT
import Derived.Test.YtpoaaoihkhdijaaGreatDoorSZAU
set_option linter.all false
set_option maxRecDepth 100000
set_option maxHeartbeats 0
namespace Go.Proofs.YtpoaaoihkhdijaaGreatDoor.ScaleSetupsProof
open Go Go.ChangeShapes Go.WideShapes Go.ChangeAt Go.RowKit
set_option maxRecDepth 100000
theorem card:Rows.ScaleSetupsCardSaid:=Claim7.holds_tied_plain_at .later [] _ _ _ _ said (λ_ h=>by cases h) V8 (λ_ h=>by cases h) scaleSetups_row_tie start ⟨rfl,rfl⟩ main har plain goes
end Go.Proofs.YtpoaaoihkhdijaaGreatDoor.ScaleSetupsProof
