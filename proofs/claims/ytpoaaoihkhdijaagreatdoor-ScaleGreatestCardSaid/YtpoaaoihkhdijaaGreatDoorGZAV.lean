/- Parts of the proof of ScaleGreatest (no set-up that CheckSetup accepts has a shaft's exponent that is greater than that of Best, there is none where Best finds none, and Best grows with Shaft and Gear), at every input, with no further conditions. -/
import Derived.Test.YtpoaaoihkhdijaaGreatDoorGZAS
import Derived.Test.YtpoaaoihkhdijaaGreatDoorGZAT
import Derived.Test.YtpoaaoihkhdijaaGreatDoorGZAU
set_option linter.all false
set_option maxRecDepth 100000
set_option maxHeartbeats 0
namespace Go.Proofs.YtpoaaoihkhdijaaGreatDoor.ScaleGreatestProof
open Go Go.ChangeShapes Go.WideShapes Go.ChangeAt Go.RowKit
set_option maxRecDepth 100000
theorem card:Rows.ScaleGreatestCardSaid:=Claim7.holds_tied_plain_at .later [] _ _ _ _ said (λ_ h=>by cases h) V8 (λ_ h=>by cases h) scaleGreatest_row_tie start ⟨rfl,rfl⟩ main har plain goes
end Go.Proofs.YtpoaaoihkhdijaaGreatDoor.ScaleGreatestProof
