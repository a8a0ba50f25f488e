/- Parts of the proof of ScaleGreatest (no set-up that CheckSetup accepts has a shaft's exponent that is greater than that of Best, there is none where Best finds none, and Best grows with Shaft and Gear), at every input, with no further conditions. -/
import Derived.Test.YtpoaaoihkhdijaaGreatDoorRows
import Derived.Test.YtpoaaoihkhdijaaGreatDoorChecked
import Derived.Test.YtpoaaoihkhdijaaGreatDoorCards
import Derived.Test.YtpoaaoihkhdijaaGreatDoorTie
import Derived.Laws.StandIn
set_option linter.all false
set_option maxRecDepth 100000
set_option maxHeartbeats 0
namespace Go.Proofs.YtpoaaoihkhdijaaGreatDoor.ScaleGreatestProof
open Go
set_option maxRecDepth 100000
def goes:false=Rows.scaleGreatestRow.goesBy Tryz.pinned.checked.prog:=by kernel_rfl
end Go.Proofs.YtpoaaoihkhdijaaGreatDoor.ScaleGreatestProof
