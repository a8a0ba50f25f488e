/- Parts of the proof of ScaleBest (Best returns the greatest set-up, and Refuse a circle that the reference accepts, if there is none; or the errors of the reference), at every input, with no further conditions. -/
import Derived.Test.YtpoaaoihkhdijaaGreatDoorRows
import Derived.Test.YtpoaaoihkhdijaaGreatDoorChecked
import Derived.Test.YtpoaaoihkhdijaaGreatDoorCards
import Derived.Test.YtpoaaoihkhdijaaGreatDoorTie
import Derived.Laws.StandIn
set_option linter.all false
set_option maxRecDepth 100000
set_option maxHeartbeats 0
namespace Go.Proofs.YtpoaaoihkhdijaaGreatDoor.ScaleBestProof
open Go
set_option maxRecDepth 100000
def goes:false=Rows.scaleBestRow.goesBy Tryz.pinned.checked.prog:=by kernel_rfl
end Go.Proofs.YtpoaaoihkhdijaaGreatDoor.ScaleBestProof
