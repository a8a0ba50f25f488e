/- Parts of the proof of ScaleChanges (as AIM.md's row tells), at every input, with no further conditions. -/
import Derived.Test.YtpoaaoihkhdijaaGreatDoorRows
import Derived.Test.YtpoaaoihkhdijaaGreatDoorChecked
import Derived.Test.YtpoaaoihkhdijaaGreatDoorCards
import Derived.Test.YtpoaaoihkhdijaaGreatDoorTie
import Derived.Laws.StandIn
set_option linter.all false
set_option maxRecDepth 100000
set_option maxHeartbeats 0
namespace Go.Proofs.YtpoaaoihkhdijaaGreatDoor.ScaleChangesProof
open Go
set_option maxRecDepth 100000
def goes:false=Rows.scaleChangesRow.goesBy Tryz.pinned.checked.prog:=by kernel_rfl
end Go.Proofs.YtpoaaoihkhdijaaGreatDoor.ScaleChangesProof
