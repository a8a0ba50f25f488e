/- Parts of the proof of ScaleCircles (CheckRefused returns the error of the reference), at every input, with no further conditions. -/
import Derived.Test.YtdgocdadfmhjgaaGreatDoorRows
import Derived.Test.YtdgocdadfmhjgaaGreatDoorChecked
import Derived.Test.YtdgocdadfmhjgaaGreatDoorCards
import Derived.Test.YtdgocdadfmhjgaaGreatDoorTie
import Derived.Laws.StandIn
set_option linter.all false
set_option maxRecDepth 100000
set_option maxHeartbeats 0
namespace Go.Proofs.YtdgocdadfmhjgaaGreatDoor.ScaleCirclesProof
open Go
set_option maxRecDepth 100000
def goes:false=Rows.scaleCirclesRow.goesBy Tryz.pinned.checked.prog:=by kernel_rfl
end Go.Proofs.YtdgocdadfmhjgaaGreatDoor.ScaleCirclesProof
