/- ScaleRanges holds of the program, under no condition. -/
import Derived.Test.YtacjimehcbbkbaaGreatDoorRows
import Derived.Test.YtacjimehcbbkbaaGreatDoorChecked
import Derived.Test.YtacjimehcbbkbaaGreatDoorCards
import Derived.Test.YtacjimehcbbkbaaGreatDoorTie
import Derived.Laws.StandIn
set_option linter.all false
set_option maxRecDepth 100000
set_option maxHeartbeats 0
namespace Go.Proofs.YtacjimehcbbkbaaGreatDoor.ScaleRangesProof
open Go
set_option maxRecDepth 100000
def goes:false=Rows.scaleRangesRow.goesBy Tryz.pinned.checked.prog:=by kernel_rfl
end Go.Proofs.YtacjimehcbbkbaaGreatDoor.ScaleRangesProof
