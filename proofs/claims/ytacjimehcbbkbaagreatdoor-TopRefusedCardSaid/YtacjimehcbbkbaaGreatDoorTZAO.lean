/- TopRefused holds. -/
import Derived.Test.YtacjimehcbbkbaaGreatDoorRows
import Derived.Test.YtacjimehcbbkbaaGreatDoorChecked
import Derived.Test.YtacjimehcbbkbaaGreatDoorCards
import Derived.Laws.StandIn
set_option linter.all false
set_option maxRecDepth 100000
set_option maxHeartbeats 0
namespace Go.Proofs.YtacjimehcbbkbaaGreatDoor.TopRefusedProof
open Go
set_option maxRecDepth 100000
def goes:false=Rows.topRefusedRow.goesBy Tryz.pinned.checked.prog:=by kernel_rfl
end Go.Proofs.YtacjimehcbbkbaaGreatDoor.TopRefusedProof
