/- Parts of the proof of ScaleNumbers (CheckBench, Exponent and Largest answer as the reference does), at every input, with no further conditions. -/
import Derived.Test.YtdgocdadfmhjgaaGreatDoorRows
import Derived.Test.YtdgocdadfmhjgaaGreatDoorChecked
import Derived.Test.YtdgocdadfmhjgaaGreatDoorCards
import Derived.Test.YtdgocdadfmhjgaaGreatDoorTie
import Derived.Laws.StandIn
set_option linter.unusedVariables false
set_option linter.unusedSimpArgs false
namespace Go.Proofs.YtdgocdadfmhjgaaGreatDoor.ScaleNumbersProof
open Go
set_option maxRecDepth 100000
theorem goes:false=Rows.scaleNumbersRow.goesBy Tryz.pinned.checked.prog:=by kernel_rfl
end Go.Proofs.YtdgocdadfmhjgaaGreatDoor.ScaleNumbersProof
