/- ScaleRanges holds of the program, under no condition. -/
import Derived.Test.YtacjimehcbbkbaaGreatDoorRZAN
import Derived.Test.YtacjimehcbbkbaaGreatDoorRZAO
import Derived.Test.YtacjimehcbbkbaaGreatDoorRZAP
set_option linter.all false
set_option maxRecDepth 100000
set_option maxHeartbeats 0
namespace Go.Proofs.YtacjimehcbbkbaaGreatDoor.ScaleRangesProof
open Go Go.ChangeShapes Go.WideShapes Go.ChangeAt Go.RowKit
set_option maxRecDepth 100000
theorem card:Rows.ScaleRangesCardSaid:=Claim7.holds_tied_plain_at .later [] _ _ _ _ said (λ_ h=>by cases h) aaW (λ_ h=>by cases h) scaleRanges_row_tie start ⟨rfl,rfl⟩ main har plain goes
end Go.Proofs.YtacjimehcbbkbaaGreatDoor.ScaleRangesProof
