/- Parts of the proof of ScaleLimits (Limits and Conditions return the results or the errors of the reference), at every input, with no further conditions. -/
import Derived.Test.YtdgocdadfmhjgaaGreatDoorZAS
import Derived.Test.YtdgocdadfmhjgaaGreatDoorZAT
import Derived.Test.YtdgocdadfmhjgaaGreatDoorZAU
set_option linter.all false
set_option maxRecDepth 100000
set_option maxHeartbeats 0
namespace Go.Proofs.YtdgocdadfmhjgaaGreatDoor.ScaleLimitsProof
open Go Go.ChangeShapes Go.WideShapes Go.ChangeAt Go.RowKit
set_option maxRecDepth 100000
theorem card:Rows.ScaleLimitsCardSaid:=Claim7.holds_tied_plain_at .later [] _ _ _ _ said (λ_ h=>by cases h) aar (λ_ h=>by cases h) scaleLimits_row_tie start ⟨rfl,rfl⟩ main har plain goes
end Go.Proofs.YtdgocdadfmhjgaaGreatDoor.ScaleLimitsProof
