/- TopRefused holds. -/
import Derived.Test.YtacjimehcbbkbaaGreatDoorTZAM
import Derived.Test.YtacjimehcbbkbaaGreatDoorTZAN
import Derived.Test.YtacjimehcbbkbaaGreatDoorTZAO
set_option linter.all false
set_option maxRecDepth 100000
set_option maxHeartbeats 0
namespace Go.Proofs.YtacjimehcbbkbaaGreatDoor.TopRefusedProof
open Go Go.ChangeShapes Go.WideShapes Go.ChangeAt Go.RowKit
set_option maxRecDepth 100000
theorem card:Rows.TopRefusedCardSaid:=Claim7.holds_tied_plain_at .later [] _ _ _ _ said (λ_ h=>by cases h) ab5 (λ_ h=>by cases h) (OpenClaim.laidByTextAt_later rfl rfl (Program.laidByTextLater_by_one 62 8 65 (by kernel_rfl) (by kernel_rfl) (by kernel_rfl) (by kernel_rfl) (by kernel_rfl) (by kernel_rfl) λ_ _=>by kernel_rfl)<|by kernel_rfl) start ⟨rfl,rfl⟩ main har plain goes
end Go.Proofs.YtacjimehcbbkbaaGreatDoor.TopRefusedProof
