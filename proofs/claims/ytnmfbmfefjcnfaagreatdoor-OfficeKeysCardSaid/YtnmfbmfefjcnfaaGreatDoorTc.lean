/- What the tie asks of the names that are laid. -/
import Derived.Test.YtnmfbmfefjcnfaaGreatDoorTa
namespace Go.Proofs.YtnmfbmfefjcnfaaGreatDoor
open Go
set_option maxHeartbeats 0
set_option maxRecDepth 100000
theorem ties_6 : varsNamedLaterB Tryz.prog (varsId Tryz.prog) theLaid = true := by
  rw [vid]
  kernel_rfl
end Go.Proofs.YtnmfbmfefjcnfaaGreatDoor
