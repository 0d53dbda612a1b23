/- The run that lays the variables ends. -/
import Derived.Test.YtnmfbmfefjcnfaaGreatDoorTa
namespace Go.Proofs.YtnmfbmfefjcnfaaGreatDoor
open Go
set_option maxHeartbeats 0
set_option maxRecDepth 100000
theorem ties_7 (os) (tape) : varsDone Tryz.prog 400 (varsId Tryz.prog) os tape = true := by
  rw [vid]
  kernel_rfl
end Go.Proofs.YtnmfbmfefjcnfaaGreatDoor
