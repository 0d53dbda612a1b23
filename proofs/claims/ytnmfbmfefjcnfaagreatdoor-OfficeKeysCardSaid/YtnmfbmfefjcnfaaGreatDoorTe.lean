/- The run lays what the row lists. -/
import Derived.Test.YtnmfbmfefjcnfaaGreatDoorTa
namespace Go.Proofs.YtnmfbmfefjcnfaaGreatDoor
open Go
set_option maxHeartbeats 0
set_option maxRecDepth 100000
theorem ties_8 (os) (tape) : (DataW.laidRun Tryz.prog (varsWorld Tryz.prog 400 (varsId Tryz.prog) os tape).memory 8 (theLaid.map (·.1))).map (·.1) = some theLaid := by
  rw [vid]
  kernel_rfl
end Go.Proofs.YtnmfbmfefjcnfaaGreatDoor
