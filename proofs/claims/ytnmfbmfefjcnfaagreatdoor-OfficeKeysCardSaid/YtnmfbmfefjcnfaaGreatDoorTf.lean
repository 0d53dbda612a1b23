/- What the run lays lies apart, and may be turned. -/
import Derived.Test.YtnmfbmfefjcnfaaGreatDoorTa
namespace Go.Proofs.YtnmfbmfefjcnfaaGreatDoor
open Go
set_option maxHeartbeats 0
set_option maxRecDepth 100000
theorem ties_9 (os) (tape) : (DataW.laidRun Tryz.prog (varsWorld Tryz.prog 400 (varsId Tryz.prog) os tape).memory 8 (theLaid.map (·.1))).map (fun x => decide x.2.Nodup && laidRowsB Tryz.prog (varsWorld Tryz.prog 400 (varsId Tryz.prog) os tape).memory x.2) = some true := by
  rw [vid]
  kernel_rfl
end Go.Proofs.YtnmfbmfefjcnfaaGreatDoor
