/- What the card of OfficeKeys asks of the program, second part. -/
import Derived.Test.YtnmfbmfefjcnfaaGreatDoorTg
namespace Go.Proofs.YtnmfbmfefjcnfaaGreatDoor
open Go
set_option maxHeartbeats 0
set_option maxRecDepth 100000
theorem t3 : true = Tryz.pinned.checked.prog.looks [] := by kernel_rfl
end Go.Proofs.YtnmfbmfefjcnfaaGreatDoor
