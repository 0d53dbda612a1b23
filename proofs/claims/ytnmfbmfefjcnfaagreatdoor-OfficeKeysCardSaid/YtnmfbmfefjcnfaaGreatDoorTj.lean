/- What the card of OfficeKeys asks of the program, fourth part: what is listed fits. -/
import Derived.Test.YtnmfbmfefjcnfaaGreatDoorTg
namespace Go.Proofs.YtnmfbmfefjcnfaaGreatDoor
open Go
set_option maxHeartbeats 0
set_option maxRecDepth 100000
theorem fits1 : Tryz.pinned.checked.prog.listedFits Rows.officeKeysRow.laid = true := by
  unfold Program.listedFits
  rw [noOwnUnsafe]
  kernel_rfl
end Go.Proofs.YtnmfbmfefjcnfaaGreatDoor
