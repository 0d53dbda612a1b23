/- What the card of OfficeKeys asks of the program, first part. -/
import Derived.Test.YtnmfbmfefjcnfaaGreatDoorRows
import Derived.LaidByTextLater
import Derived.SevenTiedAt
namespace Go.Proofs.YtnmfbmfefjcnfaaGreatDoor
open Go
set_option maxHeartbeats 0
set_option maxRecDepth 100000
theorem t1 : Rows.officeKeysRow.wfByText (OpenSpec.ofChange Rows.officeKeysSpec) = true := by kernel_rfl
theorem t2 : Tryz.pinned.checked.prog.mainIs = some (true, "ac60ddd9a8ce84d23db0ff91d174b1a0b286651bbe4167f48d77915a97399ac5".toList) := by kernel_rfl
theorem t4 : ([3, 9].all fun u => !Tryz.prog.wantsStandIn u) = true := by kernel_rfl
theorem pin_first : Tryz.pinned.checked.prog.pinnedFits "unicode/utf8.first" = true := by kernel_rfl
theorem noOwnUnsafe : Tryz.pinned.checked.prog.headLifts.contains "ownunsafe" = false := by kernel_rfl
theorem pinIs : Pinned.datum "unicode/utf8.first" = some Rows.laid_unicode_utf8_first := by kernel_rfl
end Go.Proofs.YtnmfbmfefjcnfaaGreatDoor
