/- OfficeKeys returns true for every number, key and height, and leaves what was there as it was; its row's conditions: the package variables that it lists read as they are listed. -/
import Derived.Test.YtnmfbmfefjcnfaaGreatDoorRz
import Derived.Test.YtnmfbmfefjcnfaaGreatDoorRw
namespace Go.Proofs.YtnmfbmfefjcnfaaGreatDoor
open Go
set_option maxRecDepth 100000
theorem named3 : Tryz.prog.funcNamed "pandect/pandectlaw49.OfficeKeys" = some 3 := by kernel_rfl
theorem officeKeys_holds : Rows.OfficeKeysSaid :=
  OpenClaim.holds_of_wide (p := Tryz.pinned) 3 Tryz.f3 rfl rfl rfl rfl rfl rfl rfl ⟨rfl, rfl, rfl, rfl, rfl⟩ rfl rfl rfl rfl rfl named3 Tryz.func3 closed
    (of_decide_eq_true (by kernel_rfl)) (by unfold Func.isWrapper; first | (rw [if_pos (by decide +kernel)]; kernel_rfl) | (rw [if_neg (by decide +kernel)]; exact ⟨rfl, rfl⟩))
    (fun os started H enc _ => lifted os started H enc)
#print axioms officeKeys_holds
end Go.Proofs.YtnmfbmfefjcnfaaGreatDoor
