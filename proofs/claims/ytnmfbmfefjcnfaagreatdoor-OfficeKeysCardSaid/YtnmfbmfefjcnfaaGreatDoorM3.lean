/- One step of head, by the kernel. -/
import Derived.Test.YtnmfbmfefjcnfaaGreatDoorLd
set_option linter.unusedSectionVars false
namespace Pe
open Go
set_option linter.unusedSectionVars false
noncomputable section
variable [PowG]
set_option maxRecDepth 100000
theorem head_3 : CodeF P0 0 (cL hq3) hF2 (mkA hO2) (.norm, hF3, mkA hO3) :=
  CodeF.run (X := xOf XL4) (multi := just1 133) (d := 100000) (N := loopN) (l := (hT2.zip hV2)) (ts := hT3) (vs := hV3) (os := hO3) (ids := hI3) ext4 mixed (by kernel_rfl) (by kernel_rfl) (by kernel_rfl) (by kernel_rfl) (by kernel_rfl)
end
end Pe
