/- One step of head, by the kernel. -/
import Derived.Test.YtnmfbmfefjcnfaaGreatDoorLd
set_option linter.unusedSectionVars false
namespace Pe
open Go
set_option linter.unusedSectionVars false
noncomputable section
variable [PowG]
set_option maxRecDepth 100000
theorem head_8 : CodeF P0 0 (cL hq8) hF7 (mkA hO7) (.norm, hF8, mkA hO8) :=
  CodeF.run (X := xOf XL4) (multi := just1 133) (d := 100000) (N := loopN) (l := (hT7.zip hV7)) (ts := hT8) (vs := hV8) (os := hO8) (ids := hI8) ext4 mixed (by kernel_rfl) (by kernel_rfl) (by kernel_rfl) (by kernel_rfl) (by kernel_rfl)
end
end Pe
