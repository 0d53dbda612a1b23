/- One step of head, by the kernel. -/
import Derived.Test.YtnmfbmfefjcnfaaGreatDoorLd
set_option linter.unusedSectionVars false
namespace Pe
open Go
set_option linter.unusedSectionVars false
noncomputable section
variable [PowG]
set_option maxRecDepth 100000
theorem head_7 : CodeF P0 0 (cL hq7) hF6 (mkA hO6) (.norm, hF7, mkA hO7) :=
  CodeF.run (X := xOf XL4) (multi := just1 133) (d := 100000) (N := loopN) (l := (hT6.zip hV6)) (ts := hT7) (vs := hV7) (os := hO7) (ids := hI7) ext4 mixed (by kernel_rfl) (by kernel_rfl) (by kernel_rfl) (by kernel_rfl) (by kernel_rfl)
end
end Pe
