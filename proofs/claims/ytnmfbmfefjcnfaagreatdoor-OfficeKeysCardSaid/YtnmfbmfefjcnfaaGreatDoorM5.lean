/- One step of head, by the kernel. -/
import Derived.Test.YtnmfbmfefjcnfaaGreatDoorLd
set_option linter.unusedSectionVars false
namespace Pe
open Go
set_option linter.unusedSectionVars false
noncomputable section
variable [PowG]
set_option maxRecDepth 100000
theorem head_5 : CodeF P0 0 (cL hq5) hF4 (mkA hO4) (.norm, hF5, mkA hO5) :=
  CodeF.run (X := xOf XL4) (multi := just1 133) (d := 100000) (N := loopN) (l := (hT4.zip hV4)) (ts := hT5) (vs := hV5) (os := hO5) (ids := hI5) ext4 mixed (by kernel_rfl) (by kernel_rfl) (by kernel_rfl) (by kernel_rfl) (by kernel_rfl)
end
end Pe
