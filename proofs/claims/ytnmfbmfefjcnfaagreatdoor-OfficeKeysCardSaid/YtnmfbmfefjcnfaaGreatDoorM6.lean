/- One step of head, by the kernel. -/
import Derived.Test.YtnmfbmfefjcnfaaGreatDoorLd
set_option linter.unusedSectionVars false
namespace Pe
open Go
set_option linter.unusedSectionVars false
noncomputable section
variable [PowG]
set_option maxRecDepth 100000
theorem head_6 : CodeF P0 0 (cL hq6) hF5 (mkA hO5) (.norm, hF6, mkA hO6) :=
  CodeF.run (X := xOf XL4) (multi := just1 133) (d := 100000) (N := loopN) (l := (hT5.zip hV5)) (ts := hT6) (vs := hV6) (os := hO6) (ids := hI6) ext4 mixed (by kernel_rfl) (by kernel_rfl) (by kernel_rfl) (by kernel_rfl) (by kernel_rfl)
end
end Pe
