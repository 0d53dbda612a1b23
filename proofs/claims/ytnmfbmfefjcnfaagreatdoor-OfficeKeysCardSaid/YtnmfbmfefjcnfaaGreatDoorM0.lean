/- Pieces 0 to 2 of head. -/
import Derived.Test.YtnmfbmfefjcnfaaGreatDoorLd
set_option linter.unusedSectionVars false
/- One step of head, by the kernel. -/
namespace Pe
open Go
set_option linter.unusedSectionVars false
noncomputable section
variable [PowG]
set_option maxRecDepth 100000
theorem head_0 : CodeF P0 0 (cL hq0) (mkFr 174 []) (mkA []) (.norm, hF0, mkA hO0) :=
  CodeF.run (X := xOf XL4) (multi := just1 133) (d := 100000) (N := loopN) (l := []) (ts := hT0) (vs := hV0) (os := hO0) (ids := hI0) ext4 mixed (by kernel_rfl) (by kernel_rfl) (by kernel_rfl) (by kernel_rfl) (by kernel_rfl)
end
end Pe

/- One step of head, by the kernel. -/
namespace Pe
open Go
set_option linter.unusedSectionVars false
noncomputable section
variable [PowG]
set_option maxRecDepth 100000
theorem head_1 : CodeF P0 0 (cL hq1) hF0 (mkA hO0) (.norm, hF1, mkA hO1) :=
  CodeF.run (X := xOf XL4) (multi := just1 133) (d := 100000) (N := loopN) (l := (hT0.zip hV0)) (ts := hT1) (vs := hV1) (os := hO1) (ids := hI1) ext4 mixed (by kernel_rfl) (by kernel_rfl) (by kernel_rfl) (by kernel_rfl) (by kernel_rfl)
end
end Pe

/- One step of head, by the kernel. -/
namespace Pe
open Go
set_option linter.unusedSectionVars false
noncomputable section
variable [PowG]
set_option maxRecDepth 100000
theorem head_2 : CodeF P0 0 (cL hq2) hF1 (mkA hO1) (.norm, hF2, mkA hO2) :=
  CodeF.run (X := xOf XL4) (multi := just1 133) (d := 100000) (N := loopN) (l := (hT1.zip hV1)) (ts := hT2) (vs := hV2) (os := hO2) (ids := hI2) ext4 mixed (by kernel_rfl) (by kernel_rfl) (by kernel_rfl) (by kernel_rfl) (by kernel_rfl)
end
end Pe
