/- The last pieces of head, and head. -/
import Derived.Test.YtnmfbmfefjcnfaaGreatDoorLd
import Derived.Test.YtnmfbmfefjcnfaaGreatDoorM0
import Derived.Test.YtnmfbmfefjcnfaaGreatDoorM3
import Derived.Test.YtnmfbmfefjcnfaaGreatDoorM4
import Derived.Test.YtnmfbmfefjcnfaaGreatDoorM5
import Derived.Test.YtnmfbmfefjcnfaaGreatDoorM6
import Derived.Test.YtnmfbmfefjcnfaaGreatDoorM7
import Derived.Test.YtnmfbmfefjcnfaaGreatDoorM8
import Derived.Test.YtnmfbmfefjcnfaaGreatDoorM9
import Derived.Test.YtnmfbmfefjcnfaaGreatDoorM10
set_option linter.unusedSectionVars false
/- One step of head, by the kernel. -/
namespace Pe
open Go
set_option linter.unusedSectionVars false
noncomputable section
variable [PowG]
set_option maxRecDepth 100000
theorem head_11 : CodeF P0 0 (cL hq11) hF10 (mkA hO10) (.norm, hF11, mkA hO11) :=
  CodeF.run (X := xOf XL4) (multi := just1 133) (d := 100000) (N := loopN) (l := (hT10.zip hV10)) (ts := hT11) (vs := hV11) (os := hO11) (ids := hI11) ext4 mixed (by kernel_rfl) (by kernel_rfl) (by kernel_rfl) (by kernel_rfl) (by kernel_rfl)
end
end Pe

/- One step of head, by the kernel. -/
namespace Pe
open Go
set_option linter.unusedSectionVars false
noncomputable section
variable [PowG]
set_option maxRecDepth 100000
theorem head_12 : CodeF P0 0 (cL hq12) hF11 (mkA hO11) (.norm, hF12, mkA hO12) :=
  CodeF.run (X := xOf XL4) (multi := just1 133) (d := 100000) (N := loopN) (l := (hT11.zip hV11)) (ts := hT12) (vs := hV12) (os := hO12) (ids := hI12) ext4 mixed (by kernel_rfl) (by kernel_rfl) (by kernel_rfl) (by kernel_rfl) (by kernel_rfl)
end
end Pe

/- One step of head, by the kernel. -/
namespace Pe
open Go
set_option linter.unusedSectionVars false
noncomputable section
variable [PowG]
set_option maxRecDepth 100000
theorem head_13 : CodeF P0 0 (cL hq13) hF12 (mkA hO12) (.norm, hF13, mkA hO13) :=
  CodeF.run (X := xOf XL4) (multi := just1 133) (d := 100000) (N := loopN) (l := (hT12.zip hV12)) (ts := hT13) (vs := hV13) (os := hO13) (ids := hI13) ext4 mixed (by kernel_rfl) (by kernel_rfl) (by kernel_rfl) (by kernel_rfl) (by kernel_rfl)
end
end Pe

/- One step of head, by the kernel. -/
namespace Pe
open Go
set_option linter.unusedSectionVars false
noncomputable section
variable [PowG]
set_option maxRecDepth 100000
theorem head_14 : CodeF P0 0 (cL hq14) hF13 (mkA hO13) (.norm, hF14, mkA hO14) :=
  CodeF.run (X := xOf XL4) (multi := just1 133) (d := 100000) (N := loopN) (l := (hT13.zip hV13)) (ts := hT14) (vs := hV14) (os := hO14) (ids := hI14) ext4 mixed (by kernel_rfl) (by kernel_rfl) (by kernel_rfl) (by kernel_rfl) (by kernel_rfl)
end
end Pe

/- head: it returns true. -/
namespace Pe
open Go
set_option linter.unusedSectionVars false
noncomputable section
variable [PowG]
set_option maxRecDepth 100000
theorem head_shape : hq0 = .seq (cL hq0) (.seq (cL hq1) (.seq (cL hq2) (.seq (cL hq3) (.seq (cL hq4) (.seq (cL hq5) (.seq (cL hq6) (.seq (cL hq7) (.seq (cL hq8) (.seq (cL hq9) (.seq (cL hq10) (.seq (cL hq11) (.seq (cL hq12) (.seq (cL hq13) (.seq (cL hq14) hq15)))))))))))))) := by kernel_rfl
theorem head_code : CodeF P0 0 hq0 (mkFr 174 []) (mkA []) (.jump .ret, hF14, mkA hO14) := by
  rw [head_shape]
  exact (.seq head_0 (.seq head_1 (.seq head_2 (.seq head_3 (.seq head_4 (.seq head_5 (.seq head_6 (.seq head_7 (.seq head_8 (.seq head_9 (.seq head_10 (.seq head_11 (.seq head_12 (.seq head_13 (.seq head_14 (by rw [show hq15 = .ret from by kernel_rfl]; exact .ret))))))))))))))))
theorem head_fun : FunF P0 0 4 [] (mkA []) (.bool true) (mkA hO14) :=
  FunF.body (fn := funAt 4) (c := hq0) (vs := [.bool true]) (by kernel_rfl) (by kernel_rfl) (by kernel_rfl) (by
    have : frame0 (funAt 4) [] = mkFr 174 [] := by kernel_rfl
    rw [this]
    exact head_code) (.inr rfl) rfl (by kernel_rfl)
noncomputable def xHead : XF := ⟨fun l σ => List.rec (motive := fun _ => Option (AV × AW)) (some (.bool true, σ)) (fun _ _ _ => none) l⟩
theorem con_head : ConOk P0 4 xHead := by
  intro xs σ r h ρ w args hs hg hx
  cases xs with
  | cons x tl => cases h
  | nil =>
    cases h
    exact head_fun.plain rfl rfl hs hg hx
end
end Pe
