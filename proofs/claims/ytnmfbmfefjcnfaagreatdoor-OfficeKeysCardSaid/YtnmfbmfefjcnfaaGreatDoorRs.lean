/- How many functions the functions name, all together. -/
import Derived.Test.YtnmfbmfefjcnfaaGreatDoorRa
namespace Go.Proofs.YtnmfbmfefjcnfaaGreatDoor
open Go
set_option maxRecDepth 100000
theorem fuelIs : 1 + (Tryz.prog.funcs.toList.map fun g => (Tryz.prog.leadsTo g).length + 1).sum = 2493 := by kernel_rfl
end Go.Proofs.YtnmfbmfefjcnfaaGreatDoor
