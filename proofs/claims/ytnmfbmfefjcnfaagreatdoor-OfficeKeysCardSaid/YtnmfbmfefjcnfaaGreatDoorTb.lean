/- What the tie asks of the head of the dump and of the names. -/
import Derived.Test.YtnmfbmfefjcnfaaGreatDoorTa
namespace Go.Proofs.YtnmfbmfefjcnfaaGreatDoor
open Go
set_option maxHeartbeats 0
set_option maxRecDepth 100000
theorem ties_1 : Tryz.prog.worded (varsWordLater true) = true := by kernel_rfl
theorem ties_2 : Tryz.prog.worded (varsWordLater !true) = false := by kernel_rfl
theorem ties_3 : Tryz.prog.worded rootWordLater = true := by kernel_rfl
theorem ties_5 : (Tryz.prog.funcNamed "gosem.cut.vars").isSome = true := by kernel_rfl
theorem ties_4 : theLaid.map (fun x => Tryz.prog.kindOfLater x.1) = ([.data, .data, .data, .data, .sentinel, .sentinel] : List LaidKind).map some := by kernel_rfl
end Go.Proofs.YtnmfbmfefjcnfaaGreatDoor
