/- A world that meets what the row of OfficeKeys asks. -/
import Derived.Test.YtnmfbmfefjcnfaaGreatDoorRx
namespace Go.Proofs.YtnmfbmfefjcnfaaGreatDoor
open Go Go.ChangeShapes Go.WideShapes Go.ChangeAt Go.RowKit
set_option maxRecDepth 100000
def witArgs : Array Value := #[.int .i64 0, .string ⟨#[]⟩, .int .i64 0]
noncomputable def witWorld (os : Os) : World := (World.laidAll Tryz.prog os Rows.officeKeysRow.laid).forCall (fun _ _ => 0) ⟨#[], witArgs, []⟩
theorem s1 (os : Os) : (witWorld os).variablesZipB Tryz.prog = true := by kernel_rfl
theorem s2 (os : Os) : ((witWorld os).heap.toList.drop Tryz.prog.globals.size).take ((begin Tryz.prog (fun _ _ => 0) default).world.heap.size - Tryz.prog.globals.size) = (begin Tryz.prog (fun _ _ => 0) default).world.heap.toList.drop Tryz.prog.globals.size := by kernel_rfl
theorem s3 (os : Os) : Input.okWideB Tryz.checked.prog (witWorld os) 3 ⟨#[], witArgs, []⟩ = true := by kernel_rfl
theorem s4 (os : Os) {H : Type} (enc : TypeId × Value → H) : Rows.officeKeysSpec.preB enc Tryz.checked.prog Tryz.f3 [] false (witWorld os).memory witArgs 8 = true := by kernel_rfl
theorem s5 (os : Os) {H : Type} (enc : TypeId × Value → H) : Rows.officeKeysSpec.sizedB enc Tryz.checked.prog Tryz.f3 false (witWorld os).memory witArgs 8 = true := by kernel_rfl
theorem s6 (os : Os) : (World.holding Tryz.prog os ⟨#[], #[], []⟩).layFits Tryz.prog Rows.officeKeysRow.laid [] = true := by kernel_rfl
theorem s7 (os : Os) : (World.holding Tryz.prog os ⟨#[], #[], []⟩).layIfaces Tryz.prog Rows.officeKeysRow.laid (World.laidAll Tryz.prog os Rows.officeKeysRow.laid) = true := by kernel_rfl
end Go.Proofs.YtnmfbmfefjcnfaaGreatDoor
