/- Every row of the table of types is laid out. -/
import Derived.Test.YtnmfbmfefjcnfaaGreatDoorRa
namespace Go.Proofs.YtnmfbmfefjcnfaaGreatDoor
open Go
set_option maxRecDepth 100000
theorem fine0 : allFrom (rowFine Tryz.prog) 0 121 = true := by kernel_rfl
theorem mapr0 : allFrom (fun t => match Tryz.prog.underlying t with | some (.map _ e) => decide (e < 964) | _ => true) 0 121 = true := by kernel_rfl
theorem fine1 : allFrom (rowFine Tryz.prog) 121 121 = true := by kernel_rfl
theorem mapr1 : allFrom (fun t => match Tryz.prog.underlying t with | some (.map _ e) => decide (e < 964) | _ => true) 121 121 = true := by kernel_rfl
theorem fine2 : allFrom (rowFine Tryz.prog) 242 121 = true := by kernel_rfl
theorem mapr2 : allFrom (fun t => match Tryz.prog.underlying t with | some (.map _ e) => decide (e < 964) | _ => true) 242 121 = true := by kernel_rfl
theorem fine3 : allFrom (rowFine Tryz.prog) 363 121 = true := by kernel_rfl
theorem mapr3 : allFrom (fun t => match Tryz.prog.underlying t with | some (.map _ e) => decide (e < 964) | _ => true) 363 121 = true := by kernel_rfl
theorem fine4 : allFrom (rowFine Tryz.prog) 484 121 = true := by kernel_rfl
theorem mapr4 : allFrom (fun t => match Tryz.prog.underlying t with | some (.map _ e) => decide (e < 964) | _ => true) 484 121 = true := by kernel_rfl
theorem fine5 : allFrom (rowFine Tryz.prog) 605 121 = true := by kernel_rfl
theorem mapr5 : allFrom (fun t => match Tryz.prog.underlying t with | some (.map _ e) => decide (e < 964) | _ => true) 605 121 = true := by kernel_rfl
theorem fine6 : allFrom (rowFine Tryz.prog) 726 121 = true := by kernel_rfl
theorem mapr6 : allFrom (fun t => match Tryz.prog.underlying t with | some (.map _ e) => decide (e < 964) | _ => true) 726 121 = true := by kernel_rfl
theorem fine7 : allFrom (rowFine Tryz.prog) 847 117 = true := by kernel_rfl
theorem mapr7 : allFrom (fun t => match Tryz.prog.underlying t with | some (.map _ e) => decide (e < 964) | _ => true) 847 117 = true := by kernel_rfl
theorem tsize : Tryz.prog.types.size = 964 := by kernel_rfl
theorem gfine : Tryz.prog.globals.all (fun g => decide (g.type < 964)) = true := by kernel_rfl
theorem ffine : Tryz.prog.funcs.all (fun f => f.params.all fun t => decide (t < 964)) = true := by kernel_rfl
theorem k1 : laidOutB Tryz.prog = true := by
  unfold laidOutB
  rw [tsize, gfine, ffine, Bool.and_true, Bool.and_true, List.all_eq_true]
  intro i hi
  have hi := List.mem_range.1 hi
  rcases Nat.lt_or_ge i 121 with h0 | h0
  · exact allFrom_ok fine0 i (by omega) (by omega)
  rcases Nat.lt_or_ge i 242 with h1 | h1
  · exact allFrom_ok fine1 i (by omega) (by omega)
  rcases Nat.lt_or_ge i 363 with h2 | h2
  · exact allFrom_ok fine2 i (by omega) (by omega)
  rcases Nat.lt_or_ge i 484 with h3 | h3
  · exact allFrom_ok fine3 i (by omega) (by omega)
  rcases Nat.lt_or_ge i 605 with h4 | h4
  · exact allFrom_ok fine4 i (by omega) (by omega)
  rcases Nat.lt_or_ge i 726 with h5 | h5
  · exact allFrom_ok fine5 i (by omega) (by omega)
  rcases Nat.lt_or_ge i 847 with h6 | h6
  · exact allFrom_ok fine6 i (by omega) (by omega)
  exact allFrom_ok fine7 i (by omega) (by omega)
theorem k2 : mapsRowed Tryz.prog = true := by
  unfold mapsRowed
  rw [tsize, List.all_eq_true]
  intro i hi
  have hi := List.mem_range.1 hi
  rcases Nat.lt_or_ge i 121 with h0 | h0
  · exact allFrom_ok mapr0 i (by omega) (by omega)
  rcases Nat.lt_or_ge i 242 with h1 | h1
  · exact allFrom_ok mapr1 i (by omega) (by omega)
  rcases Nat.lt_or_ge i 363 with h2 | h2
  · exact allFrom_ok mapr2 i (by omega) (by omega)
  rcases Nat.lt_or_ge i 484 with h3 | h3
  · exact allFrom_ok mapr3 i (by omega) (by omega)
  rcases Nat.lt_or_ge i 605 with h4 | h4
  · exact allFrom_ok mapr4 i (by omega) (by omega)
  rcases Nat.lt_or_ge i 726 with h5 | h5
  · exact allFrom_ok mapr5 i (by omega) (by omega)
  rcases Nat.lt_or_ge i 847 with h6 | h6
  · exact allFrom_ok mapr6 i (by omega) (by omega)
  exact allFrom_ok mapr7 i (by omega) (by omega)
end Go.Proofs.YtnmfbmfefjcnfaaGreatDoor
