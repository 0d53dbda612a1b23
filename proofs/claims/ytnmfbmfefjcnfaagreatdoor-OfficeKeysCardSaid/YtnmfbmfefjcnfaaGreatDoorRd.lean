/- What stands in place in the reach of OfficeKeys, and the variables that it names. -/
import Derived.Test.YtnmfbmfefjcnfaaGreatDoorRq
namespace Go.Proofs.YtnmfbmfefjcnfaaGreatDoor
open Go
set_option maxRecDepth 100000
theorem ipAll : reachAll.filterMap ipF = ["internal/abi.NoEscape", "internal/bytealg.IndexByteString", "internal/bytealg.IndexString", "internal/bytealg.MakeNoZero", "sync/atomic.LoadUint32", "(*internal/sync.Mutex).Lock", "internal/race.Disable", "sync/atomic.CompareAndSwapInt32", "internal/race.Enable", "internal/race.Acquire", "(*internal/sync.Mutex).lockSlow", "internal/sync.runtime_canSpin", "internal/sync.runtime_doSpin", "internal/sync.throw", "internal/sync.runtime_nanotime", "internal/sync.runtime_SemacquireMutex", "sync/atomic.AddInt32", "(*internal/sync.Mutex).Unlock", "internal/race.ReleaseMerge", "(*internal/sync.Mutex).unlockSlow", "internal/sync.fatal", "internal/sync.runtime_Semrelease", "sync/atomic.StoreUint32", "slices.overlaps[*pandect/api.Known]", "slices.overlaps[pandect/api.Item]", "internal/bytealg.CountString"] := by
  unfold reachAll
  rw [List.filterMap_append, ip0, List.filterMap_append, ip1, List.filterMap_append, ip2, ip3]
  rfl
theorem gnAll : reachAll.flatMap gnF = [3, 6, 7, 4, 5, 0, 1, 2, 2, 2] := by
  unfold reachAll
  rw [List.flatMap_append, gn0, List.flatMap_append, gn1, List.flatMap_append, gn2, gn3]
  rfl
theorem erAll : reachAll.filterMap erF = ["internal/bytealg.MaxLen"] := by
  unfold reachAll
  rw [List.filterMap_append, er0, List.filterMap_append, er1, List.filterMap_append, er2, er3]
  rfl
theorem ipEq : (Rows.officeKeysRow.inPlace == ["internal/abi.NoEscape", "internal/bytealg.IndexByteString", "internal/bytealg.IndexString", "internal/bytealg.MakeNoZero", "sync/atomic.LoadUint32", "(*internal/sync.Mutex).Lock", "internal/race.Disable", "sync/atomic.CompareAndSwapInt32", "internal/race.Enable", "internal/race.Acquire", "(*internal/sync.Mutex).lockSlow", "internal/sync.runtime_canSpin", "internal/sync.runtime_doSpin", "internal/sync.throw", "internal/sync.runtime_nanotime", "internal/sync.runtime_SemacquireMutex", "sync/atomic.AddInt32", "(*internal/sync.Mutex).Unlock", "internal/race.ReleaseMerge", "(*internal/sync.Mutex).unlockSlow", "internal/sync.fatal", "internal/sync.runtime_Semrelease", "sync/atomic.StoreUint32", "slices.overlaps[*pandect/api.Known]", "slices.overlaps[pandect/api.Item]", "internal/bytealg.CountString"]) = true := by kernel_rfl
theorem gnEq : (Rows.officeKeysRow.named == ((([3, 6, 7, 4, 5, 0, 1, 2, 2, 2] : List Nat).eraseDups).filterMap (fun g => (Tryz.prog.globals[g]?).map (·.name)) ++ ["internal/bytealg.MaxLen"]).eraseDups) = true := by kernel_rfl
theorem ipIs : Tryz.prog.inPlace 3 = (Tryz.prog.closure 3).filterMap ipF := rfl
theorem gnIs : Tryz.prog.varsNamed 3 = ((((Tryz.prog.closure 3).flatMap gnF).eraseDups).filterMap (fun g => (Tryz.prog.globals[g]?).map (·.name)) ++ (Tryz.prog.closure 3).filterMap erF).eraseDups := rfl
theorem k8 : (Rows.officeKeysRow.inPlace == Tryz.prog.inPlace 3) = true := by
  rw [ipIs, closure_eq, ipAll]
  exact ipEq
theorem k11 : (Rows.officeKeysRow.named == Tryz.prog.varsNamed 3) = true := by
  rw [gnIs, closure_eq, gnAll, erAll]
  exact gnEq
theorem unf : reachAll.any (fun g => (Tryz.prog.funcs[g]?).any fun fn => match fn.body with | some c => c.unfollowed | none => entryCalls fn) = true := by kernel_rfl
theorem unfIs : Tryz.prog.unfollowed 3 = true := by
  have e : Tryz.prog.unfollowed 3 = (Tryz.prog.closure 3).any (fun g => (Tryz.prog.funcs[g]?).any fun fn => match fn.body with | some c => c.unfollowed | none => entryCalls fn) := rfl
  rw [e, closure_eq]
  exact unf
theorem k9 : (Rows.officeKeysRow.unfollowed == Tryz.prog.unfollowed 3) = true := by rw [unfIs]; rfl
theorem k10 : (Rows.officeKeysRow.recurses == Tryz.prog.recurses 3) = true := by
  unfold Program.recurses
  rw [unfIs]; rfl
end Go.Proofs.YtnmfbmfefjcnfaaGreatDoor
