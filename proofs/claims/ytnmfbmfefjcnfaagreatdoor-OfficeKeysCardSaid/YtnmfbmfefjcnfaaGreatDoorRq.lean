/- What stands in place in the reach of OfficeKeys, and the variables that it names, piece by piece. -/
import Derived.Test.YtnmfbmfefjcnfaaGreatDoorRc
namespace Go.Proofs.YtnmfbmfefjcnfaaGreatDoor
open Go
set_option maxRecDepth 100000
noncomputable def ipF (g : FuncId) : Option String := (Tryz.prog.funcs[g]?).bind fun fn => if fn.ours || fn.body.isNone || fn.name == "runtime.NumGoroutine" then some fn.name else none
noncomputable def gnF (g : FuncId) : List Nat := ((Tryz.prog.funcs[g]?).bind (·.body)).elim [] Code.globalsNamed
noncomputable def erF (g : FuncId) : Option String := (Tryz.prog.funcs[g]?).bind fun fn => if fn.body.isNone then entryReads.lookup fn.name else none
theorem ip0 : reach0.filterMap ipF = ["internal/abi.NoEscape", "internal/bytealg.IndexByteString", "internal/bytealg.IndexString"] := by kernel_rfl
theorem gn0 : reach0.flatMap gnF = [3, 6, 7, 4, 5, 0, 1, 2, 2, 2] := by kernel_rfl
theorem er0 : reach0.filterMap erF = ["internal/bytealg.MaxLen"] := by kernel_rfl
theorem ip1 : reach1.filterMap ipF = ["internal/bytealg.MakeNoZero", "sync/atomic.LoadUint32", "(*internal/sync.Mutex).Lock", "internal/race.Disable", "sync/atomic.CompareAndSwapInt32", "internal/race.Enable", "internal/race.Acquire", "(*internal/sync.Mutex).lockSlow", "internal/sync.runtime_canSpin", "internal/sync.runtime_doSpin", "internal/sync.throw", "internal/sync.runtime_nanotime", "internal/sync.runtime_SemacquireMutex", "sync/atomic.AddInt32", "(*internal/sync.Mutex).Unlock", "internal/race.ReleaseMerge", "(*internal/sync.Mutex).unlockSlow", "internal/sync.fatal", "internal/sync.runtime_Semrelease"] := by kernel_rfl
theorem gn1 : reach1.flatMap gnF = [] := by kernel_rfl
theorem er1 : reach1.filterMap erF = [] := by kernel_rfl
theorem ip2 : reach2.filterMap ipF = ["sync/atomic.StoreUint32", "slices.overlaps[*pandect/api.Known]", "slices.overlaps[pandect/api.Item]"] := by kernel_rfl
theorem gn2 : reach2.flatMap gnF = [] := by kernel_rfl
theorem er2 : reach2.filterMap erF = [] := by kernel_rfl
theorem ip3 : reach3.filterMap ipF = ["internal/bytealg.CountString"] := by kernel_rfl
theorem gn3 : reach3.flatMap gnF = [] := by kernel_rfl
theorem er3 : reach3.filterMap erF = [] := by kernel_rfl
end Go.Proofs.YtnmfbmfefjcnfaaGreatDoor
