/- What the card of OfficeKeys asks of the program, third part: no function starts a goroutine. -/
import Derived.Test.YtnmfbmfefjcnfaaGreatDoorRows
import GoSem.ClaimGoes
import Derived.SevenTiedAt
namespace Go.Proofs.YtnmfbmfefjcnfaaGreatDoor
open Go
set_option maxHeartbeats 0
set_option maxRecDepth 100000
theorem noGoes : Tryz.prog.funcs.any Func.goes = false := by kernel_rfl
theorem goes_none {P : Program} (h : P.funcs.any Func.goes = false) (f : FuncId) : P.goes f = false := by
  unfold Program.goes
  rw [h, Bool.and_false, Bool.or_false, List.any_eq_false]
  intro g _ hg
  cases hx : P.funcs[g]? with
  | none => rw [hx] at hg; cases hg
  | some fn =>
    rw [hx] at hg
    have hg' : fn.goes = true := hg
    obtain ⟨hlt, he⟩ := Array.getElem?_eq_some_iff.1 hx
    have : P.funcs.any Func.goes = true := Array.any_eq_true.2 ⟨g, hlt, by rw [he]; exact hg'⟩
    rw [h] at this; cases this
end Go.Proofs.YtnmfbmfefjcnfaaGreatDoor
