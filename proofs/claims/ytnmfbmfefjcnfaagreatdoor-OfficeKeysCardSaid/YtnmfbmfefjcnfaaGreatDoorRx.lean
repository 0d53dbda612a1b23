/- Where OfficeKeys starts: a world that meets what the row asks; and what that gives the call. -/
import Derived.Test.YtnmfbmfefjcnfaaGreatDoorRows
import Derived.ProofKit
import Derived.OpenShut
import Derived.Lay
import Derived.LaidMore
import Derived.Stop.Joined
namespace Go.Proofs.YtnmfbmfefjcnfaaGreatDoor
open Go Go.ChangeShapes Go.WideShapes Go.ChangeAt Go.RowKit
set_option maxRecDepth 100000
theorem own : ownKnob Tryz.prog.godebug = none := by kernel_rfl
theorem gPow : Tryz.prog.globalNamed "internal/strconv.uint64pow10" = some 3 := by kernel_rfl
theorem tPow : (Tryz.prog.globals[3]?).map (·.type) = some 634 := by kernel_rfl
theorem c634 : Tryz.prog.cellsOf 634 = 20 := by kernel_rfl
theorem c312 : Tryz.prog.cellsOf 312 = 1 := by kernel_rfl
theorem u312 : Tryz.prog.underlying 312 = some (.int .u64) := by kernel_rfl
theorem plainLaid : (Rows.officeKeysRow.laid.all fun x => x.2.handleName?.isNone) = true := by kernel_rfl
/-- The third of the powers of ten is a hundred. -/
theorem of_laid {W : World} (h : laidMetH Tryz.prog Rows.officeKeysRow.laid W) : W.cell? ⟨3, 2, none⟩ = some (.int .u64 100) := by
  rw [MakeChecks.laidMetH_plain _ _ _ plainLaid] at h
  obtain ⟨ps, ⟨g0, t0, cs0, f0, p0, q0, hg0, ht0, hv0, hd0, _⟩, _, _⟩ := h
  obtain rfl := Option.some.inj (gPow.symm.trans hg0)
  obtain rfl := Option.some.inj (tPow.symm.trans ht0)
  obtain ⟨xs, m1, rfl, hx1, hlen, hn, hel⟩ := DataW.trod_array Tryz.underlying634 hd0
  have h2 := hel 2 (by decide)
  rw [c312] at h2
  simp only [Prod.mk.injEq] at hx1
  have hm := hx1.1
  unfold Rows.laid_internal_strconv_uint64pow10 at hm
  rw [DataW.agg.injEq] at hm
  have e2 : (xs.map fun x => x.1)[2]? = some (.lit (.int .u64 100)) := by rw [← hm]; rfl
  rw [List.getElem?_map] at e2
  cases hx : xs[2]? with
  | none => rw [hx] at e2; cases e2
  | some x2 =>
    rw [hx] at e2 h2
    obtain ⟨n, k1, k2, _⟩ := DataW.trod_int u312 h2
    simp only [Option.map_some, Option.some.injEq] at e2
    rw [k2] at e2
    simp only [DataW.lit.injEq, Lit.int.injEq, true_and] at e2
    subst e2
    have hc := World.var?_cell hg0 hv0 2
    rw [hc]
    have k3 := congrArg (fun l => l[0]?) k1
    simpa using k3
end Go.Proofs.YtnmfbmfefjcnfaaGreatDoor
