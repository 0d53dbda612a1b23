/- The closed cells of the row of OfficeKeys are what the program forces. -/
import Derived.Test.YtnmfbmfefjcnfaaGreatDoorRd
import Derived.Test.YtnmfbmfefjcnfaaGreatDoorRt
import Derived.ProofKit
import Derived.OpenShut
import Derived.Stop.Joined
namespace Go.Proofs.YtnmfbmfefjcnfaaGreatDoor
open Go
set_option maxRecDepth 100000
theorem grown_still {P : Program} {l : List TypeId} (h : P.grown 1 l = l) : ∀ n, P.grown n l = l
  | 0 => rfl
  | n + 1 => by
    have h1 : P.grown (n + 1) l = P.grown n (P.grown 1 l) := rfl
    rw [h1, h]; exact grown_still h n
theorem grown_add {P : Program} : ∀ (k n : Nat) (l : List TypeId), P.grown (k + n) l = P.grown n (P.grown k l)
  | 0, n, l => by rw [Nat.zero_add]; rfl
  | k + 1, n, l => by
    have e : k + 1 + n = (k + n) + 1 := by omega
    rw [e]
    exact grown_add k n (P.grow l)
theorem book_via {t : TypeId} {l : List TypeId} (h1 : Tryz.prog.grown 2 [t] = l) (h2 : Tryz.prog.grown 1 l = l) : Tryz.prog.book t = l := by
  unfold Program.book
  rw [tsize, show (964 : Nat) = 2 + 962 from rfl, grown_add, h1, grown_still h2]
theorem b3 : Tryz.prog.book 3 = [3] := book_via (by kernel_rfl) (by kernel_rfl)
theorem b4 : Tryz.prog.book 4 = [4] := book_via (by kernel_rfl) (by kernel_rfl)
theorem b9 : Tryz.prog.book 9 = [9] := book_via (by kernel_rfl) (by kernel_rfl)
theorem b634 : Tryz.prog.book 634 = [634, 312] := book_via (by kernel_rfl) (by kernel_rfl)
theorem b828 : Tryz.prog.book 828 = [828, 5] := book_via (by kernel_rfl) (by kernel_rfl)
theorem b829 : Tryz.prog.book 829 = [829, 5] := book_via (by kernel_rfl) (by kernel_rfl)
theorem b707 : Tryz.prog.book 707 = [707, 5] := book_via (by kernel_rfl) (by kernel_rfl)
theorem b710 : Tryz.prog.book 710 = [710, 709, 5] := book_via (by kernel_rfl) (by kernel_rfl)
theorem b156 : Tryz.prog.book 156 = [156] := book_via (by kernel_rfl) (by kernel_rfl)
theorem r3 : Tryz.prog.readableRec 3 = true := by unfold Program.readableRec; rw [b3]; kernel_rfl
theorem r4 : Tryz.prog.readableRec 4 = true := by unfold Program.readableRec; rw [b4]; kernel_rfl
theorem r9 : Tryz.prog.readableRec 9 = true := by unfold Program.readableRec; rw [b9]; kernel_rfl
theorem m3 : Tryz.prog.mapsRec 3 = false := by unfold Program.mapsRec; rw [b3]; kernel_rfl
theorem m9 : Tryz.prog.mapsRec 9 = false := by unfold Program.mapsRec; rw [b9]; kernel_rfl
theorem i3 : Tryz.prog.ifacesRec 3 = false := by unfold Program.ifacesRec; rw [b3]; kernel_rfl
theorem i4 : Tryz.prog.ifacesRec 4 = false := by unfold Program.ifacesRec; rw [b4]; kernel_rfl
theorem i9 : Tryz.prog.ifacesRec 9 = false := by unfold Program.ifacesRec; rw [b9]; kernel_rfl
theorem p3 : Tryz.prog.partsOf 3 = [] := by kernel_rfl
theorem p4 : Tryz.prog.partsOf 4 = [] := by kernel_rfl
theorem p9 : Tryz.prog.partsOf 9 = [] := by kernel_rfl
theorem l3 : Tryz.prog.loopsFrom 3 = false := by unfold Program.loopsFrom; rw [b3]; simp [p3]
theorem l4 : Tryz.prog.loopsFrom 4 = false := by unfold Program.loopsFrom; rw [b4]; simp [p4]
theorem l9 : Tryz.prog.loopsFrom 9 = false := by unfold Program.loopsFrom; rw [b9]; simp [p9]
theorem w3 : Tryz.prog.wideKeysFrom 3 = false := by unfold Program.wideKeysFrom; rw [b3]; kernel_rfl
theorem w4 : Tryz.prog.wideKeysFrom 4 = false := by unfold Program.wideKeysFrom; rw [b4]; kernel_rfl
theorem w9 : Tryz.prog.wideKeysFrom 9 = false := by unfold Program.wideKeysFrom; rw [b9]; kernel_rfl
theorem v3 : Tryz.prog.veiledRec 3 = false := by unfold Program.veiledRec; rw [b3]; kernel_rfl
theorem v4 : Tryz.prog.veiledRec 4 = false := by unfold Program.veiledRec; rw [b4]; kernel_rfl
theorem v9 : Tryz.prog.veiledRec 9 = false := by unfold Program.veiledRec; rw [b9]; kernel_rfl
theorem v634 : Tryz.prog.veiledRec 634 = false := by unfold Program.veiledRec; rw [b634]; kernel_rfl
theorem v828 : Tryz.prog.veiledRec 828 = false := by unfold Program.veiledRec; rw [b828]; kernel_rfl
theorem v829 : Tryz.prog.veiledRec 829 = false := by unfold Program.veiledRec; rw [b829]; kernel_rfl
theorem v707 : Tryz.prog.veiledRec 707 = false := by unfold Program.veiledRec; rw [b707]; kernel_rfl
theorem v710 : Tryz.prog.veiledRec 710 = false := by unfold Program.veiledRec; rw [b710]; kernel_rfl
theorem v156 : Tryz.prog.veiledRec 156 = false := by unfold Program.veiledRec; rw [b156]; kernel_rfl
theorem ownOf {t : TypeId} (h : Tryz.prog.veiledRec t = false) : Tryz.prog.veiledOwn t = true := by unfold Program.veiledOwn; rw [h]; rfl
theorem laidTypes : (Rows.officeKeysRow.laid.filterMap fun x => (Tryz.prog.globalNamed x.1).bind fun g => (Tryz.prog.globals[g]?).map (·.type)) = [634, 828, 829, 707, 710, 156, 156] := by kernel_rfl
theorem res3 : Tryz.f3.resultTypes = #[4] := by kernel_rfl
theorem noVars : Rows.officeKeysSpec.plain.varTypes Tryz.prog = [] := by kernel_rfl
theorem parsIs : Tryz.f3.params.toList ++ Rows.officeKeysSpec.plain.varTypes Tryz.prog = [3, 9, 3] := by rw [Tryz.params3, noVars]; rfl
theorem allIs : Tryz.f3.params.toList ++ Rows.officeKeysSpec.plain.varTypes Tryz.prog ++ Tryz.f3.resultTypes.toList = [3, 9, 3, 4] := by rw [parsIs, res3]; rfl
theorem k0 : Rows.officeKeysRow.wf (OpenSpec.ofChange Rows.officeKeysSpec) = true := by kernel_rfl
theorem k4 : Tryz.f3.params.all (Tryz.prog.readableRec ·) = true := by rw [Tryz.params3]; simp [r3, r9]
theorem k5 : namedTie Tryz.prog Rows.officeKeysRow.named Rows.officeKeysSpec.vars = true := by kernel_rfl
theorem k7 : (Tryz.prog.stops == []) = true := by kernel_rfl
theorem k7b : (Tryz.prog.stopKnobs == []) = true := by kernel_rfl
theorem k14 : (Rows.officeKeysRow.maps == (Tryz.f3.params.toList ++ Rows.officeKeysSpec.plain.varTypes Tryz.prog).any (Tryz.prog.mapsRec ·)) = true := by
  have e : (Tryz.f3.params.toList ++ Rows.officeKeysSpec.plain.varTypes Tryz.prog).any (Tryz.prog.mapsRec ·) = false := by rw [parsIs]; simp [m3, m9]
  rw [e]; rfl
theorem k15 : (Rows.officeKeysRow.ifaces == (Tryz.f3.params.toList ++ Rows.officeKeysSpec.plain.varTypes Tryz.prog).any (Tryz.prog.ifacesRec ·)) = true := by
  have e : (Tryz.f3.params.toList ++ Rows.officeKeysSpec.plain.varTypes Tryz.prog).any (Tryz.prog.ifacesRec ·) = false := by rw [parsIs]; simp [i3, i9]
  rw [e]; rfl
theorem k16 : (Rows.officeKeysRow.mapsOut == Tryz.prog.mapsAmong Tryz.f3.resultTypes.toList) = true := by kernel_rfl
theorem k17 : (Rows.officeKeysRow.loops == (Tryz.f3.params.toList ++ Rows.officeKeysSpec.plain.varTypes Tryz.prog).any (Tryz.prog.loopsFrom ·)) = true := by
  have e : (Tryz.f3.params.toList ++ Rows.officeKeysSpec.plain.varTypes Tryz.prog).any (Tryz.prog.loopsFrom ·) = false := by rw [parsIs]; simp [l3, l9]
  rw [e]; rfl
theorem k18 : (Rows.officeKeysRow.wideKeys == (Tryz.f3.params.toList ++ Rows.officeKeysSpec.plain.varTypes Tryz.prog ++ Tryz.f3.resultTypes.toList).any (Tryz.prog.wideKeysFrom ·)) = true := by
  have e : (Tryz.f3.params.toList ++ Rows.officeKeysSpec.plain.varTypes Tryz.prog ++ Tryz.f3.resultTypes.toList).any (Tryz.prog.wideKeysFrom ·) = false := by rw [allIs]; simp [w3, w4, w9]
  rw [e]; rfl
theorem k19 : Rows.officeKeysSpec.vars.all (Tryz.prog.varReadable ·) = true := rfl
theorem k20 : Tryz.f3.resultTypes.all (fun t => Tryz.prog.readableRec t && decide (t < Tryz.prog.types.size)) = true := by rw [res3, tsize]; simp [r4]
theorem k21 : (Rows.officeKeysRow.ifacesOut == Tryz.f3.resultTypes.toList.any (Tryz.prog.ifacesRec ·)) = true := by
  have e : Tryz.f3.resultTypes.toList.any (Tryz.prog.ifacesRec ·) = false := by rw [res3]; simp [i4]
  rw [e]; rfl
theorem k22 : (Rows.officeKeysRow.loopsOut == Tryz.f3.resultTypes.toList.any (Tryz.prog.loopsFrom ·)) = true := by
  have e : Tryz.f3.resultTypes.toList.any (Tryz.prog.loopsFrom ·) = false := by rw [res3]; simp [l4]
  rw [e]; rfl
theorem k23 : (Rows.officeKeysRow.plainKeys == Tryz.prog.plainKeys) = true := by kernel_rfl
theorem k25 : Tryz.prog.stopsHeard = true := by kernel_rfl
theorem k26 : Tryz.prog.mayEnter = true := by kernel_rfl
theorem k27 : (Rows.officeKeysRow.lifted == Tryz.prog.liftsFinal) = true := by kernel_rfl
theorem k28 : (Tryz.prog.make == some Rows.officeKeysRow.make) = true := by kernel_rfl
theorem k29 : (Rows.officeKeysRow.kinds == (if Rows.officeKeysRow.domain.isEmpty then [] else Tryz.f3.params.toList.map fun t => match Tryz.prog.underlying t with | some (.int k) => some k | _ => none)) = true := rfl
theorem k30 : (Rows.officeKeysRow.pinned == Rows.officeKeysRow.pinnedBy) = true := by kernel_rfl
theorem k31 : (Rows.officeKeysRow.veiled == (Tryz.f3.params.toList ++ Rows.officeKeysSpec.plain.varTypes Tryz.prog ++ Tryz.f3.resultTypes.toList).any (Tryz.prog.veiledRec ·)) = true := by
  have e : (Tryz.f3.params.toList ++ Rows.officeKeysSpec.plain.varTypes Tryz.prog ++ Tryz.f3.resultTypes.toList).any (Tryz.prog.veiledRec ·) = false := by rw [allIs]; simp [v3, v4, v9]
  rw [e]; rfl
theorem k32 : Rows.officeKeysRow.veiledFits Tryz.prog Tryz.f3.params.toList (Tryz.f3.params.toList ++ Rows.officeKeysSpec.plain.varTypes Tryz.prog ++ Tryz.f3.resultTypes.toList) = true := by
  unfold OpenClaim.veiledFits
  have e : (Tryz.f3.params.toList ++ Rows.officeKeysSpec.plain.varTypes Tryz.prog ++ Tryz.f3.resultTypes.toList ++ Rows.officeKeysRow.laid.filterMap fun x => (Tryz.prog.globalNamed x.1).bind fun g => (Tryz.prog.globals[g]?).map (·.type)).all (Tryz.prog.veiledOwn ·) = true := by
    rw [allIs, laidTypes]
    simp [ownOf v3, ownOf v4, ownOf v9, ownOf v634, ownOf v828, ownOf v829, ownOf v707, ownOf v710, ownOf v156]
  rw [e]; rfl
theorem band {a b : Bool} (h : a = true) (k : b = true) : (a && b) = true := by rw [h, k]; rfl
theorem closed : joinedFacts Tryz.prog 3 Tryz.f3 Rows.officeKeysSpec Rows.officeKeysRow = true := by
  unfold joinedFacts
  exact band (band (band (band (band (band (band (band (band (band (band (band (band (band (band (band (band (band (band (band (band (band (band (band (band (band (band (band (band (band (band
    k0 k1) k2) k4) k5) rfl) k7) rfl) k7b) k8) k9) k10) k11) k14) k15) k16) k17) k18) k19) k20) k21) k22) k23) rfl) k25) k26) k27) k28) k29) k30) k31) k32
end Go.Proofs.YtnmfbmfefjcnfaaGreatDoor
