/- OfficeKeys returns true for every number, key and height, and leaves what was there as it was; the package variables that its row lists are tied to the program's own text. -/
import Derived.Test.YtnmfbmfefjcnfaaGreatDoorZa
import Derived.Test.YtnmfbmfefjcnfaaGreatDoorTb
import Derived.Test.YtnmfbmfefjcnfaaGreatDoorTc
import Derived.Test.YtnmfbmfefjcnfaaGreatDoorTd
import Derived.Test.YtnmfbmfefjcnfaaGreatDoorTe
import Derived.Test.YtnmfbmfefjcnfaaGreatDoorTf
import Derived.Test.YtnmfbmfefjcnfaaGreatDoorTh
import Derived.Test.YtnmfbmfefjcnfaaGreatDoorTi
import Derived.Test.YtnmfbmfefjcnfaaGreatDoorTj
import Derived.Test.YtnmfbmfefjcnfaaGreatDoorCards
namespace Go.Proofs.YtnmfbmfefjcnfaaGreatDoor
open Go
set_option maxRecDepth 100000
theorem tie : Tryz.prog.laidByTextLater theLaid [.data, .data, .data, .data, .sentinel, .sentinel] true :=
  Program.laidByTextLater_by_run 400 8 ties_1 ties_2 ties_3 ties_4 ties_5 ties_6 ties_7 ties_8 ties_9 (by kernel_rfl)
theorem row_tie : Rows.officeKeysRow.laidByTextAt .later Tryz.pinned [.data, .data, .data, .pinned, .data, .sentinel, .sentinel] true :=
  OpenClaim.laidByTextAt_pinned (l := theLaid) rfl rfl tie rfl rfl rfl rfl (fun y hy e => by
    simp only [Rows.officeKeysRow, List.zip_cons_cons, List.zip_nil_right, List.mem_cons, List.mem_nil_iff, or_false] at hy
    rcases hy with rfl | rfl | rfl | rfl | rfl | rfl | rfl
    · cases e
    · cases e
    · cases e
    · exact ⟨pin_first, pinIs⟩
    · cases e
    · cases e
    · cases e) fits1
theorem t5 : false = Rows.officeKeysRow.goesBy Tryz.pinned.checked.prog := by
  have e : Rows.officeKeysRow.goesBy Tryz.pinned.checked.prog = ((Tryz.prog.funcNamed "pandect/pandectlaw49.OfficeKeys").any Tryz.prog.goes || false) := rfl
  rw [e, named3, Bool.or_false, Option.any_some, goes_none noGoes 3]
theorem card_holds : Rows.OfficeKeysCardSaid :=
  Claim7.holds_tied_plain_at .later [] [.data, .data, .data, .pinned, .data, .sentinel, .sentinel] true (true, "ac60ddd9a8ce84d23db0ff91d174b1a0b286651bbe4167f48d77915a97399ac5") true
    officeKeys_holds (fun _ h => by cases h) t1 (fun _ h => by cases h) row_tie rfl ⟨rfl, rfl⟩ t2 rfl
    (fun f fn hf hfn => by
      obtain rfl : f = 3 := Option.some.inj (named3.symm.trans hf) |>.symm
      obtain rfl : fn = Tryz.f3 := (Option.some.inj (Tryz.func3.symm.trans hfn)).symm
      exact ⟨t3, fun j t ht => by
        rw [Tryz.params3] at ht
        have hm : t ∈ [3, 9, 3] := by simpa using Array.mem_of_getElem? ht
        have hm2 : t ∈ [3, 9] := by
          simp only [List.mem_cons, List.mem_nil_iff, or_false] at hm ⊢
          rcases hm with h | h | h
          · exact .inl h
          · exact .inr h
          · exact .inl h
        exact (show Tryz.prog.wantsStandIn t = false by simpa using List.all_eq_true.1 t4 t hm2)⟩)
    t5
#print axioms card_holds
end Go.Proofs.YtnmfbmfefjcnfaaGreatDoor
