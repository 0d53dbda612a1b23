/- Contracts by tables, second part: one-time keys, public keys, acts that are formed. -/
import Derived.Test.YtnmfbmfefjcnfaaGreatDoorLb
set_option linter.unusedSectionVars false
namespace Pe
open Go
set_option linter.unusedSectionVars false
noncomputable section
variable [PowG]
set_option maxRecDepth 100000
theorem con_rep : ConOk P0 123 (tableX repTab) := con_tab (X := xOf XL1) (multi := no1) ext1 (by kernel_rfl) (by kernel_rfl)

noncomputable def XL2 : List (FuncId × XF) := [(102, xSum), (94, xItoa), (427, xIdx), (201, xEsc), (407, xMnz), (339, xDig), (52, tableX atoiTab), (46, tableX isTab), (123, tableX repTab)]
theorem con2 : ∀ e ∈ XL2, ConOk P0 e.1 e.2 := by
  simp only [XL2, List.forall_mem_cons, List.not_mem_nil, false_implies, implies_true, and_true]
  exact ⟨con_sum, con_itoa, con_idx, con_esc, con_mnz, con_dig, con_atoi, con_is, con_rep⟩
theorem ext2 {multi : FuncId → Bool} : ExtOk (cfgX P0 (xOf XL2) multi) := extOk_of con2
noncomputable def keyTab0 : List (List AV × AV) := [([.str [48], .int .i64 0], .str (dgK 0x63f6851324fc3645)), ([.str [48], .int .i64 1], .str (dgK 0x513291f062344b8f)), ([.str [48], .int .i64 2], .str (dgK 0x8f39d2bef15953d7)), ([.str [48], .int .i64 3], .str (dgK 0x9c9ffd31afaed03e))]
noncomputable def keyTab1 : List (List AV × AV) := [([.str [49], .int .i64 0], .str (dgK 0xabd6708f759d4907)), ([.str [49], .int .i64 1], .str (dgK 0xd145b174244c973a)), ([.str [49], .int .i64 2], .str (dgK 0x15a1383f48c42ba5)), ([.str [49], .int .i64 3], .str (dgK 0x0f678f90ed4076be))]
theorem con_key0 : tabOk (xOf XL2) no1 79 keyTab0 = true := by kernel_rfl
theorem con_key1 : tabOk (xOf XL2) no1 79 keyTab1 = true := by kernel_rfl
noncomputable def keyTab : List (List AV × AV) := keyTab0 ++ keyTab1
theorem con_key : ConOk P0 79 (tableX keyTab) := con_tab (X := xOf XL2) (multi := no1) ext2 (by kernel_rfl) (by
  unfold keyTab tabOk
  rw [List.all_append, Bool.and_eq_true]
  exact ⟨con_key0, con_key1⟩)
noncomputable def XL3 : List (FuncId × XF) := (79, tableX keyTab) :: XL2
theorem con3 : ∀ e ∈ XL3, ConOk P0 e.1 e.2 := by
  intro e he
  rcases List.mem_cons.1 he with rfl | he
  · exact con_key
  · exact con2 e he
theorem ext3 {multi : FuncId → Bool} : ExtOk (cfgX P0 (xOf XL3) multi) := extOk_of con3
end
end Pe
