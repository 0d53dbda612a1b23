/- OfficeKeys, called in any world that meets what its row asks, returns true and leaves what was there as it was. -/
import Derived.Test.YtnmfbmfefjcnfaaGreatDoorRy
import Derived.Test.YtnmfbmfefjcnfaaGreatDoorNf
namespace Go.Proofs.YtnmfbmfefjcnfaaGreatDoor
open Go Go.ChangeShapes Go.ChangeMaps Go.WideShapes Go.ChangeAt Go.WideElems Go.RowKit
set_option maxRecDepth 100000
/-- The table of the powers of ten lies as it lay. -/
theorem powOf {W : World} (h : W.cell? ⟨3, 2, none⟩ = some (.int .u64 100)) : ∃ O, W.heap[3]? = some O ∧ ∀ w : World, w.heap[3]? = some O → w.cell? ⟨3, 2, none⟩ = some (.int .u64 100) := by
  cases hO : W.heap[3]? with
  | none => simp [World.cell?, hO] at h
  | some O => exact ⟨O, rfl, fun w hw => (Pe.cell?_of_heap (a := ⟨3, 2, none⟩) (by rw [hO]; exact hw)).trans h⟩
theorem calls_ok {W : World} (h : W.cell? ⟨3, 2, none⟩ = some (.int .u64 100)) (num hgt : Int) (s : ByteArray) :
    Calls Tryz.prog 3 #[.int .i64 num, .string s, .int .i64 hgt] W fun e W' => e = .returned (.bool true) ∧ Pe.SameIO W W' ∧ ∀ b, b < W.heap.size → W'.heap[b]? = W.heap[b]? := by
  obtain ⟨O, hO, hp⟩ := powOf h
  letI G : Pe.PowG := { blk := fun b => if b = 3 then some O else none, obj := O, at3 := rfl, pow := hp }
  have k : Pe.FunF Tryz.prog 0 3 [.int .i64 num, .str s.data.toList, .int .i64 hgt] (Pe.mkA []) (.bool true) (Pe.mkA []) := Pe.ok_fun num s.data.toList hgt
  obtain ⟨_, k2⟩ := k (fun _ => none) W #[.int .i64 num, .string s, .int .i64 hgt] ⟨fun _ _ h => (by cases h), fun _ _ _ _ _ _ h => (by cases h)⟩
    (fun b O' hb => by
      have hb' : (if b = 3 then some O else none) = some O' := hb
      split at hb'
      · rename_i e
        subst e
        cases hb'
        exact ⟨hO, fun ⟨_, _, _, hh, _⟩ => by cases hh⟩
      · cases hb')
    (by simp only [Pe.VRs, Pe.VR]; exact ⟨_, _, rfl, rfl, _, _, rfl, ⟨s, rfl, rfl⟩, _, _, rfl, rfl, rfl⟩)
  refine (callsIn_wide (n := 0)).1 ((k2 0).mono fun e w' he => ?_)
  obtain ⟨u, rfl, ρ', g1, _, g3⟩ := he
  have hu : u = .bool true := by simpa [Pe.VR] using g1
  subst hu
  exact ⟨rfl, g3.io, fun b hb => g3.frame b hb fun ⟨_, _, _, hh, _⟩ => by cases hh⟩
theorem kept_of {W W' : World} {may : MemPlace → Prop} (hio : Pe.SameIO W W') (hf : ∀ b, b < W.heap.size → W'.heap[b]? = W.heap[b]?) : W.keptBut W' may := by
  refine ⟨hio.1, hio.2, fun i hi => ?_⟩
  rw [hf i hi]
  cases W.heap[i]? with
  | none => trivial
  | some o => cases o <;> simp
theorem lifted (os : Os) (started : os.Started) (H : Type) (enc : TypeId × Value → H) :
    ReturnsInHanded {} Tryz.checked os 3 .any (fun w args => (Rows.officeKeysSpec.pre enc Tryz.prog Tryz.f3 [] false w args ∧ laidMetH Tryz.prog Rows.officeKeysRow.laid w) ∧ sizedMet enc Tryz.prog Tryz.f3 (OpenSpec.ofChange Rows.officeKeysSpec) false w args)
      (Rows.officeKeysSpec.post enc Tryz.prog Tryz.f3 false true false false) := by
  refine returnsInHanded_of_change_and (C := Tryz.checked) (X := fun w _ => laidMetH Tryz.prog Rows.officeKeysRow.laid w) (fun _ _ _ hh h => h.of_heap hh) own started (by kernel_rfl) Tryz.func3
    (ChangeSpec.witness_shaped (enc := enc) (C := Tryz.checked) (os := os) (X := fun w _ => laidMetH Tryz.prog Rows.officeKeysRow.laid w) false (World.laidAll Tryz.prog os Rows.officeKeysRow.laid) witArgs 8 (World.laidAll_os _ _ _)
      (World.shaped_of_ZipB (s1 os) (s2 os)) (s3 os) (s4 os enc) (s5 os enc)
      (by rw [MakeChecks.laidMetH_plain _ _ _ plainLaid]; exact laidMet_laidAll _ (s6 os) (s7 os))) ?_
  intro W base args ds gs before hval0 hW _ _ hL _
  have hval : ∀ (j : Nat) t v, Tryz.f3.params[j]? = some t → args[j]? = some v → Value.okWide Tryz.prog W .any base t v := hval0
  have hW' := hW
  obtain ⟨p, q, hA0, hV, rfl, _, _⟩ := hW
  have hA : DataW.TrodAll enc Tryz.prog W 0 (fun _ => true) true Tryz.f3.params.toList args.toList ds p := hA0
  rw [Tryz.params3] at hA hval
  obtain ⟨a0, a1, a2, d0, d1, d2, p0, p1, p2, rfl, rfl, rfl, h0, h1, h2⟩ := trodAll_three hA
  obtain ⟨rfl, rfl⟩ := trodVars_none hV
  obtain ⟨num, rfl, rfl, rfl, wn⟩ := open_int Tryz.underlying3 (hval 0 3 a0 rfl rfl) h0
  obtain ⟨s, rfl, rfl, rfl, ws⟩ := open_string Tryz.underlying9 (hval 1 9 a1 rfl rfl) h1
  obtain ⟨hgt, rfl, rfl, rfl, wh⟩ := open_int Tryz.underlying3 (hval 2 3 a2 rfl rfl) h2
  simp only [List.append_nil] at hW'
  refine (calls_ok (of_laid hL) num hgt s).mono fun e W' ⟨he, hio, hf⟩ => ?_
  subst he
  exact ⟨_, rfl, _, _, _, [], [], [], hW', trodAll_mk1 (shut_bool Tryz.underlying4 _), trodAll_mk3 (shut_int Tryz.underlying3 wn) (shut_string Tryz.underlying9 ws) (shut_int Tryz.underlying3 wh), rfl, kept_of hio hf, fun h => by cases h⟩
#print axioms lifted
end Go.Proofs.YtnmfbmfefjcnfaaGreatDoor
