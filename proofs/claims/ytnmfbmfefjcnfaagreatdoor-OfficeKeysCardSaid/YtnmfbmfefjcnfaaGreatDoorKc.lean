/- Maps and appends: the abstract answer is the answer. -/
import Derived.Test.YtnmfbmfefjcnfaaGreatDoorKb
import Derived.RangeFuncRecord
import Derived.Laws.BytesString
import Derived.Laws.Tables
import Derived.Laws.IdiomStrings
import Derived.Laws.MakeOwn
set_option linter.unusedSectionVars false
namespace Pe
open Go
variable {P : Program} {ρ : Rho} {w : World}

theorem eqCell_eq {x y : AV} (h : eqCell x y = some true) : x = y := by
  cases x <;> cases y <;> simp only [eqCell, reduceCtorEq] at h
  · split at h
    · rename_i hk; subst hk; simp at h; subst h; rfl
    · cases h
  · simp at h; subst h; rfl
  · rw [beqBytes_eq] at h; simp at h; subst h; rfl

theorem eqCells_eq : ∀ {x y : List AV}, eqCells x y = some true → x = y
  | [], [], _ => rfl
  | [], _ :: _, h => by simp [eqCells] at h
  | _ :: _, [], h => by simp [eqCells] at h
  | a :: x, b :: y, h => by
    simp only [eqCells] at h
    split at h
    · rename_i hc; rw [eqCell_eq hc, eqCells_eq h]
    · cases h
    · cases h

theorem eqKey_eq {x y : AV} (h : findK.eqKey x y = some true) : x = y := by
  unfold findK.eqKey at h
  split at h
  · split at h
    · rw [eqCells_eq h]
    · cases h
  · exact eqCell_eq h

theorem fits_kind {t : TypeId} {x y : AV} (h : scalarFits P t x = true) (k : sameKind x y = true) : scalarFits P t y = true := by
  cases x <;> cases y <;> simp only [sameKind, Bool.false_eq_true, decide_eq_true_eq] at k
  · subst k
    unfold scalarFits at h ⊢
    cases hT : P.underlying t with
    | none => rw [hT] at h; cases h
    | some d => rw [hT] at h; cases d <;> first | (exact h) | (cases h)
  · unfold scalarFits at h ⊢
    cases hT : P.underlying t with
    | none => rw [hT] at h; cases h
    | some d => rw [hT] at h; cases d <;> first | (exact h) | (cases h)
  · unfold scalarFits at h ⊢
    cases hT : P.underlying t with
    | none => rw [hT] at h; cases h
    | some d => rw [hT] at h; cases d <;> first | (exact h) | (cases h)

theorem fitsFields_kind : ∀ {fs : List Field} {xs ys : List AV}, fitsFields P fs xs = true → sameKinds xs ys = true → fitsFields P fs ys = true
  | [], [], [], _, _ => rfl
  | [], [], _ :: _, _, k => by simp [sameKinds] at k
  | [], _ :: _, _, h, _ => by simp [fitsFields] at h
  | _ :: _, [], _, h, _ => by simp [fitsFields] at h
  | _ :: _, _ :: _, [], _, k => by simp [sameKinds] at k
  | f :: fs, x :: xs, y :: ys, h, k => by
    simp only [fitsFields, sameKinds, Bool.and_eq_true] at h k ⊢
    exact ⟨fits_kind h.1 k.1, fitsFields_kind h.2 k.2⟩

theorem all_kind {e : TypeId} : ∀ {xs ys : List AV}, xs.all (scalarFits P e) = true → sameKinds xs ys = true → ys.all (scalarFits P e) = true ∧ ys.length = xs.length
  | [], [], _, _ => ⟨rfl, rfl⟩
  | [], _ :: _, _, k => by simp [sameKinds] at k
  | _ :: _, [], _, k => by simp [sameKinds] at k
  | x :: xs, y :: ys, h, k => by
    simp only [List.all_cons, sameKinds, Bool.and_eq_true] at h k ⊢
    obtain ⟨h1, h2⟩ := all_kind (e := e) h.2 k.2
    exact ⟨⟨fits_kind h.1 k.1, h1⟩, by simp [h2]⟩

theorem eqCell_kind {x y : AV} {r : Bool} (h : eqCell x y = some r) : sameKind x y = true := by
  cases x <;> cases y <;> simp only [eqCell, reduceCtorEq] at h
  · split at h
    · rename_i hk; simp [sameKind, hk]
    · cases h
  · rfl
  · rfl

theorem keyFits_of_eq {t : TypeId} {x y : AV} {r : Bool} (hx : keyFits P t x = true) (h : findK.eqKey x y = some r) : keyFits P t y = true := by
  unfold findK.eqKey at h
  split at h
  · split at h
    · rename_i a b hk
      simp only [keyFits] at hx ⊢
      split at hx
      · rename_i fs hT
        simp only [Bool.and_eq_true] at hx ⊢
        exact ⟨hx.1, fitsFields_kind hx.2 hk⟩
      · rename_i n e hT
        simp only [Bool.and_eq_true, Nat.beq_eq] at hx ⊢
        obtain ⟨g1, g2⟩ := all_kind hx.2 hk
        exact ⟨⟨hx.1.1, by rw [g2]; exact hx.1.2⟩, g1⟩
      · cases hx
    · cases h
  · rename_i hna
    have hk := eqCell_kind h
    have fx : keyFits P t x = scalarFits P t x := by cases x <;> first | rfl | (simp [sameKind] at hk)
    have fy : keyFits P t y = scalarFits P t y := by cases y <;> first | rfl | (cases x <;> simp [sameKind] at hk)
    rw [fy]; rw [fx] at hx; exact fits_kind hx hk

theorem eqKey_run {t : TypeId} {x y : AV} {r : Bool} {v u : Value} (hx : keyFits P t x = true) (h : findK.eqKey x y = some r) (hv : VR ρ x v) (hu : VR ρ y u) : (Op.equal t v u).run P w = .ok r w := by
  refine key_eq (P := P) (w := w) 9998 hx (keyFits_of_eq hx h) ?_ hv hu
  unfold findK.eqKey at h
  unfold eqKey'
  split at h
  · split at h
    · exact h
    · cases h
  · rename_i hna
    split
    · rename_i a b; exact absurd rfl (hna a b rfl)
    · exact h

/-- How the entries of a map compare with a key. -/
def Tells (P : Program) (w : World) (t : TypeId) (v : Value) (e : MapEntry) (b : Bool) : Prop :=
  (Op.equal t v e.key).run P w = .ok b w ∧ ∀ d, P.underlying t = some d → (sameNow' d = true → Instr.sameNow d v e.key = some b) ∧ (sameNow' d = false → Instr.sameNow d v e.key = none)
  where sameNow' : TypeDesc → Bool
  | .int _ | .string | .bool => true
  | _ => false

theorem tells {t : TypeId} {x y : AV} {r : Bool} {v : Value} {e : MapEntry} (hx : keyFits P t x = true) (h : findK.eqKey x y = some r) (hv : VR ρ x v) (hu : VR ρ y e.key) : Tells P w t v e r := by
  refine ⟨eqKey_run hx h hv hu, fun d hd => ⟨fun hs => ?_, fun hs => ?_⟩⟩
  · have hfit : scalarFits P t x = true := by
      cases x <;> first | (exact hx) | skip
      simp only [keyFits, hd] at hx
      cases d <;> first | (cases hx) | (cases hs)
    unfold scalarFits at hfit
    rw [hd] at hfit
    cases d <;> (try (cases hs; done)) <;> cases x <;> (try (cases hfit; done)) <;> cases y <;> simp only [findK.eqKey, eqCell, reduceCtorEq] at h
    · simp only [VR] at hv hu; rw [hv, hu]; simp at h; subst h; rfl
    · split at h
      · rename_i hk; subst hk
        simp only [VR] at hv hu; rw [hv, hu]; simp at h; subst h; simp [Instr.sameNow]
      · cases h
    · simp only [VR] at hv hu
      obtain ⟨S, rfl, hS⟩ := hv
      obtain ⟨T, e2, hT⟩ := hu
      rw [e2]
      rw [beqBytes_eq] at h
      simp only [Option.some.injEq] at h
      simp only [Instr.sameNow, Option.some.injEq]
      rw [beq_toListBytes, ByteArray.toList_eq, ByteArray.toList_eq, hS, hT]; exact h
  · cases d <;> (try (cases hs; done)) <;> rfl

theorem findNow_run {t : TypeId} {d : TypeDesc} (hd : P.underlying t = some d) (hs : Tells.sameNow' d = true) {v : Value} {b : MapEntry → Bool} : ∀ (ES : List MapEntry) (i : Nat), (∀ e ∈ ES, Tells P w t v e (b e)) →
    ((∀ e ∈ ES, b e = false) ∧ Instr.findNow d v ES i = some none) ∨ ∃ pre e post, ES = pre ++ e :: post ∧ (∀ x ∈ pre, b x = false) ∧ b e = true ∧ Instr.findNow d v ES i = some (some (i + pre.length, e.val))
  | [], i, _ => .inl ⟨by simp, rfl⟩
  | e :: es, i, h => by
    have he := (h e (by simp)).2 d hd |>.1 hs
    cases hb : b e
    · rw [hb] at he
      rcases findNow_run hd hs es (i + 1) (fun x hx => h x (by simp [hx])) with ⟨h1, h2⟩ | ⟨pre, x, post, h1, h2, h3, h4⟩
      · refine .inl ⟨?_, ?_⟩
        · intro x hx; rcases List.mem_cons.1 hx with rfl | hx
          · exact hb
          · exact h1 x hx
        · simp only [Instr.findNow, he]; exact h2
      · refine .inr ⟨e :: pre, x, post, by rw [h1]; rfl, ?_, h3, ?_⟩
        · intro y hy; rcases List.mem_cons.1 hy with rfl | hy
          · exact hb
          · exact h2 y hy
        · simp only [Instr.findNow, he, h4]; simp; omega
    · rw [hb] at he
      exact .inr ⟨[], e, es, rfl, by simp, hb, by simp [Instr.findNow, he]⟩

theorem findAsking_run {t : TypeId} {v : Value} {b : MapEntry → Bool} : ∀ (ES : List MapEntry) (i : Nat), (∀ e ∈ ES, Tells P w t v e (b e)) →
    ((∀ e ∈ ES, b e = false) ∧ (Instr.findAsking t v ES i).run P w = .ok none w) ∨ ∃ pre e post, ES = pre ++ e :: post ∧ (∀ x ∈ pre, b x = false) ∧ b e = true ∧ (Instr.findAsking t v ES i).run P w = .ok (some (i + pre.length, e.val)) w
  | [], i, _ => .inl ⟨by simp, rfl⟩
  | e :: es, i, h => by
    have he := (h e (by simp)).1
    cases hb : b e
    · rw [hb] at he
      rcases findAsking_run es (i + 1) (fun x hx => h x (by simp [hx])) with ⟨h1, h2⟩ | ⟨pre, x, post, h1, h2, h3, h4⟩
      · refine .inl ⟨?_, ?_⟩
        · intro x hx; rcases List.mem_cons.1 hx with rfl | hx
          · exact hb
          · exact h1 x hx
        · simp [Instr.findAsking, he, h2]
      · refine .inr ⟨e :: pre, x, post, by rw [h1]; rfl, ?_, h3, ?_⟩
        · intro y hy; rcases List.mem_cons.1 hy with rfl | hy
          · exact hb
          · exact h2 y hy
        · simp [Instr.findAsking, he, h4]; omega
    · rw [hb] at he
      exact .inr ⟨[], e, es, rfl, by simp, hb, by simp [Instr.findAsking, he]⟩

/-- What a map's own search finds. -/
theorem findKey_run {t : TypeId} {v : Value} {b : MapEntry → Bool} {d : TypeDesc} (hd : P.underlying t = some d) (ES : List MapEntry) (h : ∀ e ∈ ES, Tells P w t v e (b e)) :
    ((∀ e ∈ ES, b e = false) ∧ (Instr.findKey t v ES).run P w = .ok none w) ∨ ∃ pre e post, ES = pre ++ e :: post ∧ (∀ x ∈ pre, b x = false) ∧ b e = true ∧ (Instr.findKey t v ES).run P w = .ok (some (pre.length, e.val)) w := by
  simp only [Instr.findKey, Sem.run_bind, run_under hd, Result.andThen_ok]
  cases hs : Tells.sameNow' d
  · cases ES with
    | nil => exact .inl ⟨by simp, by simp [Instr.findNow]⟩
    | cons e es =>
      have he := ((h e (by simp)).2 d hd).2 hs
      have : Instr.findNow d v (e :: es) 0 = none := by simp [Instr.findNow, he]
      rw [this]
      rcases findAsking_run (P := P) (w := w) (e :: es) 0 h with h1 | ⟨pre, x, post, h1, h2, h3, h4⟩
      · exact .inl h1
      · exact .inr ⟨pre, x, post, h1, h2, h3, by simpa using h4⟩
  · rcases findNow_run (P := P) (w := w) hd hs ES 0 h with ⟨h1, h2⟩ | ⟨pre, x, post, h1, h2, h3, h4⟩
    · exact .inl ⟨h1, by rw [h2]; rfl⟩
    · exact .inr ⟨pre, x, post, h1, h2, h3, by rw [h4]; simp⟩

theorem checkKey_scalar {t : TypeId} (b : Bool) (d : Nat) (h : scalarT P t = true) (v : Value) : (Instr.checkKey b (d + 1) t v).run P w = .ok () w := by
  unfold scalarT at h
  split at h <;> first | (cases h; done) | skip
  all_goals (rename_i hT; simp only [Instr.checkKey, Sem.run_bind, run_under hT, Result.andThen_ok]; cases v <;> rfl)

theorem checkKey_fields (b : Bool) (d : Nat) (X : Array Value) : ∀ (fs : List Field) (i : Nat) (xs : List AV), flatFields P fs i = true → fitsFields P fs xs = true → VRs ρ xs (X.toList.drop i) →
    Sem.run P (forIn (m := Sem) fs PUnit.unit fun (f : Field) (_ : PUnit) => (do
      if f.name ≠ "_" then
        Instr.checkKey b (d + 1) f.type (← part f.type X f.offset)
        pure (ForInStep.yield PUnit.unit)
      else pure (ForInStep.yield PUnit.unit) : Sem (ForInStep PUnit))) w = .ok PUnit.unit w
  | [], i, xs, _, _, _ => by simp
  | f :: fs, i, xs, hf, hx, hX => by
    cases xs with
    | nil => simp [fitsFields] at hx
    | cons x xs =>
    simp only [fitsFields, Bool.and_eq_true] at hx
    simp only [flatFields, Bool.and_eq_true, Nat.beq_eq, bne_iff_ne] at hf
    obtain ⟨⟨⟨⟨hs, hn⟩, ho⟩, _⟩, hrest⟩ := hf
    obtain ⟨v, vs, e1, hv, hvs⟩ := VRs_cons.1 hX
    have gx : X[i]? = some v := by
      have := congrArg (·[0]?) e1; simpa using this
    have dx : X.toList.drop (i + 1) = vs := by
      have := congrArg (·.drop 1) e1; simpa [Nat.add_comm] using this
    have p1 := scalar_part (P := P) (w := w) hs (X := X) (off := f.offset) (v := v) (by rw [ho]; exact gx)
    have ih := checkKey_fields b d X fs (i + 1) xs hrest hx.2 (by rw [dx]; exact hvs)
    simp only [List.forIn_cons, ne_eq, hn, not_false_eq_true, if_true, Sem.run_bind, p1, Result.andThen_ok, checkKey_scalar b d hs v, Sem.run_pure]
    exact ih

theorem checkKey_items (b : Bool) (d : Nat) (e : TypeId) (X : Array Value) (hs : scalarT P e = true) {i0 : TypeInfo} (hi : P.info? e = some i0) (hc : P.cellsOf e = 1) : ∀ (n i : Nat) (xs : List AV), xs.length = n → VRs ρ xs (X.toList.drop i) →
    Sem.run P (forIn (m := Sem) (List.range' i n) PUnit.unit fun (j : Nat) (_ : PUnit) => (do
      Instr.checkKey b (d + 1) e (← part e X (j * (← Go.sizeOf e)))
      pure (ForInStep.yield PUnit.unit) : Sem (ForInStep PUnit))) w = .ok PUnit.unit w
  | 0, i, xs, _, _ => by simp
  | n + 1, i, xs, hx, hX => by
    cases xs with
    | nil => simp at hx
    | cons x xs =>
    obtain ⟨v, vs, e1, hv, hvs⟩ := VRs_cons.1 hX
    have gx : X[i]? = some v := by
      have := congrArg (·[0]?) e1; simpa using this
    have dx : X.toList.drop (i + 1) = vs := by
      have := congrArg (·.drop 1) e1; simpa [Nat.add_comm] using this
    have p1 := scalar_part (P := P) (w := w) hs (X := X) (off := i * 1) (v := v) (by rw [Nat.mul_one]; exact gx)
    have ih := checkKey_items b d e X hs hi hc n (i + 1) xs (by simpa using hx) (by rw [dx]; exact hvs)
    simp only [List.range'_succ, List.forIn_cons, Sem.run_bind, run_sizeOf w hi, hc, p1, Result.andThen_ok, checkKey_scalar b d hs v, Sem.run_pure]
    exact ih

theorem checkKey_run {t : TypeId} {x : AV} {v : Value} (b : Bool) (hx : keyFits P t x = true) (hv : VR ρ x v) : (Instr.checkKey b 10000 t v).run P w = .ok () w := by
  have main : ∀ d, (Instr.checkKey b (d + 2) t v).run P w = .ok () w := by
    intro d
    by_cases hagg : ∃ cs, x = .agg cs
    · obtain ⟨cs, rfl⟩ := hagg
      simp only [VR] at hv
      obtain ⟨X, rfl, hX⟩ := hv
      simp only [keyFits] at hx
      split at hx
      · rename_i fs hT
        simp only [Bool.and_eq_true] at hx
        have hflat := hx.1
        simp only [flatT, hT] at hflat
        split at hflat
        · rename_i hfl
          simp only [Bool.and_eq_true] at hfl
          have := checkKey_fields (P := P) (w := w) b d X fs.toList 0 cs hfl.1 hx.2 (by simpa using hX)
          rw [Instr.checkKey]
          simp only [Sem.run_bind, run_under hT, Result.andThen_ok]
          rw [← Array.forIn_toList]
          simp at this
          simp
          rw [this]; rfl
        · cases hflat
      · rename_i n e hT
        simp only [Bool.and_eq_true, Nat.beq_eq] at hx
        have hflat := hx.1.1
        simp only [flatT, hT] at hflat
        split at hflat
        · rename_i hfl
          simp only [Bool.and_eq_true, Nat.beq_eq] at hfl
          obtain ⟨i0, hi⟩ : ∃ i, P.info? e = some i := by
            have h1 := hfl.1
            unfold scalarT at h1
            cases hu2 : P.underlying e with
            | none => rw [hu2] at h1; cases h1
            | some D => exact info_of_underlying hu2
          have := checkKey_items (P := P) (w := w) b d e X hfl.1 hi hfl.2 n 0 cs hx.1.2 (by simpa using hX)
          rw [Instr.checkKey]
          simp only [Sem.run_bind, run_under hT, Result.andThen_ok]
          simp only [Std.Legacy.Range.forIn_eq_forIn_range', Std.Legacy.Range.size, Nat.sub_zero, Nat.add_one_sub_one, Nat.div_one]
          simp at this
          simp
          rw [this]; rfl
        · cases hflat
      · cases hx
    · have fx : keyFits P t x = scalarFits P t x := by cases x <;> first | rfl | (exact absurd ⟨_, rfl⟩ hagg)
      rw [fx] at hx
      have hs : scalarT P t = true := by
        unfold scalarFits at hx
        unfold scalarT
        cases hT : P.underlying t with
        | none => rw [hT] at hx; cases hx
        | some D => rw [hT] at hx; cases D <;> first | rfl | (cases hx)
      exact checkKey_scalar b (d + 1) hs v
  exact main 9998

end Pe

namespace Pe
open Go
variable {P : Program} {ρ : Rho} {fr : Fr} {a : Act} {w : World}

theorem findK_none {k : AV} : ∀ {es : List (AV × AV)}, findK k es = some none → ∀ kv ∈ es, findK.eqKey k kv.1 = some false
  | [], _ => by simp
  | kv :: es, h => by
    obtain ⟨k', v'⟩ := kv
    simp only [findK] at h
    split at h
    · cases h
    · rename_i hk
      intro x hx
      rcases List.mem_cons.1 hx with rfl | hx
      · exact hk
      · exact findK_none h x hx
    · cases h

theorem findK_some {k v : AV} : ∀ {es : List (AV × AV)}, keysApart es → findK k es = some (some v) → ∃ pre post, es = pre ++ (k, v) :: post ∧ findK.eqKey k k = some true ∧ ∀ kv ∈ pre ++ post, findK.eqKey k kv.1 = some false
  | [], _, h => by simp [findK] at h
  | kv :: es, ha, h => by
    obtain ⟨k', v'⟩ := kv
    simp only [findK] at h
    simp only [keysApart] at ha
    split at h
    · rename_i hk
      have e := eqKey_eq hk
      subst e
      cases h
      exact ⟨[], es, rfl, hk, fun kv hkv => (ha.1 kv (by simpa using hkv)).1⟩
    · rename_i hk
      obtain ⟨pre, post, rfl, h1, h2⟩ := findK_some ha.2 h
      refine ⟨(k', v') :: pre, post, rfl, h1, fun x hx => ?_⟩
      rw [List.cons_append] at hx
      rcases List.mem_cons.1 hx with rfl | hx
      · exact hk
      · exact h2 x hx
    · cases h

theorem ERs.mem {es : List (AV × AV)} {L : List MapEntry} (h : ERs ρ es L) : ∀ e ∈ L, ∃ kv ∈ es, VR ρ kv.1 e.key ∧ VR ρ kv.2 e.val := by
  induction es generalizing L with
  | nil => simp only [ERs] at h; subst h; simp
  | cons kv es ih =>
    obtain ⟨e, l', rfl, h1, h2, h3⟩ := h
    intro x hx
    rcases List.mem_cons.1 hx with rfl | hx
    · exact ⟨kv, by simp, h1, h2⟩
    · obtain ⟨kv', g1, g2⟩ := ih h3 x hx
      exact ⟨kv', by simp [g1], g2⟩

theorem ERs.mem' {es : List (AV × AV)} {L : List MapEntry} (h : ERs ρ es L) : ∀ kv ∈ es, ∃ e ∈ L, VR ρ kv.1 e.key ∧ VR ρ kv.2 e.val := by
  induction es generalizing L with
  | nil => simp
  | cons kv es ih =>
    obtain ⟨e, l', rfl, h1, h2, h3⟩ := h
    intro x hx
    rcases List.mem_cons.1 hx with rfl | hx
    · exact ⟨e, by simp, h1, h2⟩
    · obtain ⟨kv', g1, g2⟩ := ih h3 x hx
      exact ⟨kv', by simp [g1], g2⟩

theorem ERs.append {es es' : List (AV × AV)} {L L' : List MapEntry} (h : ERs ρ es L) (h' : ERs ρ es' L') : ERs ρ (es ++ es') (L ++ L') := by
  induction es generalizing L with
  | nil => simp only [ERs] at h; subst h; exact h'
  | cons kv es ih =>
    obtain ⟨e, l', rfl, h1, h2, h3⟩ := h
    exact ⟨e, _, rfl, h1, h2, ih h3⟩

theorem ERs.split {es es' : List (AV × AV)} {L : List MapEntry} (h : ERs ρ (es ++ es') L) : ∃ L1 L2, L = L1 ++ L2 ∧ ERs ρ es L1 ∧ ERs ρ es' L2 := by
  induction es generalizing L with
  | nil => exact ⟨[], L, rfl, rfl, h⟩
  | cons kv es ih =>
    obtain ⟨e, l', rfl, h1, h2, h3⟩ := h
    obtain ⟨L1, L2, rfl, g1, g2⟩ := ih h3
    exact ⟨e :: L1, L2, rfl, ⟨e, L1, rfl, h1, h2, g1⟩, g2⟩

theorem Tells.fn {t : TypeId} {v : Value} {e : MapEntry} {b b' : Bool} (h : Tells P w t v e b) (h' : Tells P w t v e b') : b = b' := by
  have := h.1.symm.trans h'.1
  injection this

open Classical in
/-- How an entry compares. -/
noncomputable def tellB (P : Program) (w : World) (t : TypeId) (v : Value) (e : MapEntry) : Bool := if h : ∃ b, Tells P w t v e b then Classical.choose h else false

theorem tellB_eq {t : TypeId} {v : Value} {e : MapEntry} {b : Bool} (h : Tells P w t v e b) : tellB P w t v e = b := by
  unfold tellB
  have hx : ∃ b, Tells P w t v e b := ⟨b, h⟩
  rw [dif_pos hx]
  exact Tells.fn (Classical.choose_spec hx) h

/-- A search in a map, both ways. -/
theorem map_find {t : TypeId} {d : TypeDesc} (hd : P.underlying t = some d) {k : AV} {kv : Value} (hk : keyFits P t k = true) (hkv : VR ρ k kv) {es : List (AV × AV)} {ES : Array MapEntry} {ck : Nat} (hm : MapRel ρ es ES ck) {r : Option AV} (h : findK k es = some r) :
    (r = none ∧ (Instr.findKey t kv ES.toList).run P w = .ok none w ∧ ∀ e ∈ ES.toList, Tells P w t kv e false) ∨
    ∃ v pre e post, r = some v ∧ ES.toList = pre ++ e :: post ∧ (Instr.findKey t kv ES.toList).run P w = .ok (some (pre.length, e.val)) w ∧ VR ρ k e.key ∧ VR ρ v e.val := by
  obtain ⟨ha, ⟨L, hp, hL⟩, _⟩ := hm
  cases r with
  | none =>
    have hall := findK_none h
    have ht : ∀ e ∈ ES.toList, Tells P w t kv e false := by
      intro e he
      obtain ⟨x, hx, h1, _⟩ := hL.mem e (hp.mem_iff.2 he)
      exact tells hk (hall x hx) hkv h1
    rcases findKey_run (P := P) (w := w) (b := fun _ => false) hd ES.toList ht with ⟨_, h2⟩ | ⟨_, _, _, _, _, h3, _⟩
    · exact .inl ⟨rfl, h2, ht⟩
    · cases h3
  | some v =>
    obtain ⟨pre, post, rfl, hkk, hall⟩ := findK_some ha h
    have ht : ∀ e ∈ ES.toList, Tells P w t kv e (tellB P w t kv e) := by
      intro e he
      obtain ⟨x, hx, h1, _⟩ := hL.mem e (hp.mem_iff.2 he)
      have : ∃ b, Tells P w t kv e b := by
        rcases List.mem_append.1 hx with hx | hx
        · exact ⟨false, tells hk (hall x (by simp [hx])) hkv h1⟩
        · rcases List.mem_cons.1 hx with rfl | hx
          · exact ⟨true, tells hk hkk hkv h1⟩
          · exact ⟨false, tells hk (hall x (by simp [hx])) hkv h1⟩
      obtain ⟨b, hb⟩ := this
      rw [tellB_eq hb]; exact hb
    right
    rcases findKey_run (P := P) (w := w) hd ES.toList ht with ⟨h1, _⟩ | ⟨pre', e, post', h1, h2, h3, h4⟩
    · obtain ⟨e, he, g1, _⟩ := hL.mem' (k, v) (by simp)
      have := h1 e (hp.mem_iff.1 he)
      rw [tellB_eq (tells hk hkk hkv g1)] at this; cases this
    · have he : e ∈ ES.toList := by rw [h1]; simp
      obtain ⟨x, hx, g1, g2⟩ := hL.mem e (hp.mem_iff.2 he)
      have hx' : x = (k, v) := by
        rcases List.mem_append.1 hx with hx | hx
        · rw [tellB_eq (tells hk (hall x (by simp [hx])) hkv g1)] at h3; cases h3
        · rcases List.mem_cons.1 hx with rfl | hx
          · rfl
          · rw [tellB_eq (tells hk (hall x (by simp [hx])) hkv g1)] at h3; cases h3
      subst hx'
      exact ⟨v, pre', e, post', rfl, h1, h4, g1, g2⟩

theorem obj_map {σ : AW} (hs : Sim P ρ σ w) {id : Nat} {l : Loc} (hl : ρ id = some l) {es : List (AV × AV)} {ver : Nat} (ho : σ.heap.get id = some (.map es ver)) : ∃ ES ck, w.heap[l.b]? = some (.map ES ck) ∧ MapRel ρ es ES ck := by
  obtain ⟨_, o, h1, _, h2⟩ := hs.obj id l hl
  rw [ho] at h1; cases h1; exact h2

theorem run_getObj_map {r : Nat} {ES : Array MapEntry} {ck : Nat} (h : w.heap[r]? = some (.map ES ck)) : (getObj r).run P w = .ok (.map ES ck) w := by
  simp [getObj, Sem.run, h]

theorem lookup_ok {σ : AW} (hs : Sim P ρ σ w) {o : Oper} {t kt e : TypeId} {x y : Operand} {ok : Bool} (ho : o.op = .lookup t x y ok) (hT : P.underlying t = some (.map kt e)) {dk : TypeDesc} (hd : P.underlying kt = some dk) {m k z u : AV} (hx : fr.eval x = some m) (hy : fr.eval y = some k) (hk : keyFits P kt k = true) (hz : zeroA P e = some z)
    (h : rdVal P σ (.lookup z m k ok) = some u) (H : EvalRel ρ fr a o.op.operands.toList) : ∃ v, Gives P a o w v w ∧ VR ρ u v := by
  have h1 := H x (by simp [ho, Op.operands]) _ hx
  have h2 := H y (by simp [ho, Op.operands]) _ hy
  obtain ⟨zv, hzr, hzv⟩ := zero_run (P := P) (w := w) hz
  simp only [rdVal] at h
  cases m <;> simp only [reduceCtorEq] at h
  · rename_i id
    simp only [VR] at h1
    obtain ⟨l, hl, e1⟩ := h1
    cases ho' : σ.heap.get id with
    | none => simp [ho'] at h
    | some ob =>
      cases ob <;> simp only [ho', reduceCtorEq] at h
      obtain ⟨ES, ck, g1, hm⟩ := obj_map hs hl ho'
      rename_i es _
      cases hf : findK k es with
      | none => rw [hf] at h; cases h
      | some r =>
        rw [hf] at h
        rcases map_find (P := P) (w := w) hd hk h2 hm hf with ⟨rfl, k1, _⟩ | ⟨v, pre, ent, post, rfl, k1, k2, k3, k4⟩
        · simp only [Option.some.injEq] at h
          subst h
          refine ⟨if ok then .tuple #[zv, .bool false] else zv, .inl ?_, ?_⟩
          · simp only [execOp, ho, Instr.lookup, Sem.run_bind, run_under hT, Result.andThen_ok, e1, run_getObj_map g1, checkKey_run _ hk h2, k1, hzr, Sem.run_pure]
          · cases ok
            · exact hzv ρ
            · simp only [if_true, VR]
              exact ⟨_, rfl, VRs_cons.2 ⟨_, _, rfl, hzv ρ, VRs_cons.2 ⟨_, _, rfl, by simp [VR], by simp [VRs]⟩⟩⟩
        · simp only [Option.some.injEq] at h
          subst h
          refine ⟨if ok then .tuple #[ent.val, .bool true] else ent.val, .inl ?_, ?_⟩
          · simp only [execOp, ho, Instr.lookup, Sem.run_bind, run_under hT, Result.andThen_ok, e1, run_getObj_map g1, checkKey_run _ hk h2, k2, Sem.run_pure]
          · cases ok
            · exact k4
            · simp only [if_true, VR]
              exact ⟨_, rfl, VRs_cons.2 ⟨_, _, rfl, k4, VRs_cons.2 ⟨_, _, rfl, by simp [VR], by simp [VRs]⟩⟩⟩
  · simp only [VR] at h1
    simp only [findK, Option.some.injEq] at h
    subst h
    refine ⟨if ok then .tuple #[zv, .bool false] else zv, .inl ?_, ?_⟩
    · have hf : (Instr.findKey kt (a.eval y) ([] : List MapEntry)).run P w = .ok none w := by
        rcases findKey_run (P := P) (w := w) (b := fun _ => false) (v := a.eval y) hd [] (by simp) with ⟨_, g⟩ | ⟨_, _, _, g, _⟩
        · exact g
        · simp at g
      simp only [execOp, ho, Instr.lookup, Sem.run_bind, run_under hT, Result.andThen_ok, h1, checkKey_run _ hk h2, hf, hzr, Sem.run_pure]
    · cases ok
      · exact hzv ρ
      · simp only [if_true, VR]
        exact ⟨_, rfl, VRs_cons.2 ⟨_, _, rfl, hzv ρ, VRs_cons.2 ⟨_, _, rfl, by simp [VR], by simp [VRs]⟩⟩⟩

end Pe

namespace Pe
open Go
variable {P : Program} {ρ : Rho} {fr : Fr} {a : Act} {w : World}

theorem run_getObj_iter {r : Nat} {m : Option Nat} {s : Nat} {seen : Array Nat} {c : Nat} (h : w.heap[r]? = some (.mapIter m s seen c)) : (getObj r).run P w = .ok (.mapIter m s seen c) w := by
  simp [getObj, Sem.run, h]

theorem ERs.length {es : List (AV × AV)} {L : List MapEntry} (h : ERs ρ es L) : L.length = es.length := by
  induction es generalizing L with
  | nil => simp only [ERs] at h; subst h; rfl
  | cons kv es ih =>
    obtain ⟨e, l', rfl, _, _, h3⟩ := h
    simp [ih h3]

theorem MapRel.size {es : List (AV × AV)} {ES : Array MapEntry} {c : Nat} (h : MapRel ρ es ES c) : ES.size = es.length := by
  obtain ⟨_, ⟨L, hp, hL⟩, _⟩ := h
  rw [← hL.length, hp.length_eq, Array.length_toList]

/-- len of a map. -/
theorem lenMap_ok {σ : AW} (hs : Sim P ρ σ w) {o : Oper} {x : Operand} {ts : Array TypeId} {t : TypeId} (ho : o.op = .call { callee := .builtin .len, args := #[x], argTypes := ts }) (hts : ts[0]? = some t) {k e : TypeId} (hT : P.underlying t = some (.map k e)) {m : Nat} {u : AV}
    (hx : VR ρ (.map m) (a.eval x)) (h : rdVal P σ (.len m) = some u) : ∃ v, Gives P a o w v w ∧ VR ρ u v := by
  simp only [VR] at hx
  obtain ⟨l, hl, e1⟩ := hx
  simp only [rdVal] at h
  cases ho' : σ.heap.get m with
  | none => simp [ho'] at h
  | some ob =>
    cases ob <;> simp only [ho', reduceCtorEq, Option.some.injEq] at h
    subst h
    obtain ⟨ES, ck, g1, hm⟩ := obj_map hs hl ho'
    refine ⟨goInt ES.size, builtin_gives ho ?_, by simp [VR, goInt, hm.size]⟩
    show (builtin .len ts o.type _ (#[x].map a.eval)).run P w = _
    simp [builtin, Builtin.len_, hts, run_under hT, e1, run_getObj_map g1]

theorem bytesOf_vals : ∀ {cs : List AV} {s : List UInt8} {vs : List Value}, bytesOf cs = some s → VRs ρ cs vs → ∃ ns : List Int, vs = ns.map (Value.int .u8) ∧ s = ns.map fun n => UInt8.ofNat n.toNat
  | [], s, vs, h, hv => by
    simp [bytesOf] at h; subst h
    exact ⟨[], by rw [VRs_nil.1 hv]; rfl, rfl⟩
  | x :: cs, s, vs, h, hv => by
    obtain ⟨y, ys, rfl, h1, h2⟩ := VRs_cons.1 hv
    cases x <;> (try simp only [bytesOf, reduceCtorEq] at h)
    rename_i k n
    cases k <;> simp only [bytesOf, reduceCtorEq, Option.map_eq_some_iff] at h
    obtain ⟨s', h3, rfl⟩ := h
    obtain ⟨ns, rfl, rfl⟩ := bytesOf_vals h3 h2
    simp only [VR] at h1
    exact ⟨n :: ns, by simp [h1], by simp⟩

theorem foldl_push : ∀ (ns : List Int) (b : ByteArray), (ns.foldl (fun r n => r.push (UInt8.ofNat n.toNat)) b).data.toList = b.data.toList ++ ns.map fun n => UInt8.ofNat n.toNat
  | [], b => by simp
  | n :: ns, b => by
    rw [List.foldl_cons, foldl_push ns]
    simp [ByteArray.push]

/-- The first elements of a slice. -/
theorem sl_cells {σ : AW} (hs : Sim P ρ σ w) {id off len : Nat} {cap : Cap} {v : Value} (hv : VR ρ (.sl id off len cap) v) {n size : Nat} (hn : n ≤ len) {cs : List AV} (h : loadC σ id off (n * size) = some cs) :
    ∃ A c, v = .slice (some A) len c ∧ A.spot = none ∧ ∃ vs : List Value, VRs ρ cs vs ∧ vs.length = n * size ∧ ∀ j v, vs[j]? = some v → w.cell? (A.add j) = some v := by
  simp only [VR] at hv
  obtain ⟨l, c, off', hl, rfl, hc⟩ := hv
  refine ⟨_, c, rfl, rfl, ?_⟩
  have key : off' = off ∨ len = 0 := by
    cases cap <;> simp only at hc
    · obtain ⟨h1, h2, h3⟩ := hc
      rcases h3 with h3 | h3
      · exact .inl h3
      · right; omega
    · rcases hc with h3 | h3
      · exact .inl h3.1
      · exact .inr h3.1
  rcases key with rfl | h0
  · exact loadC_ok hs hl h
  · obtain rfl : n = 0 := by omega
    obtain ⟨vs, g1, g2, g3⟩ := loadC_ok hs hl h
    have : vs = [] := by
      apply List.eq_nil_of_length_eq_zero; omega
    subst this
    exact ⟨[], g1, g2, by simp⟩

theorem text_ok {σ : AW} (hs : Sim P ρ σ w) {o : Oper} {x : Operand} {s d e : TypeId} (ho : o.op = .convert s d x) (hS : P.underlying s = some (.slice e)) (hE : P.underlying e = some (.int .u8)) (hD : P.underlying d = some .string) {id off len : Nat} {cap : Cap} {u : AV}
    (hx : VR ρ (.sl id off len cap) (a.eval x)) (h : rdVal P σ (.text id off len) = some u) : ∃ v, Gives P a o w v w ∧ VR ρ u v := by
  simp only [rdVal] at h
  cases hc : loadC σ id off len with
  | none => simp [hc] at h
  | some cs =>
    simp only [hc, Option.map_eq_some_iff] at h
    obtain ⟨bs, hb, rfl⟩ := h
    obtain ⟨A, c, e1, _, vs, g1, g2, g3⟩ := sl_cells hs hx (Nat.le_refl len) (size := 1) (by rw [Nat.mul_one]; exact hc)
    obtain ⟨ns, rfl, rfl⟩ := bytesOf_vals hb g1
    have hld := run_loadCells_list (P := P) w A _ g3
    rw [g2, Nat.mul_one] at hld
    refine ⟨.string (ns.foldl (fun r n => r.push (UInt8.ofNat n.toNat)) ByteArray.empty), .inl ?_, ?_⟩
    · simp [execOp, ho, e1, run_convert_bytes_string w s d e _ _ _ hS hE hD, run_bytesToString w A len c ns (by simpa using hld)]
    · simp only [VR]
      refine ⟨_, rfl, ?_⟩
      rw [foldl_push]; simp

theorem textNil_ok {o : Oper} {x : Operand} {s d e : TypeId} (ho : o.op = .convert s d x) (hS : P.underlying s = some (.slice e)) (hE : P.underlying e = some (.int .u8)) (hD : P.underlying d = some .string)
    (hx : VR ρ .nilsl (a.eval x)) : ∃ v, Gives P a o w v w ∧ VR ρ (.str []) v := by
  simp only [VR] at hx
  refine ⟨.string .empty, .inl ?_, ?_⟩
  · simp [execOp, ho, hx, run_convert_bytes_string w s d e _ _ _ hS hE hD, Conv.bytesToString]
  · simp only [VR]; exact ⟨_, rfl, rfl⟩

/-- A pointer turned into one of the kind that may point at all. -/
theorem cast_ok {σ : AW} (hs : Sim P ρ σ w) {o : Oper} {x : Operand} {s d t : TypeId} (ho : o.op = .convert s d x) (hS : P.underlying s = some (.pointer t)) (hD : P.underlying d = some .unsafePointer) (hz : P.cellsOf t ≠ 0) {id off : Nat} {u : AV}
    (hx : VR ρ (.ptr id off) (a.eval x)) (h : rdVal P σ (.cast id off none) = some u) : ∃ v, Gives P a o w v w ∧ VR ρ u v := by
  simp only [VR] at hx
  obtain ⟨l, hl, e1⟩ := hx
  simp only [rdVal] at h
  cases ho' : σ.heap.get id with
  | none => simp [ho'] at h
  | some ob =>
    cases ob <;> simp only [ho', reduceCtorEq] at h
    split at h
    · rename_i hn
      cases h
      obtain ⟨⟨N, h1, h2, _⟩, h3, _, _⟩ := obj_cells hs hl ho'
      refine ⟨a.eval x, .inl ?_, by rw [e1]; simp only [VR]; exact ⟨l, hl, rfl⟩⟩
      rw [e1]
      have hlt : ¬ N ≤ l.base + off := by omega
      simp [execOp, ho, e1, convert, run_under hS, run_under hD, Conv.unsafePointer, Conv.seenAt, viewAt, h1, cellsIn, hlt, run_size hz, hz]
    · cases h

theorem castBack_ok {σ : AW} (hs : Sim P ρ σ w) {o : Oper} {x : Operand} {s d t : TypeId} (ho : o.op = .convert s d x) (hS : P.underlying s = some .unsafePointer) (hD : P.underlying d = some (.pointer t)) {id off : Nat} {u : AV}
    (hx : VR ρ (.ptr id off) (a.eval x)) (h : rdVal P σ (.cast id off (some t)) = some u) : ∃ v, Gives P a o w v w ∧ VR ρ u v := by
  simp only [VR] at hx
  obtain ⟨l, hl, e1⟩ := hx
  simp only [rdVal] at h
  cases ho' : σ.heap.get id with
  | none => simp [ho'] at h
  | some ob =>
    cases ob <;> simp only [ho', reduceCtorEq] at h
    rename_i n z tr e fz wh
    split at h
    · rename_i hn
      cases h
      obtain ⟨hw, rfl, hne, hpos, hu, hzt⟩ := hn
      obtain ⟨⟨N, h1, h2, h4⟩, h3, _, _⟩ := obj_cells hs hl ho'
      obtain ⟨hb, hN⟩ := h4 hw
      subst hN
      refine ⟨a.eval x, .inl ?_, by rw [e1]; simp only [VR]; exact ⟨l, hl, rfl⟩⟩
      rw [e1]
      have hd : P.depth = (2 * (P.types.size + Made.depth) + 1) + 1 := rfl
      have hdiv : N / P.cellsOf e = 1 := by rw [hne]; exact Nat.div_self (by omega)
      have hl1 : liesAt P P.depth e 1 0 t 1 = true := by
        rw [hd]
        simp only [liesAt, Bool.or_eq_true]
        left
        rw [hd]
        have : P.cellsOf e ≠ 0 := by omega
        simp [rowAt, this, sameLayout, hu]
      have hva : (variablesAt ⟨l.b, 0, none⟩ t 1).run P w = .ok true w := by
        simp [variablesAt, h1, hdiv, hl1]
      simp [execOp, ho, e1, convert, run_under hS, run_under hD, Conv.unsafePointer, Conv.seenAt, viewAt, h1, hb, hva, run_size hzt]
    · cases h


theorem eqCell_false {x y : AV} (h : eqCell x y = some false) {v : Value} (hx : VR ρ x v) (hy : VR ρ y v) : False := by
  cases x <;> cases y <;> simp only [eqCell, reduceCtorEq] at h
  · split at h
    · simp only [VR] at hx hy
      rw [hx] at hy; injection hy with h1 h2
      simp [h2] at h
    · cases h
  · simp only [VR] at hx hy
    rw [hx] at hy; injection hy with h1
    simp [h1] at h
  · simp only [VR] at hx hy
    obtain ⟨s, rfl, rfl⟩ := hx
    obtain ⟨s', h1, rfl⟩ := hy
    cases h1
    rw [beqBytes_eq] at h; simp at h

theorem eqCells_false : ∀ {x y : List AV} {l : List Value}, eqCells x y = some false → VRs ρ x l → VRs ρ y l → False
  | [], [], _, h, _, _ => by simp [eqCells] at h
  | [], _ :: _, _, h, _, _ => by simp [eqCells] at h
  | _ :: _, [], _, h, _, _ => by simp [eqCells] at h
  | a :: x, b :: y, l, h, hx, hy => by
    obtain ⟨v, vs, rfl, h1, h2⟩ := VRs_cons.1 hx
    obtain ⟨v', vs', h5, h3, h4⟩ := VRs_cons.1 hy
    cases h5
    simp only [eqCells] at h
    split at h
    · exact eqCells_false h h2 h4
    · rename_i he; exact eqCell_false he h1 h3
    · cases h

theorem eqKey_false {x y : AV} (h : findK.eqKey x y = some false) {v : Value} (hx : VR ρ x v) (hy : VR ρ y v) : False := by
  unfold findK.eqKey at h
  split at h
  · split at h
    · simp only [VR] at hx hy
      obtain ⟨cs, rfl, h1⟩ := hx
      obtain ⟨cs', h3, h2⟩ := hy
      cases h3
      exact eqCells_false h h1 h2
    · cases h
  · exact eqCell_false h hx hy

theorem nodup_born {ES : List MapEntry} (h : (ES.map (·.born)).Nodup) {x y : MapEntry} (hx : x ∈ ES) (hy : y ∈ ES) (e : x.born = y.born) : x = y := by
  induction ES with
  | nil => cases hx
  | cons z ES ih =>
    simp only [List.map_cons, List.nodup_cons, List.mem_map, not_exists, not_and] at h
    rcases List.mem_cons.1 hx with hx1 | hx1 <;> rcases List.mem_cons.1 hy with hy1 | hy1
    · rw [hx1, hy1]
    · subst hx1; exact absurd e.symm (h.1 y hy1)
    · subst hy1; exact absurd e (h.1 x hx1)
    · exact ih h.2 hx1 hy1

/-- The entry at which an iterator stands. -/
theorem entry_ok {σ : AW} (hs : Sim P ρ σ w) {o : Oper} {x : Operand} (ho : o.op = .entry x) {it : Nat} {u : AV}
    (hx : VR ρ (.ptr it 0) (a.eval x)) (h : rdVal P σ (.entry it) = some u) : ∃ v, Gives P a o w v w ∧ VR ρ u v := by
  simp only [VR] at hx
  obtain ⟨l, hl, e1⟩ := hx
  simp only [rdVal] at h
  split at h
  · rename_i m ver k ks ho'
    split at h
    · rename_i es ver' hm
      split at h
      · rename_i hver
        subst hver
        split at h
        · rename_i v hf
          cases h
          obtain ⟨_, o2, h1, _, h2⟩ := hs.obj it l hl
          rw [ho'] at h1; cases h1
          obtain ⟨hb, lm, since, seen, st, es', v', k1, k2, k3, k4, k5⟩ := h2
          rw [hb] at e1
          rw [hm] at k3; cases k3
          obtain ⟨ES, k6, rfl, k7⟩ := k5 rfl
          obtain ⟨ES', ck, g1, hmr⟩ := obj_map hs k1 hm
          rw [k6] at g1; cases g1
          obtain ⟨b, l', hrev, ⟨e, he, heb, hek⟩, _⟩ := k7
          obtain ⟨ha, ⟨L, hp, hL⟩, _, hnd⟩ := hmr
          obtain ⟨pre, post, rfl, hkk, hall⟩ := findK_some ha hf
          obtain ⟨kv, hkv, hk1, hk2⟩ := hL.mem e (hp.mem_iff.2 he)
          have hkv' : kv = (k, v) := by
            rcases List.mem_append.1 hkv with hh | hh
            · exact (eqKey_false (hall kv (by simp [hh])) hek hk1).elim
            · rcases List.mem_cons.1 hh with hh | hh
              · exact hh
              · exact (eqKey_false (hall kv (by simp [hh])) hek hk1).elim
          subst hkv'
          have hback : seen.back? = some b := by
            have : seen.toList = l'.reverse ++ [b] := by
              have := congrArg List.reverse hrev
              simpa using this
            rw [Array.back?_eq_getElem?, ← Array.getElem?_toList, this]
            have : seen.size = (l'.reverse ++ [b]).length := by rw [← this, Array.length_toList]
            rw [this]; simp
          have hfind : ES.find? (fun x => x.born == b) = some e := by
            rw [← Array.find?_toList]
            cases hfd : ES.toList.find? (fun x => x.born == b) with
            | none =>
              have := List.find?_eq_none.1 hfd e he
              simp [heb] at this
            | some e' =>
              have hmem := List.mem_of_find?_eq_some hfd
              have hbe := List.find?_some hfd
              rw [nodup_born hnd hmem he (by simpa [heb] using hbe)]
          refine ⟨.tuple #[e.key, e.val], .inl ?_, ?_⟩
          · simp only [execOp, ho, e1, Instr.entry, Nat.add_zero, Sem.run_bind, run_getObj_iter k2, run_getObj_map k6, hback, hfind, Result.andThen_ok]
            simp
          · simp only [VR]
            exact ⟨_, rfl, VRs_cons.2 ⟨_, _, rfl, hek, VRs_cons.2 ⟨_, _, rfl, hk2, by simp [VRs]⟩⟩⟩
        · cases h
      · cases h
    · cases h
  · cases h

end Pe

namespace Pe
open Go
variable {P : Program} {ρ : Rho} {fr : Fr} {a : Act} {w : World}

theorem heap_new (w : World) (o : Obj) : (w.heap.push o)[w.heap.size]? = some o := by simp

/-- A new object: what it is, wherever its number comes to be known. -/
def MkGives (P : Program) (ρ : Rho) (w : World) (a : Act) (o : Oper) (ob : AO) (sl : Option (Nat × Cap)) (mp : Bool) : Prop :=
  ∃ v O l w', Gives P a o w v w' ∧ w'.heap = w.heap.push O ∧ l.b = w.heap.size ∧ (∀ (ρ2 : Rho) id, ρ2 id = some l → VR ρ2 (mkVal sl mp id) v) ∧ (∀ (ρ2 : Rho) (σ2 : AW), ρ.le ρ2 → OR P ρ2 σ2 l w' ob) ∧ SameIO w w'

theorem MkGives.eff {σ : AW} (hs : Sim P ρ σ w) {o : Oper} {ob : AO} {sl : Option (Nat × Cap)} {mp : Bool} (h : MkGives P ρ w a o ob sl mp) : EffGives P ρ σ w a o (mkVal sl mp σ.next) (σ.new ob) := by
  obtain ⟨v, O, l, w', g1, g2, g3, g4, g5, g6⟩ := h
  have key := hs.new ob O l g3 g2 (g5 _ _ (hs.le_upd l)) g6
  exact ⟨v, w', _, g1, g4 _ _ (by simp [Rho.upd]), key.1, key.2⟩

theorem mk_or {C : Array Value} {e : TypeId} {fr0 : Nat × Nat} {n : Nat} {z : List AV} {t : Tr AV} {fz : Nat} {wh : Bool} {w' : World} (hw : w'.heap = w.heap.push (.cells C e fr0))
    (hfr : fz ≤ n → fr0.1 ≠ fr0.2 → fr0.2 ≤ fz) (hn : n ≤ C.size) (hwh : wh = true → C.size = n)
    (hc : ∀ i, i < n → ∃ x v, cellAt z t i = some x ∧ x.isCell = true ∧ C[i]? = some v ∧ VR ρ x v) (ρ2 : Rho) (σ2 : AW) (hle : ρ.le ρ2) : OR P ρ2 σ2 ⟨w.heap.size, 0, C.size⟩ w' (.cells n z t e fz wh) := by
  have hb : w'.heap[w.heap.size]? = some (.cells C e fr0) := by rw [hw]; simp
  refine ⟨⟨C.size, ?_, by simp, fun h => ⟨rfl, hwh h⟩⟩, hn, ?_, ?_⟩
  · simp [World.shape?, hb]
  · intro i hi
    obtain ⟨x, v, h1, h2, h3, h4⟩ := hc i hi
    exact ⟨x, v, h1, h2, by simp [World.cell?, hb, h3], VR.mono hle _ _ h4⟩
  · intro hn' fr hf hne
    simp only [frOf, hb, Option.some.injEq] at hf
    subst hf
    have := hfr hn' hne
    simp only; omega

theorem ptr_at {ρ2 : Rho} {id : Nat} {l : Loc} (h : ρ2 id = some l) (hl : l.base = 0) : VR ρ2 (.ptr id 0) (.pointer (some ⟨l.b, 0, none⟩)) := by
  simp only [VR]; exact ⟨l, h, by rw [hl]⟩

theorem sl_at {ρ2 : Rho} {id : Nat} {l : Loc} (h : ρ2 id = some l) (hl : l.base = 0) {n c : Nat} (hc : n ≤ c) : VR ρ2 (.sl id 0 n (.is c)) (.slice (some ⟨l.b, 0, none⟩) n c) := by
  simp only [VR]; exact ⟨l, c, 0, h, by rw [hl], rfl, hc, .inl rfl⟩

/-- A row of cells in a new block. -/
theorem mk_cells {σ : AW} (hs : Sim P ρ σ w) {C : Array Value} {e : TypeId} {fr0 : Nat × Nat} {n : Nat} {z : List AV} {t : Tr AV} {fz : Nat} {wh : Bool} {w' : World} (hw : w'.heap = w.heap.push (.cells C e fr0))
    (hfr : fz ≤ n → fr0.1 ≠ fr0.2 → fr0.2 ≤ fz) (hn : n ≤ C.size) (hwh : wh = true → C.size = n)
    (hc : ∀ i, i < n → ∃ x v, cellAt z t i = some x ∧ x.isCell = true ∧ C[i]? = some v ∧ VR ρ x v)
    (hio : SameIO w w' := by exact ⟨rfl, rfl⟩) : Sim P (ρ.upd σ.next ⟨w.heap.size, 0, C.size⟩) (σ.new (.cells n z t e fz wh)) w' ∧ Post ρ σ w (ρ.upd σ.next ⟨w.heap.size, 0, C.size⟩) (σ.new (.cells n z t e fz wh)) w' := by
  have hb : w'.heap[w.heap.size]? = some (.cells C e fr0) := by rw [hw]; simp
  refine hs.new _ (.cells C e fr0) ⟨w.heap.size, 0, C.size⟩ rfl hw ⟨⟨C.size, ?_, by simp, fun h => ⟨rfl, hwh h⟩⟩, hn, ?_, ?_⟩ hio
  · simp [World.shape?, hb]
  · intro i hi
    obtain ⟨x, v, h1, h2, h3, h4⟩ := hc i hi
    exact ⟨x, v, h1, h2, by simp [World.cell?, hb, h3], VR.mono (hs.le_upd _) _ _ h4⟩
  · intro hn' fr hf hne
    simp only [frOf, hb, Option.some.injEq] at hf
    subst hf
    have := hfr hn' hne
    simp only; omega

theorem VRs.cell {xs : List AV} {vs : List Value} (h : VRs ρ xs vs) (hc : xs.all AV.isCell = true) : ∀ i, i < xs.length → ∃ x v, xs[i]? = some x ∧ x.isCell = true ∧ vs[i]? = some v ∧ VR ρ x v := by
  intro i hi
  obtain ⟨v, h1, h2⟩ := h.get (List.getElem?_eq_getElem hi)
  exact ⟨xs[i], v, List.getElem?_eq_getElem hi, List.all_eq_true.1 hc _ (List.getElem_mem hi), h1, h2⟩

theorem get_nil {α : Type} (n : Nat) : (Tr.nil : Tr α).get n = none := Tr.get_nil n

theorem cellAt_nil (z : List AV) (i : Nat) : cellAt z .nil i = z[i % z.length]? := by simp [cellAt, get_nil]

theorem ptr_new (σ : AW) (l : Loc) (hl : l.base = 0) : VR (ρ.upd σ.next l) (.ptr σ.next 0) (.pointer (some ⟨l.b, 0, none⟩)) := by
  simp only [VR]; exact ⟨l, by simp [Rho.upd], by rw [hl]⟩

theorem sl_new (σ : AW) (l : Loc) (hl : l.base = 0) {n c : Nat} (h : n ≤ c) : VR (ρ.upd σ.next l) (.sl σ.next 0 n (.is c)) (.slice (some ⟨l.b, 0, none⟩) n c) := by
  simp only [VR]; exact ⟨l, c, 0, by simp [Rho.upd], by rw [hl], rfl, h, .inl rfl⟩

theorem alloc_ok {o : Oper} {t : TypeId} (ho : o.op = .alloc t) {z : AV} (hz : zeroA P t = some z) (hn : z.cells.length = P.cellsOf t) (hc : z.cells.all AV.isCell = true) :
    MkGives P ρ w a o (.cells (P.cellsOf t) z.cells .nil t 0 true) none false := by
  obtain ⟨v, h1, h2⟩ := zero_run (P := P) (w := w) hz
  have hvs := (h2 ρ).cells hc
  have hsz : v.cells.size = P.cellsOf t := by rw [← Array.length_toList, hvs.length, hn]
  have key := mk_or (P := P) (ρ := ρ) (w' := w.alloc (.cells v.cells t)) (C := v.cells) (e := t) (fr0 := (0, 0)) (n := P.cellsOf t) (z := z.cells) (t := .nil) (fz := 0) (wh := true) rfl (by simp) (by omega) (fun _ => hsz) (by
    intro i hi
    obtain ⟨x, u, g1, g2, g3, g4⟩ := hvs.cell hc i (by omega)
    exact ⟨x, u, by rw [cellAt_nil, Nat.mod_eq_of_lt (by omega)]; exact g1, g2, by simpa using g3, g4⟩)
  refine ⟨.pointer (some ⟨w.heap.size, 0, none⟩), _, ⟨w.heap.size, 0, _⟩, _, .inl ?_, rfl, rfl, fun _ _ hl => ptr_at hl rfl, key, rfl, rfl⟩
  simp [execOp, ho, Instr.alloc, h1, newVar, newRow]

theorem box_ok {o : Oper} {t : TypeId} {x : Operand} (ho : o.op = .box t x) {u : AV} (hx : VR ρ u (a.eval x)) (hc : u.cells.all AV.isCell = true) :
    MkGives P ρ w a o (.cells u.cells.length u.cells .nil t 0 true) none false := by
  have hvs := hx.cells hc
  have hsz : (a.eval x).cells.size = u.cells.length := by rw [← Array.length_toList, hvs.length]
  have key := mk_or (P := P) (ρ := ρ) (w' := w.alloc (.cells (a.eval x).cells t)) (C := (a.eval x).cells) (e := t) (fr0 := (0, 0)) (n := u.cells.length) (z := u.cells) (t := .nil) (fz := 0) (wh := true) rfl (by simp) (by omega) (fun _ => hsz) (by
    intro i hi
    obtain ⟨x, u, g1, g2, g3, g4⟩ := hvs.cell hc i (by omega)
    exact ⟨x, u, by rw [cellAt_nil, Nat.mod_eq_of_lt (by omega)]; exact g1, g2, by simpa using g3, g4⟩)
  refine ⟨.pointer (some ⟨w.heap.size, 0, none⟩), _, ⟨w.heap.size, 0, _⟩, _, .inl ?_, rfl, rfl, fun _ _ hl => ptr_at hl rfl, key, rfl, rfl⟩
  simp [execOp, ho, Instr.box, newVar, newRow]

/-- The cells of a row, as the trie has them. -/
def Row (ρ : Rho) (z : List AV) (t : Tr AV) (n : Nat) (C : Array Value) : Prop := C.size = n ∧ ∀ i, i < n → ∃ x v, cellAt z t i = some x ∧ x.isCell = true ∧ C[i]? = some v ∧ VR ρ x v

theorem foldl_set (off : Nat) : ∀ (vs : List Value) (k : Nat) (C : Array Value),
    ((vs.zipIdx k).foldl (fun cs (c : Value × Nat) => cs.setIfInBounds (off + c.2) c.1) C).size = C.size ∧ (off + k + vs.length ≤ C.size → ∀ i, ((vs.zipIdx k).foldl (fun cs (c : Value × Nat) => cs.setIfInBounds (off + c.2) c.1) C)[i]? = if off + k ≤ i ∧ i < off + k + vs.length then vs[i - (off + k)]? else C[i]?)
  | [], k, C => by
    refine ⟨rfl, fun _ i => ?_⟩
    rw [if_neg (by simp only [List.length_nil]; omega)]; rfl
  | v :: vs, k, C => by
    obtain ⟨h1, h2⟩ := foldl_set off vs (k + 1) (C.setIfInBounds (off + k) v)
    refine ⟨by simpa [List.zipIdx_cons] using h1, fun hb i => ?_⟩
    simp only [List.length_cons] at hb
    have := h2 (by simp only [Array.size_setIfInBounds]; omega) i
    simp only [List.zipIdx_cons, List.foldl_cons]
    rw [this]
    simp only [List.length_cons]
    by_cases hi : off + (k + 1) ≤ i ∧ i < off + (k + 1) + vs.length
    · rw [if_pos hi, if_pos (by omega)]
      rw [show i - (off + k) = (i - (off + (k + 1))) + 1 by omega]; simp
    · rw [if_neg hi]
      by_cases he : i = off + k
      · subst he
        rw [if_pos (by omega)]
        have hlt : off + k < C.size := by omega
        simp [hlt]
      · rw [if_neg (by omega), Array.getElem?_setIfInBounds_ne (by omega)]

/-- Parts laid into a row. -/
theorem fill_ok {place : Nat → Option (Nat × Nat)} {n : Nat} {z : List AV} : ∀ {ps : List (Nat × AV)} {vs : List (Nat × Value)} {t t' : Tr AV} {C : Array Value}, fillA place n t ps = some t' → Row ρ z t n C →
    vs.map Prod.fst = ps.map Prod.fst → VRs ρ (ps.map Prod.snd) (vs.map Prod.snd) → ∃ C', Instr.fill place C vs = some C' ∧ Row ρ z t' n C'
  | [], vs, t, t', C, h, hr, h1, _ => by
    simp only [fillA, Option.some.injEq] at h; subst h
    have : vs = [] := by simpa using h1
    subst this
    exact ⟨C, rfl, hr⟩
  | (i, x) :: ps, vs, t, t', C, h, hr, h1, h2 => by
    cases vs with
    | nil => simp at h1
    | cons y vs =>
      obtain ⟨i', v⟩ := y
      simp only [List.map_cons, List.cons.injEq] at h1
      obtain ⟨rfl, h1⟩ := h1
      simp only [List.map_cons] at h2
      obtain ⟨y, ys, e, h3, h4⟩ := VRs_cons.1 h2
      simp only [List.cons.injEq] at e
      obtain ⟨rfl, rfl⟩ := e
      simp only [fillA] at h
      cases hp : place i' with
      | none => simp [hp] at h
      | some q =>
        obtain ⟨off, size⟩ := q
        simp only [hp] at h
        split at h
        · rename_i hc
          obtain ⟨hc1, hc2, hc3⟩ := hc
          have hvs := h3.cells hc3
          have hsz : v.cells.size = size := by rw [← Array.length_toList, hvs.length, hc1]
          obtain ⟨f1, f2⟩ := foldl_set off v.cells.toList 0 C
          have hrow : Row ρ z (setFrom t off x.cells) n ((v.cells.toList.zipIdx 0).foldl (fun cs (c : Value × Nat) => cs.setIfInBounds (off + c.2) c.1) C) := by
            refine ⟨by rw [f1, hr.1], fun j hj => ?_⟩
            rw [f2 (by rw [hr.1, Array.length_toList]; omega) j, cellAt_setFrom]
            have hl2 : v.cells.toList.length = size := by rw [Array.length_toList]; exact hsz
            rw [hl2, hc1, Nat.add_zero]
            by_cases hin : off ≤ j ∧ j < off + size
            · rw [if_pos hin, if_pos hin]
              obtain ⟨x', v', g1, g2, g3, g4⟩ := hvs.cell hc3 (j - off) (by omega)
              exact ⟨x', v', g1, g2, g3, g4⟩
            · rw [if_neg hin, if_neg hin]; exact hr.2 j hj
          obtain ⟨C', g1, g2⟩ := fill_ok h hrow h1 h4
          refine ⟨C', ?_, g2⟩
          simp only [Instr.fill, hp]
          have hcond : ¬ (v.cells.size ≠ size || decide (off + v.cells.size > C.size)) = true := by
            rw [hsz, hr.1]; simp; omega
          rw [if_neg hcond]
          rw [← g1]
          congr 1
          rw [← Array.foldl_toList, Array.toList_zipIdx]
        · cases h

theorem evalP_rel : ∀ {ps : List (Nat × Operand)} {vs : List (Nat × AV)}, fr.evalP ps = some vs → (∀ x ∈ ps.map Prod.snd, ∀ u, fr.eval x = some u → VR ρ u (a.eval x)) →
    (ps.map fun p => (p.1, a.eval p.2)).map Prod.fst = vs.map Prod.fst ∧ VRs ρ (vs.map Prod.snd) ((ps.map fun p => (p.1, a.eval p.2)).map Prod.snd)
  | [], vs, h, _ => by
    simp only [Fr.evalP, Option.some.injEq] at h; subst h; simp [VRs]
  | (i, x) :: ps, vs, h, H => by
    simp only [Fr.evalP] at h
    split at h
    · rename_i u us h1 h2
      cases h
      obtain ⟨g1, g2⟩ := evalP_rel h2 (fun y hy => H y (by simp at hy ⊢; exact .inr hy))
      refine ⟨by simp only [List.map_cons, g1], ?_⟩
      simp only [List.map_cons]
      exact VRs_cons.2 ⟨_, _, rfl, H x (by simp) _ h1, g2⟩
    · cases h

end Pe

namespace Pe
open Go
variable {P : Program} {ρ : Rho} {fr : Fr} {a : Act} {w : World}

theorem VRs_of_get : ∀ {xs : List AV} {vs : List Value}, xs.length = vs.length → (∀ (i : Nat) x v, xs[i]? = some x → vs[i]? = some v → VR ρ x v) → VRs ρ xs vs
  | [], [], _, _ => by simp [VRs]
  | [], _ :: _, h, _ => by simp at h
  | _ :: _, [], h, _ => by simp at h
  | x :: xs, v :: vs, h, H => VRs_cons.2 ⟨v, vs, rfl, H 0 x v rfl rfl, VRs_of_get (by simpa using h) (fun i x v h1 h2 => H (i + 1) x v (by simpa using h1) (by simpa using h2))⟩

theorem Row.vrs {z : List AV} {t : Tr AV} {n : Nat} {C : Array Value} (h : Row ρ z t n C) {cs : List AV} (hc : cellsFrom z t 0 n = some cs) : VRs ρ cs C.toList := by
  have hl := cellsFrom_len hc
  refine VRs_of_get (by rw [hl, Array.length_toList, h.1]) fun i x v h1 h2 => ?_
  have hi : i < n := by
    have := (List.getElem?_eq_some_iff.1 h1).1; omega
  obtain ⟨c, g1, g2⟩ := cellsFrom_get hc i hi
  obtain ⟨x', v', k1, _, k3, k4⟩ := h.2 i hi
  rw [Nat.zero_add] at g1
  rw [g1] at k1; cases k1
  rw [g2] at h1; cases h1
  rw [Array.getElem?_toList, k3] at h2; cases h2
  exact k4

theorem VRs.row {z : List AV} {vs : List Value} (h : VRs ρ z vs) (hc : z.all AV.isCell = true) : Row ρ z .nil z.length vs.toArray := by
  refine ⟨by simp [h.length], fun i hi => ?_⟩
  obtain ⟨x, v, g1, g2, g3, g4⟩ := h.cell hc i hi
  exact ⟨x, v, by rw [cellAt_nil, Nat.mod_eq_of_lt hi]; exact g1, g2, by simpa using g3, g4⟩

theorem places_all : ∀ (fs : List Field), (fs.all fun f => (P.info? f.type).isSome) = true → fs.mapM (fun f => (P.info? f.type).map fun i => (f.offset, i.size)) = some (fs.map fun f => (f.offset, P.cellsOf f.type))
  | [], _ => by simp
  | f :: fs, h => by
    simp only [List.all_cons, Bool.and_eq_true] at h
    obtain ⟨i, hi⟩ := Option.isSome_iff_exists.1 h.1
    simp [List.mapM_cons, hi, places_all fs h.2, Program.cellsOf]

theorem zero_info {t : TypeId} {z : AV} (h : zeroA P t = some z) : ∃ i v, P.info? t = some i ∧ i.zero = some v ∧ ∀ ρ, VR ρ z v := by
  unfold zeroA at h
  cases hi : P.info? t with
  | none => simp [hi] at h
  | some i =>
    simp only [hi, Option.bind_some] at h
    cases hz : i.zero with
    | none => simp [hz] at h
    | some v =>
      simp only [hz, Option.bind_some] at h
      exact ⟨i, v, rfl, hz, fun ρ => emb_VR h ρ⟩

/-- A struct or an array, built of its parts. -/
theorem build_ok {o : Oper} {t : TypeId} {ps : Array (Nat × Operand)} (ho : o.op = .build t ps) {z : AV} (hz : zeroA P t = some z) {vs : List (Nat × AV)} (hp : fr.evalP ps.toList = some vs) (hzc : z.cells.all AV.isCell = true)
    {place : Nat → Option (Nat × Nat)} (hd : (∃ fs, P.underlying t = some (.struct fs) ∧ (fs.toList.all fun f => (P.info? f.type).isSome) = true ∧ place = fun i => (fs[i]?).map fun f => (f.offset, P.cellsOf f.type)) ∨ ∃ n e, P.underlying t = some (.array n e) ∧ (P.info? e).isSome = true ∧ place = fun i => some (i * P.cellsOf e, P.cellsOf e))
    {t' : Tr AV} (hf : fillA place z.cells.length .nil vs = some t') {cs : List AV} (hcs : cellsFrom z.cells t' 0 z.cells.length = some cs) (H : EvalRel ρ fr a o.op.operands.toList) :
    ∃ v, Gives P a o w v w ∧ VR ρ (.agg cs) v := by
  obtain ⟨i, zv, hi, hiz, hzv⟩ := zero_info hz
  have hvs := (hzv ρ).cells hzc
  have hrow : Row ρ z.cells .nil z.cells.length zv.cells := by simpa using hvs.row hzc
  have hrel := evalP_rel hp (a := a) (ρ := ρ) (fun x hx => H x (by simp only [ho, Op.operands]; simpa using hx))
  obtain ⟨C', g1, g2⟩ := fill_ok hf hrow hrel.1 hrel.2
  have hb : P.built t (ps.map fun (i, x) => (i, a.eval x)).toList = some C' := by
    have e1 : (ps.map fun (i, x) => (i, a.eval x)).toList = ps.toList.map fun p => (p.1, a.eval p.2) := by simp
    rw [e1]
    unfold Program.built
    rcases hd with ⟨fs, hu, hall, rfl⟩ | ⟨n, e, hu, hie, rfl⟩
    · simp only [hi, hu, hiz, places_all _ hall]
      rw [← g1]; congr 1
      funext j
      simp
    · obtain ⟨ie, hie⟩ := Option.isSome_iff_exists.1 hie
      simp only [hi, hu, hiz, hie]
      rw [← g1]; congr 1
      funext j
      simp [Program.cellsOf, hie]
  refine ⟨.agg C', .inl ?_, ?_⟩
  · simp [execOp, ho, run_build w t _ _ hb]
  · simp only [VR]; exact ⟨C', rfl, g2.vrs hcs⟩

theorem madeRow {z : List AV} {zv : Array Value} (hvs : VRs ρ z zv.toList) (hc : z.all AV.isCell = true) {n k : Nat} (hk : z.length = k) : Row ρ z .nil (n * k) ((Array.range (n * k)).map (zv[· % zv.size]!)) := by
  refine ⟨by simp, fun i hi => ?_⟩
  have hkp : 0 < k := by
    rcases Nat.eq_zero_or_pos k with rfl | h
    · simp at hi
    · exact h
  have hm : i % z.length < z.length := Nat.mod_lt _ (by omega)
  obtain ⟨x, v, g1, g2, g3, g4⟩ := hvs.cell hc _ hm
  refine ⟨x, v, by rw [cellAt_nil]; exact g1, g2, ?_, g4⟩
  have hsz : zv.size = z.length := by rw [← Array.length_toList, hvs.length]
  rw [Array.getElem?_toList] at g3
  simp [hi, hsz, getElem!_def, g3]

theorem Row.mk {z : List AV} {t : Tr AV} {n : Nat} {C : Array Value} (h : Row ρ z t n C) {e : TypeId} {w' : World} (hw : w'.heap = w.heap.push (.cells C e)) (ρ2 : Rho) (σ2 : AW) (hle : ρ.le ρ2) :
    OR P ρ2 σ2 ⟨w.heap.size, 0, C.size⟩ w' (.cells n z t e 0 true) :=
  mk_or hw (by simp) (Nat.le_of_eq h.1.symm) (fun _ => h.1) h.2 ρ2 σ2 hle

theorem buildSlice_ok {o : Oper} {t e : TypeId} {len : Nat} {ps : Array (Nat × Operand)} (ho : o.op = .buildSlice t len ps) (hT : P.underlying t = some (.slice e)) {z : AV} (hz : zeroA P e = some z) {vs : List (Nat × AV)} (hp : fr.evalP ps.toList = some vs)
    (hn : z.cells.length = P.cellsOf e) (hzc : z.cells.all AV.isCell = true) (hmax : len * P.cellsOf e ≤ 16777216) {t' : Tr AV} (hf : fillA (fun i => some (i * P.cellsOf e, P.cellsOf e)) (len * P.cellsOf e) .nil vs = some t') (H : EvalRel ρ fr a o.op.operands.toList) :
    MkGives P ρ w a o (.cells (len * P.cellsOf e) z.cells t' e 0 true) (some (len, .is len)) false := by
  obtain ⟨i, zv, hi, hiz, hzv⟩ := zero_info hz
  have hvs := (hzv ρ).cells hzc
  have hcells : P.cellsOf e = i.size := by simp [Program.cellsOf, hi]
  have hrow : Row ρ z.cells .nil (len * P.cellsOf e) ((Array.range (len * P.cellsOf e)).map (zv.cells[· % zv.cells.size]!)) := madeRow hvs hzc hn
  have hrel := evalP_rel hp (a := a) (ρ := ρ) (fun x hx => H x (by simp only [ho, Op.operands]; simpa using hx))
  obtain ⟨C', g1, g2⟩ := fill_ok hf hrow hrel.1 hrel.2
  have key := g2.mk (P := P) (w := w) (e := e) (w' := w.alloc (.cells C' e)) rfl
  refine ⟨.slice (some ⟨w.heap.size, 0, none⟩) len len, _, ⟨w.heap.size, 0, _⟩, _, .inl ?_, rfl, rfl, fun _ _ hl => sl_at hl rfl (Nat.le_refl _), key, rfl, rfl⟩
  have e1 : (ps.map fun (i, x) => (i, a.eval x)).toList = ps.toList.map fun p => (p.1, a.eval p.2) := by simp
  rw [hcells] at g1 hmax
  have hmax' : ¬ 16777216 < len * i.size := by omega
  by_cases h0 : len * i.size = 0
  · have g1' : Instr.fill (fun j => some (j * i.size, i.size)) #[] (ps.toList.map fun p => (p.1, a.eval p.2)) = some C' := by
      have : (Array.range (len * i.size)).map (zv.cells[· % zv.cells.size]!) = #[] := by rw [h0]; simp
      rw [this] at g1; exact g1
    simp [execOp, ho, Instr.buildSlice, run_under hT, Go.sizeOf, typeInfo, hi, h0, newRow, g1', Array.range_zero']
  · simp [execOp, ho, Instr.buildSlice, run_under hT, Go.sizeOf, typeInfo, hi, zeroValue, hiz, hmax', h0, newRow, g1]

theorem makeMap_ok {o : Oper} {t : TypeId} (ho : o.op = .makeMap t none) :
    MkGives P ρ w a o (.map [] 0) none true := by
  refine ⟨.map (some w.heap.size), .map #[] 0, ⟨w.heap.size, 0, 0⟩, w.alloc (.map #[] 0), .inl ?_, rfl, rfl, fun ρ2 id hl => ?_, fun ρ2 σ2 _ => ⟨#[], 0, by show (w.heap.push _)[w.heap.size]? = _; simp, trivial, ⟨[], List.Perm.refl _, rfl⟩, by simp, by simp⟩, rfl, rfl⟩
  · simp [execOp, ho, Instr.makeMap]
  · simp only [mkVal, if_true, VR]; exact ⟨_, hl, rfl⟩

theorem makeSlice_ok {o : Oper} {t e : TypeId} {x y : Operand} (ho : o.op = .makeSlice t x y) (hT : P.underlying t = some (.slice e)) {k k' : IntKind} {l c : Int} (hx : VR ρ (.int k l) (a.eval x)) (hy : VR ρ (.int k' c) (a.eval y))
    {z : AV} (hz : zeroA P e = some z) {info : TypeInfo} (hI : P.info? e = some info) (h0 : 0 ≤ l) (h1 : l ≤ c) (h2 : c.toNat * info.bytes ≤ roomA) (h3 : c < 1099511627776) (hn : z.cells.length = P.cellsOf e) (hzc : z.cells.all AV.isCell = true) :
    MkGives P ρ w a o (.cells (c.toNat * P.cellsOf e) z.cells .nil e 0 true) (some (l.toNat, .is c.toNat)) false := by
  obtain ⟨i, zv, hi, hiz, hzv⟩ := zero_info hz
  rw [hI] at hi; cases hi
  have hvs := (hzv ρ).cells hzc
  have hcells : P.cellsOf e = info.size := by simp [Program.cellsOf, hI]
  have hrow : Row ρ z.cells .nil (c.toNat * P.cellsOf e) ((Array.range (c.toNat * P.cellsOf e)).map (zv.cells[· % zv.cells.size]!)) := madeRow hvs hzc hn
  rw [hcells] at hrow
  have key := hrow.mk (P := P) (w := w) (e := e) (w' := w.alloc (.cells (madeCells zv.cells (c.toNat * info.size)) e)) rfl
  simp only [VR] at hx hy
  have hby : (info.bytes : Int) * c ≤ 281474976710656 := by
    have : ((c.toNat * info.bytes : Nat) : Int) ≤ (2 ^ 40 : Nat) := by
      have := h2; unfold roomA at this; exact_mod_cast this
    have e1 : ((c.toNat * info.bytes : Nat) : Int) = info.bytes * c := by
      rw [Int.natCast_mul, Int.toNat_of_nonneg (by omega), Int.mul_comm]
    rw [e1] at this
    omega
  rw [hcells]
  refine ⟨.slice (some ⟨w.heap.size, 0, none⟩) l.toNat c.toNat, _, ⟨w.heap.size, 0, _⟩, _, .inl ?_, rfl, rfl, fun _ _ hl => sl_at hl rfl (by omega), key, rfl, rfl⟩
  simp [execOp, ho, hx, hy, run_make w t e info zv hT hI hiz k k' l c h0 h1 hby (by omega)]

theorem rangeS_ok {o : Oper} {t : TypeId} {x : Operand} (ho : o.op = .range t x) (hT : P.underlying t = some .string) {s : List UInt8} (hx : VR ρ (.str s) (a.eval x)) :
    MkGives P ρ w a o (.siter s 0) none false := by
  simp only [VR] at hx
  obtain ⟨S, e1, h1⟩ := hx
  refine ⟨.pointer (some ⟨w.heap.size, 0, none⟩), .stringIter S 0, ⟨w.heap.size, 0, 0⟩, w.alloc (.stringIter S 0), .inl ?_, rfl, rfl, fun _ _ hl => ptr_at hl rfl, fun ρ2 σ2 _ => ⟨rfl, S, by show (w.heap.push _)[w.heap.size]? = _; simp, h1⟩, rfl, rfl⟩
  simp [execOp, ho, Instr.range, run_under hT, e1]

theorem rangeN_ok {o : Oper} {t k e : TypeId} {x : Operand} (ho : o.op = .range t x) (hT : P.underlying t = some (.map k e)) (hx : VR ρ .nilmap (a.eval x)) :
    MkGives P ρ w a o (.miter none []) none false := by
  simp only [VR] at hx
  refine ⟨.pointer (some ⟨w.heap.size, 0, none⟩), .mapIter none 0 #[] 0, ⟨w.heap.size, 0, 0⟩, w.alloc (.mapIter none 0 #[] 0), .inl ?_, rfl, rfl, fun _ _ hl => ptr_at hl rfl, fun ρ2 σ2 _ => ⟨rfl, 0, #[], 0, by show (w.heap.push _)[w.heap.size]? = _; simp⟩, rfl, rfl⟩
  simp [execOp, ho, Instr.range, run_under hT, hx]

theorem rangeM_ok {σ : AW} (hs : Sim P ρ σ w) {o : Oper} {t k e : TypeId} {x : Operand} (ho : o.op = .range t x) (hT : P.underlying t = some (.map k e)) {m : Nat} (hx : VR ρ (.map m) (a.eval x)) {es : List (AV × AV)} {ver : Nat} (hm : σ.heap.get m = some (.map es ver)) :
    EffGives P ρ σ w a o (.ptr σ.next 0) (σ.new (.miter (some (m, ver)) [])) := by
  simp only [VR] at hx
  obtain ⟨lm, hl, e1⟩ := hx
  obtain ⟨ES, ck, g1, hmr⟩ := obj_map hs hl hm
  have hmid := (hs.obj m lm hl).1
  have hb : lm.b < w.heap.size := by
    obtain ⟨_, o2, h1, h2, _⟩ := hs.obj m lm hl
    rw [hm] at h1; cases h1; exact h2 rfl
  have key := hs.new (w' := w.alloc (.mapIter (some lm.b) ck #[] ck)) (.miter (some (m, ver)) []) (.mapIter (some lm.b) ck #[] ck) ⟨w.heap.size, 0, 0⟩ rfl rfl
    ⟨rfl, lm, ck, #[], ck, es, ver, by simp only [Rho.upd]; rw [if_neg (by omega), hl], by show (w.heap.push _)[w.heap.size]? = _; simp, by rw [get_new, if_neg (by omega), hm], Nat.le_refl _, fun _ =>
      ⟨ES, by show (w.heap.push _)[lm.b]? = _; rw [Array.getElem?_push, if_neg (by omega)]; exact g1, rfl, rfl⟩⟩
  refine ⟨.pointer (some ⟨w.heap.size, 0, none⟩), _, _, .inl ?_, ptr_new σ _ rfl, key.1, key.2⟩
  simp [execOp, ho, Instr.range, run_under hT, e1, run_getObj_map g1]

/-- A string's bytes, in a new slice. -/
theorem bytes_ok {o : Oper} {x : Operand} {s d e : TypeId} (ho : o.op = .convert s d x) (hS : P.underlying s = some .string) (hD : P.underlying d = some (.slice e)) (hE : P.underlying e = some (.int .u8)) {b : List UInt8} (hx : VR ρ (.str b) (a.eval x)) :
    MkGives P ρ w a o (.cells b.length (b.map fun c => .int .u8 c.toNat) .nil e (b.length + 1) false) (some (b.length, .up 1)) false := by
  simp only [VR] at hx
  obtain ⟨S, e1, rfl⟩ := hx
  have hr := run_bytes_of_string w s d e S hS hD hE
  have hge := grownCap_ge w S.size 0 e
  have hsz : (bytesRow S (grownCap w S.size 0 e)).size = grownCap w S.size 0 e := by
    simp [bytesRow]; have : S.data.size = S.size := rfl; omega
  have hSl : S.data.toList.length = S.size := by rw [Array.length_toList]; rfl
  have key := mk_or (P := P) (ρ := ρ) (w := w) (w' := w.drew.alloc (.cells (bytesRow S (grownCap w S.size 0 e)) e ((bytesRow S (grownCap w S.size 0 e)).size, (bytesRow S (grownCap w S.size 0 e)).size + 1)))
    (C := bytesRow S (grownCap w S.size 0 e)) (e := e) (n := S.data.toList.length) (z := S.data.toList.map fun c => .int .u8 c.toNat) (t := .nil) (fz := S.data.toList.length + 1) (wh := false) rfl (fun hh => by omega) (by rw [hsz, hSl]; exact hge) (fun h => by cases h) (by
      intro i hi
      refine ⟨.int .u8 (S.data.toList[i]).toNat, .int .u8 (S.data.toList[i]).toNat, ?_, rfl, ?_, by simp [VR]⟩
      · rw [cellAt_nil, List.length_map, Nat.mod_eq_of_lt hi, List.getElem?_map, List.getElem?_eq_getElem hi]; rfl
      · have hi' : i < S.data.size := by rw [Array.length_toList] at hi; exact hi
        simp only [bytesRow]
        rw [Array.getElem?_append_left (by simpa using hi')]
        simp only [Array.getElem?_map, Array.getElem?_eq_getElem hi', Array.getElem_toList, Option.map_some])
  refine ⟨.slice (some ⟨w.heap.size, 0, none⟩) S.size (grownCap w S.size 0 e), _, ⟨w.heap.size, 0, _⟩, _, .inl ?_, rfl, rfl, fun ρ2 id hl => ?_, key, rfl, rfl⟩
  · simp [execOp, ho, e1, hr]
  · simp only [mkVal, VR]
    refine ⟨_, _, 0, hl, by rw [hSl], .inl ⟨rfl, by rw [hSl]; exact hge, ?_⟩⟩
    simp only [Nat.zero_add, Nat.mul_one]; rw [hsz]; exact Nat.le_refl _

end Pe

namespace Pe
open Go
variable {P : Program} {ρ : Rho} {fr : Fr} {a : Act} {w : World}

theorem cell?_same {w w' : World} (h : w'.heap = w.heap) (A : Addr) : w'.cell? A = w.cell? A := by simp [World.cell?, h]

theorem lenA_ok {x : AV} {n : Nat} (h : lenA x = some n) {v : Value} (hv : VR ρ x v) : (Builtin.lenOf v).run P w = .ok n w := by
  cases x <;> simp only [lenA, reduceCtorEq, Option.some.injEq] at h <;> subst h <;> simp only [VR] at hv
  · obtain ⟨S, rfl, rfl⟩ := hv
    have : S.size = S.data.toList.length := by rw [Array.length_toList]; rfl
    simp only [Builtin.lenOf, Sem.run_pure, this]
  · obtain ⟨l, c, o', _, rfl, _⟩ := hv; simp [Builtin.lenOf]
  · subst hv; simp [Builtin.lenOf]

theorem elems_ok {σ : AW} (hs : Sim P ρ σ w) {x : AV} {v : Value} (hv : VR ρ x v) {size n m : Nat} (hm : lenA x = some m) (hn : n ≤ m) {cs : List AV} (h : elemsA σ size n x = some cs) {w' : World} (hw : w'.heap = w.heap) :
    ∃ C : Array Value, (Builtin.firstCells size n v).run P w' = .ok C w' ∧ VRs ρ cs C.toList := by
  cases x <;> simp only [elemsA, reduceCtorEq, Option.some.injEq] at h
  · subst h
    simp only [VR] at hv
    obtain ⟨S, rfl, rfl⟩ := hv
    refine ⟨_, by simp only [Builtin.firstCells, Sem.run_pure]; rfl, ?_⟩
    refine VRs_of_get ?_ fun i x v h1 h2 => ?_
    · simp [ByteArray.data_extract]
    · simp only [List.getElem?_map, Array.getElem?_toList, Array.getElem?_map, ByteArray.data_extract, Option.map_eq_some_iff] at h1 h2
      obtain ⟨b, h1, rfl⟩ := h1
      obtain ⟨b', h2, rfl⟩ := h2
      have : b = b' := by
        rw [List.getElem?_take] at h1
        rw [Array.getElem?_extract] at h2
        split at h1
        · split at h2
          · simp only [Nat.zero_add, Array.getElem?_toList] at h1 h2
            rw [h1] at h2; exact Option.some.inj h2
          · cases h2
        · cases h1
      subst this
      simp [VR]
  · simp only [lenA, Option.some.injEq] at hm
    subst hm
    obtain ⟨A, c, rfl, hA, vs, g1, g2, g3⟩ := sl_cells hs hv hn h
    have := run_loadCells_list (P := P) w' A vs (fun j v hj => by rw [cell?_same hw]; exact g3 j v hj)
    rw [g2] at this
    exact ⟨vs.toArray, by simp [Builtin.firstCells, this], by simpa using g1⟩
  · subst h
    simp only [VR] at hv; subst hv
    exact ⟨#[], by simp [Builtin.firstCells], by simp [VRs]⟩

section run

theorem append_in {ts : Array TypeId} {t0 t1 e ty : TypeId} {d1 : TypeDesc} (h0 : ts[0]? = some t0) (h1 : ts[1]? = some t1) (hT : P.underlying t0 = some (.slice e)) (hU : P.underlying t1 = some d1) (hd : d1 = .string ∨ ∃ e', d1 = .slice e') {info : TypeInfo} (hI : P.info? e = some info) {n : Nat} {x : Value} (hn : ∀ w, (Builtin.lenOf x).run P w = .ok n w) {A : Addr} {sLen sCap : Nat} {C : Array Value} {w' : World} (hr : sLen + n ≤ sCap) (hC : (Builtin.firstCells info.size n x).run P w = .ok C w) (hS : (storeCells (A.add (sLen * info.size)) C.toList).run P w = .ok () w') :
    (Builtin.append_ ts ty #[.slice (some A) sLen sCap, x]).run P w = .ok (.slice (some A) (sLen + n) sCap) w' := by
  rcases hd with rfl | ⟨e', rfl⟩ <;> simp [Builtin.append_, h0, h1, run_under hT, run_under hU, Go.sizeOf, typeInfo, hI, hn, hr, hC, hS]

theorem append_nil0 {ts : Array TypeId} {t0 t1 e ty : TypeId} {d1 : TypeDesc} (h0 : ts[0]? = some t0) (h1 : ts[1]? = some t1) (hT : P.underlying t0 = some (.slice e)) (hU : P.underlying t1 = some d1) (hd : d1 = .string ∨ ∃ e', d1 = .slice e') {info : TypeInfo} (hI : P.info? e = some info) {n : Nat} {x : Value} (hn : ∀ w, (Builtin.lenOf x).run P w = .ok n w) {sCap : Nat} {C : Array Value} (hr : n ≤ sCap) (hC : (Builtin.firstCells info.size n x).run P w = .ok C w) :
    (Builtin.append_ ts ty #[.slice none 0 sCap, x]).run P w = .ok (.slice none n sCap) w := by
  rcases hd with rfl | ⟨e', rfl⟩ <;> simp [Builtin.append_, h0, h1, run_under hT, run_under hU, Go.sizeOf, typeInfo, hI, hn, hr, hC]

theorem append_grow {ts : Array TypeId} {t0 t1 e ty : TypeId} {d1 : TypeDesc} (h0 : ts[0]? = some t0) (h1 : ts[1]? = some t1) (hT : P.underlying t0 = some (.slice e)) (hU : P.underlying t1 = some d1) (hd : d1 = .string ∨ ∃ e', d1 = .slice e') {info : TypeInfo} (hI : P.info? e = some info) {n : Nat} {x : Value} (hn : ∀ w, (Builtin.lenOf x).run P w = .ok n w) {base : Option Addr} {sLen sCap : Nat} {O C : Array Value} {zv : Value} (hz : info.zero = some zv) (hr : sCap < sLen + n) (hroom : (sLen + n) * (info.bytes + 1) ≤ roomA)
    (hO : (Builtin.firstCells info.size sLen (.slice base sLen sCap)).run P w.drew = .ok O w.drew) (hC : (Builtin.firstCells info.size n x).run P w.drew = .ok C w.drew) :
    (Builtin.append_ ts ty #[.slice base sLen sCap, x]).run P w = .ok (.slice (some ⟨w.heap.size, 0, none⟩) (sLen + n) (grownCap w (sLen + n) sCap e)) (w.drew.alloc (.cells (O ++ C ++ Builtin.zeroCells zv.cells (grownCap w (sLen + n) sCap e - (sLen + n))) e)) := by
  unfold roomA at hroom
  have e1 : (sLen + n) * (info.bytes + 1) = (sLen + n) * info.bytes + (sLen + n) := by rw [Nat.mul_add, Nat.mul_one]
  have hfit := growslice_fits (need := sLen + n) (old := sCap) (bytes := info.bytes) hr (by omega)
  have n1 : ¬ (9223372036854775807 < ((sLen : Int) + (n : Int))) := by omega
  have n2 : ¬ (281474976710656 < Builtin.nextslicecap (sLen + n) sCap * info.bytes) := by omega
  have n3 : ¬ (sLen + n ≤ sCap) := by omega
  rcases hd with rfl | ⟨e', rfl⟩ <;> simp [Builtin.append_, h0, h1, run_under hT, run_under hU, Go.sizeOf, typeInfo, zeroValue, hI, hz, hn, n1, n2, n3, hO, hC, Question.forced, newRow, grownCap]
end run

end Pe
