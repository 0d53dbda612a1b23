/- Regions whose orders are drawn, first part. -/
import Derived.Test.YtnmfbmfefjcnfaaGreatDoorKe
import Derived.OrdersIn
set_option linter.unusedSectionVars false
namespace Pe
open Go
variable {P : Program} {B : Nat} {ρ ρ' : Rho} {fr : Fr} {a : Act} {w : World} {σ : AW} {o : Oper}

/-- An object that the abstract heap holds already is laid: rho comes to know it. -/
theorem Sim.fill (hs : Sim P ρ σ w) {id : Nat} {o : AO} {l : Loc} (h0 : ρ id = none) (hid : id < σ.next) (hget : σ.heap.get id = some o) (hb : l.b < w.heap.size) (hn : ¬ Owned ρ σ l.b) (ho : OR P (ρ.upd id l) σ l w o) : Sim P (ρ.upd id l) σ w := by
  have hup : ∀ i l', (ρ.upd id l) i = some l' → i ≠ id → ρ i = some l' := by
    intro i l' he hne; simp only [Rho.upd] at he; rwa [if_neg hne] at he
  have hle : ρ.le (ρ.upd id l) := by
    intro i l' hl
    simp only [Rho.upd]
    rw [if_neg, hl]
    rintro rfl; rw [h0] at hl; cases hl
  refine hs.change (fun i => i = id) hle (Nat.le_refl _) (Nat.le_refl _) ?_ ?_ ?_ ?_ ?_
  · intro i l' he hi
    by_cases hne : i = id
    · exact hne
    · rw [hup i l' he hne] at hi; cases hi
  · intro i l' he ht
    have ht' : i = id := ht
    subst ht'
    simp only [Rho.upd, if_true] at he; cases he
    exact ⟨hid, o, hget, fun _ => hb, ho⟩
  · intro i l' he ht
    exact ⟨rfl, fun _ _ _ => rfl⟩
  · intro i l' es v he ht _
    have ht' : i = id := ht
    subst ht'
    rw [h0] at he; cases he
  · intro i i' l1 l2 o1 o2 ht he he' h1 h2 hv hv' hbb
    have ht' : i = id := ht
    subst ht'
    by_cases hne : i' = i
    · exact hne.symm
    · simp only [Rho.upd, if_true] at he; cases he
      have e2 := hup i' l2 he' hne
      exact (hn ⟨i', l2, o2, e2, h2, hv', hbb.symm⟩).elim

/-- A new object that is laid later. -/
theorem Sim.later (hs : Sim P ρ σ w) (o : AO) : Sim P ρ (σ.new o) w := by
  refine hs.change (fun _ => False) (Rho.le.refl ρ) (by simp [AW.new]) (Nat.le_refl _) (fun i l he h0 => (by rw [he] at h0; cases h0)) (fun _ _ _ ht => ht.elim) (fun id l hl _ => ⟨?_, fun _ _ _ => rfl⟩)
    (fun _ _ _ _ _ ht _ => ht.elim) (fun _ _ _ _ _ _ ht => ht.elim)
  rw [get_new, if_neg]
  have := (hs.obj id l hl).1; omega

/-- An object that rho does not know is turned. -/
theorem Sim.unseen (hs : Sim P ρ σ w) {id : Nat} (h0 : ρ id = none) (o : AO) : Sim P ρ (σ.put id o) w := by
  refine hs.change (fun _ => False) (Rho.le.refl ρ) (by simp [AW.put]) (Nat.le_refl _) (fun i l he h0 => (by rw [he] at h0; cases h0)) (fun _ _ _ ht => ht.elim) (fun i l hl _ => ⟨?_, fun _ _ _ => rfl⟩)
    (fun _ _ _ _ _ ht _ => ht.elim) (fun _ _ _ _ _ _ ht => ht.elim)
  rw [get_put, if_neg]
  rintro rfl; rw [h0] at hl; cases hl

/-! ### The run in the text's order, laid out -/
/-- What the operation at k does in the text's run: from (fr, σ) it gives v and leaves σ'. -/
inductive Kind (C : Cfg) (E : Evs) (ops : Array Oper) (o : Oper) (fr : Fr) (σ : AW) : AV → AW → Prop
  | skip : wantedA fr ops o = some false → Kind C E ops o fr σ (.tup []) σ
  | val {v} : wantedA fr ops o = some true → cls C.P fr o = some (.val v) → Kind C E ops o fr σ v σ
  | rd {r v} : wantedA fr ops o = some true → cls C.P fr o = some (.rd r) → rdVal C.P σ r = some v → Kind C E ops o fr σ v σ
  | mk {ob sl mp} : wantedA fr ops o = some true → cls C.P fr o = some (.mk ob sl mp) → Kind C E ops o fr σ (mkVal sl mp σ.next) (σ.new ob)
  | ins {t m k v es ver} : wantedA fr ops o = some true → fills o = some t → cls C.P fr o = some (.eff (.mapPut m k v)) → σ.heap.get m = some (.map es ver) → findK k es = some none → Kind C E ops o fr σ (.tup []) (σ.put m (.map (es ++ [(k, v)]) (ver + 1)))
  | eff {e v σ'} : wantedA fr ops o = some true → fills o = none → cls C.P fr o = some (.eff e) → effRun C.P σ e = some (v, σ') → σ.next ≤ σ'.next → Kind C E ops o fr σ v σ'
  | call {fv xs v σ'} : wantedA fr ops o = some true → cls C.P fr o = some (.call fv xs) → E.call fv xs σ = some [(v, σ')] → σ.next ≤ σ'.next → Kind C E ops o fr σ v σ'


/-- It acts: an effect, or a call. -/
def Acts (C : Cfg) (ops : Array Oper) (o : Oper) (fr : Fr) : Prop :=
  wantedA fr ops o = some true ∧ ((∃ e, fills o = none ∧ cls C.P fr o = some (.eff e)) ∨ ∃ fv xs, cls C.P fr o = some (.call fv xs))

/-- It reads. -/
def Reads (C : Cfg) (ops : Array Oper) (o : Oper) (fr : Fr) (r : Rd) : Prop := wantedA fr ops o = some true ∧ cls C.P fr o = some (.rd r)

/-- It fills a literal's map. -/
def Fills (C : Cfg) (ops : Array Oper) (o : Oper) (fr : Fr) (m : Nat) (k : AV) : Prop := wantedA fr ops o = some true ∧ (∃ t, fills o = some t) ∧ ∃ v, cls C.P fr o = some (.eff (.mapPut m k v))

theorem litOk_spec {m : Nat} {k : AV} {lits : List (Nat × AV)} (h : litOk m k lits = true) : ∀ x ∈ lits, x.1 = m → findK.eqKey k x.2 = some false := by
  intro x hx e
  have := List.all_eq_true.1 h x hx
  rw [e, show m.beq m = true from Nat.beq_refl m] at this
  simp only [Bool.not_true, Bool.false_or] at this
  split at this
  · assumption
  · cases this

theorem readsAs_eq {σ : AW} {r : Rd} {v : AV} (h : readsAs P σ r v = true) : rdVal P σ r = some v := by
  unfold readsAs at h
  split at h
  · rename_i v' hv; rw [hv, same_eq _ _ h]
  · cases h

/-- The run in the text's order, from place i on: the states, the values, and what has been looked at. -/
structure Laid (C : Cfg) (E : Evs) (ops : Array Oper) (b : Array Nat) (base : Nat) (i : Nat) (os : List Oper) (t : TrD) (S : Nat → Fr × AW) (V : Nat → AV) : Prop where
  kind : ∀ k o, os[k]? = some o → Kind C E ops o (S k).1 (S k).2 (V k) (S (k + 1)).2 ∧ (S (k + 1)).1 = (S k).1.put o.dst (V k)
  chain0 : ∀ k o, os[k]? = some o → Acts C ops o (S k).1 → ∀ e ∈ t.effs, (b.getD (i + k) 0).testBit e.1 = true
  chain : ∀ j k oj o, j < k → os[j]? = some oj → os[k]? = some o → Acts C ops oj (S j).1 → Acts C ops o (S k).1 → (b.getD (i + k) 0).testBit (i + j) = true
  early0 : ∀ k o r, os[k]? = some o → Reads C ops o (S k).1 r → ∀ e ∈ t.effs, (b.getD (i + k) 0).testBit e.1 = true ∨ (opsOld base (S k).1 o = true ∧ rdVal C.P e.2 r = some (V k))
  early : ∀ j k oj o r, j < k → os[j]? = some oj → os[k]? = some o → Acts C ops oj (S j).1 → Reads C ops o (S k).1 r → (b.getD (i + k) 0).testBit (i + j) = true ∨ (opsOld base (S k).1 o = true ∧ rdVal C.P (S j).2 r = some (V k))
  late0 : ∀ k, (k = os.length ∨ ∃ o, os[k]? = some o ∧ Acts C ops o (S k).1) → ∀ x ∈ t.reads, (∃ e ∈ t.effs, (b.getD e.1 0).testBit x.1 = true) ∨ (∃ j oj, j < k ∧ os[j]? = some oj ∧ Acts C ops oj (S j).1 ∧ (b.getD (i + j) 0).testBit x.1 = true) ∨ rdVal C.P (S k).2 x.2.1 = some x.2.2
  late : ∀ k, (k = os.length ∨ ∃ o, os[k]? = some o ∧ Acts C ops o (S k).1) → ∀ m om r, m < k → os[m]? = some om → Reads C ops om (S m).1 r → (∃ e ∈ t.effs, (b.getD e.1 0).testBit (i + m) = true) ∨ (∃ j oj, j < k ∧ os[j]? = some oj ∧ Acts C ops oj (S j).1 ∧ (b.getD (i + j) 0).testBit (i + m) = true) ∨ rdVal C.P (S k).2 r = some (V m)
  keys0 : ∀ k o m kk, os[k]? = some o → Fills C ops o (S k).1 m kk → ∀ x ∈ t.lits, x.1 = m → findK.eqKey kk x.2 = some false
  keys : ∀ j k oj o m kj kk, j < k → os[j]? = some oj → os[k]? = some o → Fills C ops oj (S j).1 m kj → Fills C ops o (S k).1 m kk → findK.eqKey kk kj = some false

theorem lateOk_spec {b : Array Nat} {σ : AW} {t : TrD} (h : lateOk P b σ t = true) : ∀ x ∈ t.reads, (∃ e ∈ t.effs, (b.getD e.1 0).testBit x.1 = true) ∨ rdVal P σ x.2.1 = some x.2.2 := by
  intro x hx
  have := List.all_eq_true.1 h x hx
  simp only [Bool.or_eq_true] at this
  rcases this with h1 | h1
  · left
    split at h1
    · cases h1
    · rename_i e _ he
      exact ⟨e, by rw [he]; simp, h1⟩
  · exact .inr (readsAs_eq h1)


def consS {α : Type} (x : α) (f : Nat → α) : Nat → α
  | 0 => x
  | k + 1 => f k

theorem Laid.cons {C : Cfg} {E : Evs} {ops : Array Oper} {b : Array Nat} {base : Nat} {i : Nat} {os : List Oper} {t t' : TrD} {S : Nat → Fr × AW} {V : Nat → AV} (h : Laid C E ops b base (i + 1) os t' S V) {o : Oper} {fr : Fr} {σ : AW} {v : AV}
    (hk : Kind C E ops o fr σ v (S 0).2) (hfr : (S 0).1 = fr.put o.dst v)
    (hA : Acts C ops o fr → (i, σ) ∈ t'.effs ∧ (∀ e ∈ t.effs, (b.getD i 0).testBit e.1 = true) ∧ ∀ x ∈ t.reads, (∃ e ∈ t.effs, (b.getD e.1 0).testBit x.1 = true) ∨ rdVal C.P σ x.2.1 = some x.2.2)
    (hR : ∀ r, Reads C ops o fr r → (i, r, v) ∈ t'.reads ∧ ∀ e ∈ t.effs, (b.getD i 0).testBit e.1 = true ∨ (opsOld base fr o = true ∧ rdVal C.P e.2 r = some v))
    (hK : ∀ m kk, Fills C ops o fr m kk → (m, kk) ∈ t'.lits ∧ ∀ x ∈ t.lits, x.1 = m → findK.eqKey kk x.2 = some false) (hsL : ∀ x ∈ t.lits, x ∈ t'.lits)
    (hsE : ∀ e ∈ t.effs, e ∈ t'.effs) (hsR : ∀ x ∈ t.reads, x ∈ t'.reads) (hiE : ∀ e ∈ t'.effs, e ∈ t.effs ∨ (e = (i, σ) ∧ Acts C ops o fr)) :
    Laid C E ops b base i (o :: os) t (consS (fr, σ) S) (consS v V) := by
  have ix : ∀ k, i + 1 + k = i + (k + 1) := fun k => by omega
  refine ⟨?_, ?_, ?_, ?_, ?_, ?_, ?_, ?_, ?_⟩
  · intro k o' hk'
    cases k with
    | zero => simp only [List.getElem?_cons_zero, Option.some.injEq] at hk'; subst hk'; exact ⟨hk, hfr⟩
    | succ k => exact h.kind k o' (by simpa using hk')
  · intro k o' hk' ha e he
    cases k with
    | zero => simp only [List.getElem?_cons_zero, Option.some.injEq] at hk'; subst hk'; exact (hA ha).2.1 e he
    | succ k => have := h.chain0 k o' (by simpa using hk') ha e (hsE e he); rwa [ix] at this
  · intro j k oj o' hjk hj hk' haj hak
    cases k with
    | zero => omega
    | succ k =>
      cases j with
      | zero =>
        simp only [List.getElem?_cons_zero, Option.some.injEq] at hj; subst hj
        have := h.chain0 k o' (by simpa using hk') hak _ (hA haj).1
        rwa [ix] at this
      | succ j =>
        have := h.chain j k oj o' (by omega) (by simpa using hj) (by simpa using hk') haj hak
        rwa [ix, ix] at this
  · intro k o' r hk' hr e he
    cases k with
    | zero => simp only [List.getElem?_cons_zero, Option.some.injEq] at hk'; subst hk'; exact (hR r hr).2 e he
    | succ k => have := h.early0 k o' r (by simpa using hk') hr e (hsE e he); rwa [ix] at this
  · intro j k oj o' r hjk hj hk' haj hr
    cases k with
    | zero => omega
    | succ k =>
      cases j with
      | zero =>
        simp only [List.getElem?_cons_zero, Option.some.injEq] at hj; subst hj
        have := h.early0 k o' r (by simpa using hk') hr _ (hA haj).1
        rwa [ix] at this
      | succ j =>
        have := h.early j k oj o' r (by omega) (by simpa using hj) (by simpa using hk') haj hr
        rwa [ix, ix] at this
  · intro k hck x hx
    cases k with
    | zero =>
      rcases hck with hck | ⟨o', hk', ha⟩
      · simp at hck
      · simp only [List.getElem?_cons_zero, Option.some.injEq] at hk'; subst hk'
        rcases (hA ha).2.2 x hx with h1 | h1
        · exact .inl h1
        · exact .inr (.inr h1)
    | succ k =>
      have hck' : k = os.length ∨ ∃ o', os[k]? = some o' ∧ Acts C ops o' (S k).1 := by
        rcases hck with hck | ⟨o', hk', ha⟩
        · left; simpa using hck
        · right; exact ⟨o', by simpa using hk', ha⟩
      rcases h.late0 k hck' x (hsR x hx) with ⟨e, he, hb⟩ | ⟨j, oj, hj, hoj, haj, hb⟩ | hv
      · rcases hiE e he with he | ⟨rfl, ha⟩
        · exact .inl ⟨e, he, hb⟩
        · exact .inr (.inl ⟨0, o, by omega, rfl, ha, hb⟩)
      · exact .inr (.inl ⟨j + 1, oj, by omega, by simpa using hoj, haj, by rw [← ix]; exact hb⟩)
      · exact .inr (.inr hv)
  · intro k hck m om r hm hom hr
    cases k with
    | zero => omega
    | succ k =>
      have hck' : k = os.length ∨ ∃ o', os[k]? = some o' ∧ Acts C ops o' (S k).1 := by
        rcases hck with hck | ⟨o', hk', ha⟩
        · left; simpa using hck
        · right; exact ⟨o', by simpa using hk', ha⟩
      cases m with
      | zero =>
        simp only [List.getElem?_cons_zero, Option.some.injEq] at hom; subst hom
        rcases h.late0 k hck' _ (hR r hr).1 with ⟨e, he, hb⟩ | ⟨j, oj, hj, hoj, haj, hb⟩ | hv
        · rcases hiE e he with he | ⟨rfl, ha⟩
          · exact .inl ⟨e, he, hb⟩
          · exact .inr (.inl ⟨0, o, by omega, rfl, ha, hb⟩)
        · exact .inr (.inl ⟨j + 1, oj, by omega, by simpa using hoj, haj, by rw [← ix]; exact hb⟩)
        · exact .inr (.inr hv)
      | succ m =>
        rcases h.late k hck' m om r (by omega) (by simpa using hom) hr with ⟨e, he, hb⟩ | ⟨j, oj, hj, hoj, haj, hb⟩ | hv
        · rw [ix] at hb
          rcases hiE e he with he | ⟨rfl, ha⟩
          · exact .inl ⟨e, he, hb⟩
          · exact .inr (.inl ⟨0, o, by omega, rfl, ha, hb⟩)
        · rw [ix, ix] at hb
          exact .inr (.inl ⟨j + 1, oj, by omega, by simpa using hoj, haj, hb⟩)
        · exact .inr (.inr hv)
  · intro k o' m kk hk' hF x hx
    cases k with
    | zero => simp only [List.getElem?_cons_zero, Option.some.injEq] at hk'; subst hk'; exact (hK m kk hF).2 x hx
    | succ k => exact h.keys0 k o' m kk (by simpa using hk') hF x (hsL x hx)
  · intro j k oj o' m kj kk hjk hj hk' hFj hF
    cases k with
    | zero => omega
    | succ k =>
      cases j with
      | zero =>
        simp only [List.getElem?_cons_zero, Option.some.injEq] at hj; subst hj
        exact h.keys0 k o' m kk (by simpa using hk') hF _ (hK m kj hFj).1 rfl
      | succ j => exact h.keys j k oj o' m kj kk (by omega) (by simpa using hj) (by simpa using hk') hFj hF


theorem laid {C : Cfg} {E : Evs} {ops : Array Oper} {b : Array Nat} {base : Nat} : ∀ (os : List Oper) (i : Nat) (t : TrD) (fr : Fr) (σ : AW) (l : List (Out × Fr × AW)), runOpsD C E ops b base i os t fr σ = some l →
    ∃ S V, S 0 = (fr, σ) ∧ l = [(.norm, (S os.length).1, (S os.length).2)] ∧ Laid C E ops b base i os t S V
  | [], i, t, fr, σ, l, h => by
    simp only [runOpsD] at h
    split at h
    · rename_i hl
      cases h
      refine ⟨fun _ => (fr, σ), fun _ => .top, rfl, rfl, ⟨by simp, by simp, by simp, by simp, by simp, fun k hk x hx => ?_, by simp, by simp, by simp⟩⟩
      rcases lateOk_spec hl x hx with h1 | h1
      · exact .inl h1
      · exact .inr (.inr h1)
    · cases h
  | o :: os, i, t, fr, σ, l, h => by
    have fin : ∀ (t' : TrD) (v : AV) (σ' : AW), runOpsD C E ops b base (i + 1) os t' (fr.put o.dst v) σ' = some l → Kind C E ops o fr σ v σ' →
        (Acts C ops o fr → (i, σ) ∈ t'.effs ∧ (∀ e ∈ t.effs, (b.getD i 0).testBit e.1 = true) ∧ ∀ x ∈ t.reads, (∃ e ∈ t.effs, (b.getD e.1 0).testBit x.1 = true) ∨ rdVal C.P σ x.2.1 = some x.2.2) →
        (∀ r, Reads C ops o fr r → (i, r, v) ∈ t'.reads ∧ ∀ e ∈ t.effs, (b.getD i 0).testBit e.1 = true ∨ (opsOld base fr o = true ∧ rdVal C.P e.2 r = some v)) →
        (∀ m kk, Fills C ops o fr m kk → (m, kk) ∈ t'.lits ∧ ∀ x ∈ t.lits, x.1 = m → findK.eqKey kk x.2 = some false) → (∀ x ∈ t.lits, x ∈ t'.lits) →
        (∀ e ∈ t.effs, e ∈ t'.effs) → (∀ x ∈ t.reads, x ∈ t'.reads) → (∀ e ∈ t'.effs, e ∈ t.effs ∨ (e = (i, σ) ∧ Acts C ops o fr)) →
        ∃ S V, S 0 = (fr, σ) ∧ l = [(.norm, (S (o :: os).length).1, (S (o :: os).length).2)] ∧ Laid C E ops b base i (o :: os) t S V := by
      intro t' v σ' hr hk hA hR hK hL h1 h2 h3
      obtain ⟨S, V, g1, g2, g3⟩ := laid os (i + 1) t' _ σ' l hr
      exact ⟨consS (fr, σ) S, consS v V, rfl, g2, g3.cons (by rw [g1]; exact hk) (by rw [g1]) hA hR hK hL h1 h2 h3⟩
    have same : ∀ (v : AV) (σ' : AW), runOpsD C E ops b base (i + 1) os t (fr.put o.dst v) σ' = some l → Kind C E ops o fr σ v σ' → ¬ Acts C ops o fr → (∀ r, ¬ Reads C ops o fr r) → (∀ m kk, ¬ Fills C ops o fr m kk) → _ := fun v σ' hr hk h1 h2 h4 =>
      fin t v σ' hr hk (fun h => (h1 h).elim) (fun r h => (h2 r h).elim) (fun m kk h => (h4 m kk h).elim) (fun _ h => h) (fun _ h => h) (fun _ h => h) (fun _ h => .inl h)
    simp only [runOpsD] at h
    cases hw : wantedA fr ops o with
    | none => rw [hw] at h; cases h
    | some w0 =>
      rw [hw] at h
      cases w0 with
      | false =>
        refine same _ _ h (.skip hw) (fun hh => ?_) (fun r hh => ?_) (fun m kk hh => ?_)
        rotate_left 2
        · have := hh.1; rw [hw] at this; cases this
        · have := hh.1; rw [hw] at this; cases this
        · have := hh.1; rw [hw] at this; cases this
      | true =>
        simp only at h
        cases hc : cls C.P fr o with
        | none => rw [hc] at h; cases h
        | some act =>
          rw [hc] at h
          have noR : (∀ r, act ≠ .rd r) → ∀ r, ¬ Reads C ops o fr r := fun hh r ⟨_, h2⟩ => by rw [hc] at h2; cases h2; exact hh r rfl
          have noF : (∀ m k v, act = .eff (.mapPut m k v) → fills o = none) → ∀ m kk, ¬ Fills C ops o fr m kk := by
            rintro h1 m kk ⟨_, ⟨t, h2⟩, v, h3⟩
            rw [hc] at h3; cases h3
            rw [h1 _ _ _ rfl] at h2; cases h2
          have noA : (∀ e, act = .eff e → fills o ≠ none) → (∀ fv xs, act ≠ .call fv xs) → ¬ Acts C ops o fr := by
            rintro h1 h2 ⟨_, ⟨e, h3, h4⟩ | ⟨fv, xs, h4⟩⟩
            · rw [hc] at h4; cases h4; exact h1 e rfl h3
            · rw [hc] at h4; cases h4; exact h2 fv xs rfl
          cases act with
          | val v => exact same _ _ h (.val hw hc) (noA (by simp) (by simp)) (noR (by simp)) (noF (by simp))
          | rd r =>
            simp only at h
            split at h
            · rename_i v hv
              split at h
              · rename_i hrd
                refine fin _ _ _ h (.rd hw hc hv) (fun hh => (noA (by simp) (by simp) hh).elim) (fun r' hr' => ?_) (fun m kk hh => (noF (by simp) m kk hh).elim) (fun _ hh => hh) (fun _ hh => hh) (fun _ hh => List.mem_cons_of_mem _ hh) (fun _ hh => .inl hh)
                have := hr'.2; rw [hc] at this; cases this
                refine ⟨by simp, fun e he => ?_⟩
                have := List.all_eq_true.1 hrd e he
                simp only [Bool.or_eq_true, Bool.and_eq_true] at this
                exact this.imp id fun h => ⟨h.1, readsAs_eq h.2⟩
              · cases h
            · cases h
          | mk ob sl mp => exact same _ _ h (.mk hw hc) (noA (by simp) (by simp)) (noR (by simp)) (noF (by simp))
          | eff e =>
            simp only at h
            split at h
            · rename_i m hf
              split at h
              · rename_i mm k v
                split at h
                · rename_i es ver hm
                  split at h
                  · rename_i hk
                    split at h
                    · rename_i hlit
                      refine fin _ _ _ h (.ins hw hf hc hm hk) (fun hh => (noA (fun _ _ => by rw [hf]; simp) (by simp) hh).elim) (fun r hh => (noR (by simp) r hh).elim) (fun m' kk hh => ?_) (fun _ hh => List.mem_cons_of_mem _ hh) (fun _ hh => hh) (fun _ hh => hh) (fun _ hh => .inl hh)
                      obtain ⟨_, _, v', h3⟩ := hh
                      rw [hc] at h3; cases h3
                      exact ⟨by simp, litOk_spec hlit⟩
                    · cases h
                  · cases h
                · cases h
              · cases h
            · rename_i hf
              split at h
              · rename_i v σ' hv
                split at h
                · rename_i hok
                  simp only [effOk, Bool.and_eq_true] at hok
                  exact fin _ _ _ h (.eff hw hf hc hv (Nat.le_of_ble_eq_true hok.2)) (fun _ => ⟨by simp, fun e he => List.all_eq_true.1 hok.1.1 e he, lateOk_spec hok.1.2⟩) (fun r hh => (noR (by simp) r hh).elim) (fun m kk hh => (noF (fun _ _ _ _ => hf) m kk hh).elim) (fun _ hh => hh) (fun _ hh => List.mem_cons_of_mem _ hh) (fun _ hh => hh) (fun e he => by
                    rcases List.mem_cons.1 he with rfl | he
                    · exact .inr ⟨rfl, hw, .inl ⟨_, hf, hc⟩⟩
                    · exact .inl he)
                · cases h
              · cases h
          | call fv xs =>
            simp only at h
            split at h
            · rename_i hok
              split at h
              · rename_i v σ' hv
                split at h
                rotate_left
                · cases h
                rename_i hnx
                simp only [effOk, Bool.and_eq_true] at hok
                exact fin _ _ _ h (.call hw hc hv (Nat.le_of_ble_eq_true hnx)) (fun _ => ⟨by simp, fun e he => List.all_eq_true.1 hok.1 e he, lateOk_spec hok.2⟩) (fun r hh => (noR (by simp) r hh).elim) (fun m kk hh => (noF (by simp) m kk hh).elim) (fun _ hh => hh) (fun _ hh => List.mem_cons_of_mem _ hh) (fun _ hh => hh) (fun e he => by
                  rcases List.mem_cons.1 he with rfl | he
                  · exact .inr ⟨rfl, hw, .inr ⟨_, _, hc⟩⟩
                  · exact .inl he)
              · cases h
            · cases h
          | pan v => cases h
          | dfr d => cases h
          | rcv => cases h
          | nextM it => cases h
          | rngM m => cases h

end Pe

namespace Pe
open Go

/-! ### What comes before what -/
theorem befPush {α β : Type} (f : Array β → α → β) : ∀ (l : List α) (A : Array β), (∀ j, j < A.size → (l.foldl (fun acc o => acc.push (f acc o)) A)[j]? = A[j]?) ∧
    ∀ i o, l[i]? = some o → ∃ acc : Array β, acc.size = A.size + i ∧ (∀ j, j < acc.size → acc[j]? = (l.foldl (fun acc o => acc.push (f acc o)) A)[j]?) ∧ (l.foldl (fun acc o => acc.push (f acc o)) A)[A.size + i]? = some (f acc o)
  | [], A => ⟨fun _ _ => rfl, fun i o h => by simp at h⟩
  | x :: l, A => by
    obtain ⟨h1, h2⟩ := befPush f l (A.push (f A x))
    simp only [List.foldl_cons]
    have h1' : ∀ j, j < A.size → (l.foldl (fun acc o => acc.push (f acc o)) (A.push (f A x)))[j]? = A[j]? := fun j hj => by
      rw [h1 j (by simp; omega), Array.getElem?_push, if_neg (by omega)]
    refine ⟨h1', fun i o h => ?_⟩
    cases i with
    | zero =>
      simp only [List.getElem?_cons_zero, Option.some.injEq] at h; subst h
      refine ⟨A, rfl, fun j hj => (h1' j hj).symm, ?_⟩
      rw [Nat.add_zero, h1 _ (by simp), Array.getElem?_push, if_pos rfl]
    | succ i =>
      obtain ⟨acc, g1, g2, g3⟩ := h2 i o (by simpa using h)
      refine ⟨acc, by rw [g1]; simp; omega, g2, ?_⟩
      have : A.size + (i + 1) = (A.push (f A x)).size + i := by simp; omega
      rw [this]; exact g3

def bef (ops : Array Oper) (k j : Nat) : Prop := ((Region.before ops).getD k 0).testBit j = true

theorem testBit_one (g : Nat → Nat) (j : Nat) : ∀ (l : List Edge) (s : Nat), (l.foldl (fun s e => if Region.binds .any e then s ||| 2 ^ e.on ||| g e.on else s) s).testBit j = true ↔
    s.testBit j = true ∨ ∃ e ∈ l, Region.binds .any e = true ∧ (j = e.on ∨ (g e.on).testBit j = true)
  | [], s => by simp
  | e :: l, s => by
    rw [List.foldl_cons, testBit_one g j l]
    by_cases h : Region.binds .any e = true
    · rw [if_pos h]
      simp only [Nat.testBit_or, Bool.or_eq_true, Nat.testBit_two_pow, decide_eq_true_eq, List.mem_cons, exists_eq_or_imp]
      constructor
      · rintro (((h1 | h1) | h1) | h1)
        · exact .inl h1
        · exact .inr (.inl ⟨h, .inl h1.symm⟩)
        · exact .inr (.inl ⟨h, .inr h1⟩)
        · exact .inr (.inr h1)
      · rintro (h1 | ⟨_, h1 | h1⟩ | h1)
        · exact .inl (.inl (.inl h1))
        · exact .inl (.inl (.inr h1.symm))
        · exact .inl (.inr h1)
        · exact .inr h1
    · rw [if_neg h]
      simp [h]

/-- Every edge that binds leads back. -/
def Back (ops : Array Oper) : Prop := ∀ k o, ops[k]? = some o → ∀ e ∈ o.after.toList, Region.binds .any e = true → e.on < k

theorem bef_iff {ops : Array Oper} (hb : Back ops) {k j : Nat} {o : Oper} (hk : ops[k]? = some o) : bef ops k j ↔ ∃ e ∈ o.after.toList, Region.binds .any e = true ∧ (j = e.on ∨ bef ops e.on j) := by
  have key := (befPush (fun (acc : Array Nat) (o : Oper) => o.after.foldl (fun s e => if Region.binds .any e then s ||| 2 ^ e.on ||| acc.getD e.on 0 else s) 0) ops.toList #[]).2 k o (by simpa using hk)
  obtain ⟨acc, g1, g2, g3⟩ := key
  have hR : Region.before ops = ops.toList.foldl (fun (acc : Array Nat) o => acc.push (o.after.foldl (fun s e => if Region.binds .any e then s ||| 2 ^ e.on ||| acc.getD e.on 0 else s) 0)) #[] := by
    unfold Region.before; rw [← Array.foldl_toList]
  rw [← hR] at g2 g3
  simp only [Array.size_empty, Nat.zero_add] at g1 g3
  unfold bef
  rw [Array.getD_eq_getD_getElem?, g3, Option.getD_some, ← Array.foldl_toList, testBit_one (fun i => acc.getD i 0)]
  simp only [Nat.zero_testBit, Bool.false_eq_true, false_or]
  constructor
  · rintro ⟨e, he, hbi, h⟩
    refine ⟨e, he, hbi, h.imp id fun h => ?_⟩
    have hlt := hb k o hk e he hbi
    rw [Array.getD_eq_getD_getElem?, ← g2 _ (by omega), ← Array.getD_eq_getD_getElem?]; exact h
  · rintro ⟨e, he, hbi, h⟩
    refine ⟨e, he, hbi, h.imp id fun h => ?_⟩
    have hlt := hb k o hk e he hbi
    rw [Array.getD_eq_getD_getElem?, ← g2 _ (by omega), ← Array.getD_eq_getD_getElem?] at h; exact h

theorem bef_op {ops : Array Oper} {k j : Nat} (h : bef ops k j) : ∃ o, ops[k]? = some o := by
  cases hk : ops[k]? with
  | some o => exact ⟨o, rfl⟩
  | none =>
    unfold bef at h
    have hsz : (Region.before ops).size = ops.size := by
      unfold Region.before
      rw [← Array.foldl_toList]
      have : ∀ (l : List Oper) (A : Array Nat), (l.foldl (fun acc o => acc.push (o.after.foldl (fun s e => if Region.binds .any e then s ||| 2 ^ e.on ||| acc.getD e.on 0 else s) 0)) A).size = A.size + l.length := by
        intro l
        induction l with
        | nil => intro A; rfl
        | cons x l ih => intro A; rw [List.foldl_cons, ih]; simp; omega
      rw [this]; simp
    have : (Region.before ops)[k]? = none := by
      rw [Array.getElem?_eq_none_iff] at hk ⊢; omega
    rw [Array.getD_eq_getD_getElem?, this] at h
    simp at h

theorem bef_lt {ops : Array Oper} (hb : Back ops) : ∀ (k : Nat) {j : Nat}, bef ops k j → j < k := by
  intro k
  induction k using Nat.strongRecOn with
  | _ k ih =>
    intro j h
    obtain ⟨o, ho⟩ := bef_op h
    obtain ⟨e, he, hbi, h1 | h1⟩ := (bef_iff hb ho).1 h
    · rw [h1]; exact hb k o ho e he hbi
    · have := hb k o ho e he hbi
      exact Nat.lt_trans (ih _ this h1) this

theorem bef_trans {ops : Array Oper} (hb : Back ops) : ∀ (k : Nat) {j i : Nat}, bef ops k j → bef ops j i → bef ops k i := by
  intro k
  induction k using Nat.strongRecOn with
  | _ k ih =>
    intro j i h h'
    obtain ⟨o, ho⟩ := bef_op h
    obtain ⟨e, he, hbi, h1 | h1⟩ := (bef_iff hb ho).1 h
    · subst h1; exact (bef_iff hb ho).2 ⟨e, he, hbi, .inr h'⟩
    · exact (bef_iff hb ho).2 ⟨e, he, hbi, .inr (ih _ (hb k o ho e he hbi) h1 h')⟩

/-- Whatever comes before one that is listed is listed. -/
def Down (ops : Array Oper) (T : Nat → Prop) : Prop := ∀ k j, T k → bef ops k j → T j

theorem bef_listed {ops : Array Oper} (hb : Back ops) {T : Nat → Prop} (hd : Down ops T) {k : Nat} {o : Oper} (hk : ops[k]? = some o) (hr : ∀ e ∈ o.after.toList, Region.binds .any e = true → T e.on) {j : Nat} (h : bef ops k j) : T j := by
  obtain ⟨e, he, hbi, h1 | h1⟩ := (bef_iff hb hk).1 h
  · rw [h1]; exact hr e he hbi
  · exact hd _ _ (hr e he hbi) h1

/-! ### What drawOk says -/
structure DrawFacts (ops : Array Oper) : Prop where
  back : Back ops
  guard : ∀ (k : Nat) o j c, ops[k]? = some o → o.guard = some (j, c) → bef ops k j ∧ ∃ oj d, ops[j]? = some oj ∧ oj.dst = some d
  use : ∀ (j : Nat) o t (i : Nat) o', ops[j]? = some o → t ∈ namesOf o ++ guardTmp ops o → ops[i]? = some o' → o'.dst = some t → i = j ∨ (i < j ∧ bef ops j i) ∨ (j < i ∧ bef ops i j)
  fillFrom : ∀ (i : Nat) o m, ops[i]? = some o → fills o = some m → ∃ (k : Nat) (o' : Oper), k < i ∧ ops[k]? = some o' ∧ makesMap o' = true ∧ o'.dst = some m
  fillBy : ∀ (i : Nat) o m (k : Nat) o', ops[i]? = some o → fills o = some m → ops[k]? = some o' → o'.dst = some m → makesMap o' = true
  fillSee : ∀ (i : Nat) o m (j : Nat) o', ops[i]? = some o → fills o = some m → ops[j]? = some o' → m ∈ seesOf o' → bef ops j i

theorem zipIdx_mem {ops : Array Oper} {k : Nat} {o : Oper} (h : ops[k]? = some o) : (o, k) ∈ ops.toList.zipIdx := by
  rw [List.mem_zipIdx_iff_getElem?]; simpa using h
theorem mem_zipIdx {ops : Array Oper} {k : Nat} {o : Oper} (h : (o, k) ∈ ops.toList.zipIdx) : ops[k]? = some o := by
  rw [List.mem_zipIdx_iff_getElem?] at h; simpa using h

theorem drawOk_facts {ops : Array Oper} (h : drawOk ops = true) : DrawFacts ops := by
  unfold drawOk at h
  simp only [Bool.and_eq_true] at h
  obtain ⟨⟨h1, h2⟩, h3⟩ := h
  rw [List.all_eq_true] at h1 h2 h3
  refine ⟨?_, ?_, ?_, ?_, ?_, ?_⟩
  · intro k o hk e he hb
    have := h1 _ (zipIdx_mem hk)
    simp only [Bool.and_eq_true, List.all_eq_true] at this
    have := this.1 e he
    simp only [hb, Bool.not_true, Bool.false_or] at this
    exact Nat.le_of_ble_eq_true this
  · intro k o j c hk hg
    have := h1 _ (zipIdx_mem hk)
    simp only [Bool.and_eq_true, hg] at this
    refine ⟨this.2.1, ?_⟩
    have h4 := this.2.2
    cases hj : ops[j]? with
    | none => rw [hj] at h4; cases h4
    | some oj =>
      rw [hj] at h4
      simp only [Option.bind_some, Option.isSome_iff_exists] at h4
      obtain ⟨d, hd⟩ := h4
      exact ⟨oj, d, rfl, hd⟩
  · intro j o t i o' hj ht hi hd
    have h4 := h2 _ (zipIdx_mem hj)
    simp only at h4
    rw [List.all_eq_true] at h4
    have h5 := h4 t ht
    rw [List.all_eq_true] at h5
    have h6 := h5 _ (zipIdx_mem hi)
    simp only [hd, Bool.or_eq_true] at h6
    rcases h6 with (h6 | h6) | h6
    · simp at h6
    · left; exact Nat.eq_of_beq_eq_true h6
    · right
      by_cases hij : i < j
      · rw [if_pos hij, if_pos hij] at h6; exact .inl ⟨hij, h6⟩
      · rw [if_neg hij, if_neg hij] at h6
        rcases Nat.lt_or_ge j i with hji | hji
        · exact .inr ⟨hji, h6⟩
        · have : i = j := by omega
          subst this
          exact absurd (bef_lt (ops := ops) (by
            intro k o hk e he hb
            have := h1 _ (zipIdx_mem hk)
            simp only [Bool.and_eq_true, List.all_eq_true] at this
            have := this.1 e he
            simp only [hb, Bool.not_true, Bool.false_or] at this
            exact Nat.le_of_ble_eq_true this) i h6) (by omega)
  · intro i o m hi hf
    have h4 := h3 _ (zipIdx_mem hi)
    simp only [hf, Bool.and_eq_true, List.any_eq_true, List.all_eq_true] at h4
    obtain ⟨⟨o', k⟩, hmem, h5⟩ := h4.1.1
    simp only at h5
    have hk := mem_zipIdx hmem
    refine ⟨k, o', Nat.le_of_ble_eq_true h5.1.1, hk, h5.1.2, ?_⟩
    have h6 := h5.2
    cases hd : o'.dst with
    | none => rw [hd] at h6; cases h6
    | some d => rw [hd] at h6; rw [Nat.eq_of_beq_eq_true h6]
  · intro i o m k o' hi hf hk hd
    have h4 := h3 _ (zipIdx_mem hi)
    simp only [hf, Bool.and_eq_true, List.all_eq_true] at h4
    have := h4.1.2 _ (zipIdx_mem hk)
    simpa [hd] using this
  · intro i o m j o' hi hf hj hs
    have h4 := h3 _ (zipIdx_mem hi)
    simp only [hf, Bool.and_eq_true, List.all_eq_true] at h4
    have := h4.2 _ (zipIdx_mem hj)
    simp only [Bool.or_eq_true, Bool.not_eq_true'] at this
    rcases this with h5 | h5
    · rw [List.any_eq_false] at h5
      exact absurd (Nat.beq_refl m) (by simpa using h5 m hs)
    · exact h5

end Pe

namespace Pe
open Go

/-- A region's run in the order of its text. -/
structure Run (C : Cfg) (E : Evs) (ops : Array Oper) (S : Nat → Fr × AW) (V : Nat → AV) : Prop where
  laid : Laid C E ops (Region.before ops) (S 0).2.next 0 ops.toList ⟨[], [], []⟩ S V
  facts : DrawFacts ops

section
variable {C : Cfg} {E : Evs} {ops : Array Oper} {S : Nat → Fr × AW} {V : Nat → AV}

def ActAt (C : Cfg) (ops : Array Oper) (S : Nat → Fr × AW) (k : Nat) : Prop := ∃ o, ops[k]? = some o ∧ Acts C ops o (S k).1
def MkAt (C : Cfg) (ops : Array Oper) (S : Nat → Fr × AW) (k : Nat) (ob : AO) (sl : Option (Nat × Cap)) (mp : Bool) : Prop := ∃ o, ops[k]? = some o ∧ wantedA (S k).1 ops o = some true ∧ cls C.P (S k).1 o = some (.mk ob sl mp)
def MkJ (C : Cfg) (ops : Array Oper) (S : Nat → Fr × AW) (k : Nat) : Prop := ∃ ob sl mp, MkAt C ops S k ob sl mp
def idOf (S : Nat → Fr × AW) (k : Nat) : Nat := (S k).2.next
/-- The entry that the operation at u lays into the map that the one at j has made. -/
noncomputable def kvAt (C : Cfg) (ops : Array Oper) (S : Nat → Fr × AW) (j u : Nat) : Option (AV × AV) :=
  match ops[u]? with
  | none => none
  | some o => match wantedA (S u).1 ops o, fills o, cls C.P (S u).1 o with
    | some true, some _, some (.eff (.mapPut m k v)) => if m = idOf S j then some (k, v) else none
    | _, _, _ => none
def writes (ops : Array Oper) (j : Nat) (t : Tmp) : Prop := ∃ o, ops[j]? = some o ∧ o.dst = some t
/-- What must be done before an object is whole. -/
def Us (C : Cfg) (ops : Array Oper) (S : Nat → Fr × AW) (j u : Nat) : Prop := u = j ∨ ∃ kv, kvAt C ops S j u = some kv

theorem Run.kind (R : Run C E ops S V) {k : Nat} {o : Oper} (h : ops[k]? = some o) : Kind C E ops o (S k).1 (S k).2 (V k) (S (k + 1)).2 ∧ (S (k + 1)).1 = (S k).1.put o.dst (V k) :=
  R.laid.kind k o (by simpa using h)

theorem Run.chain (R : Run C E ops S V) {j k : Nat} (hjk : j < k) (hj : ActAt C ops S j) (hk : ActAt C ops S k) : bef ops k j := by
  obtain ⟨oj, h1, h2⟩ := hj
  obtain ⟨o, h3, h4⟩ := hk
  have := R.laid.chain j k oj o hjk (by simpa using h1) (by simpa using h3) h2 h4
  simpa [bef] using this

theorem Run.early (R : Run C E ops S V) {j k : Nat} {o : Oper} {r : Rd} (hjk : j < k) (hj : ActAt C ops S j) (hk : ops[k]? = some o) (hr : Reads C ops o (S k).1 r) : bef ops k j ∨ (opsOld (S 0).2.next (S k).1 o = true ∧ rdVal C.P (S j).2 r = some (V k)) := by
  obtain ⟨oj, h1, h2⟩ := hj
  have := R.laid.early j k oj o r hjk (by simpa using h1) (by simpa using hk) h2 hr
  simpa [bef] using this

theorem Run.late (R : Run C E ops S V) {m k : Nat} {om : Oper} {r : Rd} (hk : k = ops.size ∨ ActAt C ops S k) (hm : m < k) (ho : ops[m]? = some om) (hr : Reads C ops om (S m).1 r) : (∃ j, j < k ∧ ActAt C ops S j ∧ bef ops j m) ∨ rdVal C.P (S k).2 r = some (V m) := by
  have hk' : k = ops.toList.length ∨ ∃ o, ops.toList[k]? = some o ∧ Acts C ops o (S k).1 := by
    rcases hk with h | ⟨o, h1, h2⟩
    · left; simpa using h
    · right; exact ⟨o, by simpa using h1, h2⟩
  rcases R.laid.late k hk' m om r hm (by simpa using ho) hr with ⟨e, he, _⟩ | ⟨j, oj, h1, h2, h3, h4⟩ | h
  · cases he
  · exact .inl ⟨j, h1, ⟨oj, by simpa using h2, h3⟩, by simpa [bef] using h4⟩
  · exact .inr h

theorem op_lt {k : Nat} {o : Oper} (h : ops[k]? = some o) : k < ops.size := (Array.getElem?_eq_some_iff.1 h).1
theorem lt_op {k : Nat} (h : k < ops.size) : ∃ o, ops[k]? = some o := ⟨ops[k], by simp [h]⟩

theorem Kind.next {o : Oper} {fr : Fr} {σ σ' : AW} {v : AV} (h : Kind C E ops o fr σ v σ') : σ.next ≤ σ'.next := by
  cases h <;> first | exact Nat.le_refl _ | (simp [AW.new]; done) | (simp [AW.put]; done) | assumption

theorem Run.mono (R : Run C E ops S V) {i : Nat} : ∀ {k : Nat}, i ≤ k → k ≤ ops.size → (S i).2.next ≤ (S k).2.next
  | 0, h, _ => by obtain rfl : i = 0 := by omega
                  exact Nat.le_refl _
  | k + 1, h, hk => by
    by_cases hik : i = k + 1
    · subst hik; exact Nat.le_refl _
    · obtain ⟨o, ho⟩ := lt_op (ops := ops) (k := k) (by omega)
      exact Nat.le_trans (R.mono (by omega) (by omega)) (R.kind ho).1.next

theorem Run.mk_kind (R : Run C E ops S V) {k : Nat} {ob : AO} {sl : Option (Nat × Cap)} {mp : Bool} (h : MkAt C ops S k ob sl mp) : V k = mkVal sl mp (idOf S k) ∧ (S (k + 1)).2 = (S k).2.new ob ∧ k < ops.size := by
  obtain ⟨o, h1, h2, h3⟩ := h
  have := (R.kind h1).1
  refine ⟨?_, ?_, op_lt h1⟩ <;>
  · generalize (S (k + 1)).2 = σ' at this
    generalize V k = v at this
    cases this <;> simp_all [idOf]

theorem Run.id_lt (R : Run C E ops S V) {j k : Nat} (h : MkJ C ops S j) (hjk : j < k) (hk : k ≤ ops.size) : idOf S j < (S k).2.next := by
  obtain ⟨ob, sl, mp, h⟩ := h
  obtain ⟨_, h2, _⟩ := R.mk_kind h
  have := R.mono (i := j + 1) (k := k) (by omega) hk
  rw [h2] at this
  simp only [AW.new] at this
  simp only [idOf]; omega

theorem Run.id_ge (R : Run C E ops S V) {j k : Nat} (h : MkJ C ops S j) (hjk : k ≤ j) : (S k).2.next ≤ idOf S j := by
  obtain ⟨ob, sl, mp, h⟩ := h
  exact R.mono hjk (by have := (R.mk_kind h).2.2; omega)

theorem Run.id_inj (R : Run C E ops S V) {j k : Nat} (hj : MkJ C ops S j) (hk : MkJ C ops S k) (h : idOf S j = idOf S k) : j = k := by
  have lt : ∀ {j : Nat}, MkJ C ops S j → j < ops.size := fun ⟨_, _, _, h⟩ => (R.mk_kind h).2.2
  rcases Nat.lt_trichotomy j k with h1 | h1 | h1
  · have := R.id_lt hj h1 (Nat.le_of_lt (lt hk)); simp only [idOf] at h this ⊢; omega
  · exact h1
  · have := R.id_lt hk h1 (Nat.le_of_lt (lt hj)); simp only [idOf] at h this ⊢; omega

/-! ### Temporaries -/
theorem put_get (fr : Fr) (dst : Option Tmp) (v : AV) (t : Tmp) : (fr.put dst v).get t = if dst = some t then v else fr.get t := by
  cases dst with
  | none => simp [Fr.put]
  | some d =>
    simp only [Fr.put]; rw [get_set]
    by_cases h : t = d
    · rw [if_pos h, if_pos (by rw [h])]
    · rw [if_neg h, if_neg (by intro e; cases e; exact h rfl)]

theorem Run.keep (R : Run C E ops S V) {i : Nat} {t : Tmp} : ∀ {k : Nat}, i ≤ k → k ≤ ops.size → (∀ j, i ≤ j → j < k → ¬ writes ops j t) → (S k).1.get t = (S i).1.get t
  | 0, h, _, _ => by obtain rfl : i = 0 := by omega
                     rfl
  | k + 1, h, hk, hw => by
    by_cases hik : i = k + 1
    · subst hik; rfl
    · obtain ⟨o, ho⟩ := lt_op (ops := ops) (k := k) (by omega)
      rw [(R.kind ho).2, put_get, if_neg (fun hd => hw k (by omega) (by omega) ⟨o, ho, hd⟩)]
      exact R.keep (by omega) (by omega) (fun j h1 h2 => hw j h1 (by omega))

theorem Run.last (R : Run C E ops S V) {j k : Nat} {t : Tmp} (hj : writes ops j t) (hjk : j < k) (hk : k ≤ ops.size) (hw : ∀ m, j < m → m < k → ¬ writes ops m t) : (S k).1.get t = V j := by
  obtain ⟨o, ho, hd⟩ := hj
  rw [R.keep (i := j + 1) (k := k) (by omega) hk (fun m h1 h2 => hw m (by omega) h2), (R.kind ho).2, put_get, if_pos hd]

theorem Run.nt (R : Run C E ops S V) : ∀ {k : Nat}, k ≤ ops.size → (S k).1.nt = (S 0).1.nt ∧ (S k).1.defers = (S 0).1.defers ∧ (S k).1.rnd = (S 0).1.rnd
  | 0, _ => ⟨rfl, rfl, rfl⟩
  | k + 1, h => by
    obtain ⟨o, ho⟩ := lt_op (ops := ops) (k := k) (by omega)
    have ih := R.nt (k := k) (by omega)
    rw [(R.kind ho).2]
    cases o.dst <;> exact ih

/-- The last writer of a temporary before a place. -/
theorem last_writer {t : Tmp} : ∀ {k j0 : Nat}, j0 < k → writes ops j0 t → ∃ j, j < k ∧ writes ops j t ∧ ∀ m, j < m → m < k → ¬ writes ops m t
  | 0, j0, h, _ => by omega
  | k + 1, j0, h, hw => by
    by_cases hk : writes ops k t
    · exact ⟨k, by omega, hk, fun m h1 h2 => by omega⟩
    · have : j0 ≠ k := by rintro rfl; exact hk hw
      obtain ⟨j, h1, h2, h3⟩ := last_writer (k := k) (j0 := j0) (by omega) hw
      refine ⟨j, by omega, h2, fun m h4 h5 => ?_⟩
      by_cases hm : m = k
      · subst hm; exact hk
      · exact h3 m h4 (by omega)

theorem fills_op {o : Oper} {t : Tmp} (h : fills o = some t) : ∃ ty k v, o.op = .insert ty (.tmp t) k v := by
  unfold fills at h
  split at h
  · rename_i ty t' k v hop; cases h; exact ⟨ty, k, v, hop⟩
  · cases h

theorem makesMap_op {o : Oper} (h : makesMap o = true) : ∃ ty, o.op = .makeMap ty none ∧ o.guard = none := by
  unfold makesMap at h
  split at h
  · rename_i ty hop; exact ⟨ty, hop, by simpa using h⟩
  · cases h

theorem insert_cls {fr : Fr} {o : Oper} {ty : TypeId} {x k v : Operand} {m : Nat} {kk vv : AV} (ho : o.op = .insert ty x k v) (h : cls C.P fr o = some (.eff (.mapPut m kk vv))) :
    fr.eval x = some (.map m) ∧ fr.eval k = some kk ∧ fr.eval v = some vv ∧ ∃ kt et, C.P.underlying ty = some (.map kt et) ∧ keyFits C.P kt kk = true := by
  unfold cls at h
  simp only [ho] at h
  split at h
  · rename_i kt et id k' v' h1 h2 h3 h4
    split at h
    · rename_i hk
      cases h
      exact ⟨h2, h3, h4, kt, et, h1, hk⟩
    · cases h
  · cases h

/-- An insert's map is one that an operation before it has made. -/
theorem Run.ins (R : Run C E ops S V) {u m : Nat} {o : Oper} {t : Tmp} {kk vv : AV} (ho : ops[u]? = some o) (hf : fills o = some t) (hc : cls C.P (S u).1 o = some (.eff (.mapPut m kk vv))) :
    ∃ j, j < u ∧ bef ops u j ∧ writes ops j t ∧ (∀ x, j < x → x < u → ¬ writes ops x t) ∧ MkAt C ops S j (.map [] 0) none true ∧ m = idOf S j := by
  obtain ⟨k0, o0, h1, h2, _, h4⟩ := R.facts.fillFrom u o t ho hf
  obtain ⟨j, g1, g2, g3⟩ := last_writer (ops := ops) (t := t) h1 ⟨o0, h2, h4⟩
  obtain ⟨oj, g4, g5⟩ := g2
  have hm := R.facts.fillBy u o t j oj ho hf g4 g5
  obtain ⟨ty, k, v, hop⟩ := fills_op hf
  have hnames : t ∈ namesOf o ++ guardTmp ops o := by
    simp [namesOf, hop, Op.operands]
  have hmk : MkAt C ops S j (.map [] 0) none true := by
    obtain ⟨ty', e1, e2⟩ := makesMap_op hm
    have hcl : cls C.P (S j).1 oj = some (.mk (.map [] 0) none true) := by simp [cls, e1]
    refine ⟨oj, g4, ?_, hcl⟩
    have := (R.kind g4).1
    generalize (S (j + 1)).2 = σ' at this
    generalize V j = v0 at this
    cases this <;> first | assumption | (rename_i hw; simp only [wantedA, e2] at hw; split at hw <;> simp at hw)
  refine ⟨j, g1, ?_, ⟨oj, g4, g5⟩, g3, hmk, ?_⟩
  · rcases R.facts.use u o t j oj ho hnames g4 g5 with h | h | h
    · omega
    · exact h.2
    · omega
  · have hv := R.last ⟨oj, g4, g5⟩ g1 (Nat.le_of_lt (op_lt ho)) g3
    have := (insert_cls hop hc).1
    simp only [Fr.eval, Option.some.injEq] at this
    rw [hv, (R.mk_kind hmk).1] at this
    simp only [mkVal, if_true, AV.map.injEq] at this
    exact this.symm

theorem kvAt_some {j u : Nat} {kv : AV × AV} (h : kvAt C ops S j u = some kv) : ∃ o t, ops[u]? = some o ∧ wantedA (S u).1 ops o = some true ∧ fills o = some t ∧ cls C.P (S u).1 o = some (.eff (.mapPut (idOf S j) kv.1 kv.2)) := by
  unfold kvAt at h
  split at h
  · cases h
  · rename_i o ho
    split at h
    · rename_i t m k v h1 h2 h3
      split at h
      · rename_i hm
        cases h
        subst hm
        exact ⟨o, t, ho, h1, h2, h3⟩
      · cases h
    · cases h

theorem kvAt_of {j u m : Nat} {o : Oper} {t : Tmp} {k v : AV} (ho : ops[u]? = some o) (hw : wantedA (S u).1 ops o = some true) (hf : fills o = some t) (hc : cls C.P (S u).1 o = some (.eff (.mapPut m k v))) : kvAt C ops S j u = if m = idOf S j then some (k, v) else none := by
  simp [kvAt, ho, hw, hf, hc]

/-- Who fills an object that is made at j comes behind j, and writes into its temporary. -/
theorem Run.fill (R : Run C E ops S V) {j u : Nat} {kv : AV × AV} (hj : MkJ C ops S j) (h : kvAt C ops S j u = some kv) : j < u ∧ bef ops u j ∧ ∃ o t, ops[u]? = some o ∧ fills o = some t ∧ writes ops j t ∧ MkAt C ops S j (.map [] 0) none true := by
  obtain ⟨o, t, h1, h2, h3, h4⟩ := kvAt_some h
  obtain ⟨j', g1, g2, g3, g4, g5, g6⟩ := R.ins h1 h3 h4
  have : j = j' := R.id_inj hj ⟨_, _, _, g5⟩ g6
  subst this
  exact ⟨g1, g2, o, t, h1, h3, g3, g5⟩

theorem Run.us_lt (R : Run C E ops S V) {j u : Nat} (hj : MkJ C ops S j) (h : Us C ops S j u) : u < ops.size := by
  rcases h with rfl | ⟨kv, h⟩
  · obtain ⟨_, _, _, h⟩ := hj; exact (R.mk_kind h).2.2
  · obtain ⟨o, t, h1, _⟩ := kvAt_some h; exact op_lt h1

noncomputable def only {α : Type} (p : Prop) (x : Option α) : Option α := @ite _ p (Classical.propDecidable p) x none
theorem only_pos {α : Type} {p : Prop} {x : Option α} (h : p) : only p x = x := by unfold only; rw [if_pos h]
theorem only_neg {α : Type} {p : Prop} {x : Option α} (h : ¬ p) : only p x = none := by unfold only; rw [if_neg h]

/-- The entries of a map, by a set of operations. -/
noncomputable def ents (C : Cfg) (ops : Array Oper) (S : Nat → Fr × AW) (j : Nat) (T : Nat → Prop) (k : Nat) : List (AV × AV) :=
  (List.range k).filterMap fun u => only (T u) (kvAt C ops S j u)

def withEnts : AO → List (AV × AV) → Nat → AO
  | .map es _, es', v => .map (es ++ es') v
  | o, _, _ => o

theorem filterMap_same {α β : Type} {f g : α → Option β} : ∀ {l : List α}, (∀ x ∈ l, f x = g x) → l.filterMap f = l.filterMap g
  | [], _ => rfl
  | x :: l, h => by
    rw [List.filterMap_cons, List.filterMap_cons, h x (by simp), filterMap_same (l := l) (fun y hy => h y (by simp [hy]))]

theorem ents_congr {j : Nat} {T T' : Nat → Prop} {k : Nat} (h : ∀ u, u < k → (∃ kv, kvAt C ops S j u = some kv) → (T u ↔ T' u)) : ents C ops S j T k = ents C ops S j T' k := by
  unfold ents
  apply filterMap_same
  intro u hu
  rw [List.mem_range] at hu
  cases hkv : kvAt C ops S j u with
  | none => simp [only]
  | some kv =>
    have := h u hu ⟨kv, hkv⟩
    by_cases ht : T u
    · rw [only_pos ht, only_pos (this.1 ht)]
    · rw [only_neg ht, only_neg (fun h' => ht (this.2 h'))]

theorem ents_succ (j : Nat) (T : Nat → Prop) (k : Nat) : ents C ops S j T (k + 1) = ents C ops S j T k ++ (only (T k) (kvAt C ops S j k)).toList := by
  unfold ents
  rw [List.range_succ, List.filterMap_append, List.filterMap_cons, List.filterMap_nil]
  generalize only (T k) (kvAt C ops S j k) = x
  cases x <;> rfl

theorem ents_more {j : Nat} {T : Nat → Prop} {k : Nat} : ∀ {m : Nat}, k ≤ m → (∀ u, k ≤ u → u < m → T u → kvAt C ops S j u = none) → ents C ops S j T m = ents C ops S j T k
  | 0, h, _ => by rw [show k = 0 by omega]
  | m + 1, h, hn => by
    by_cases hk : k = m + 1
    · rw [hk]
    · rw [ents_succ, ents_more (m := m) (by omega) (fun u h1 h2 => hn u h1 (by omega))]
      have : only (T m) (kvAt C ops S j m) = none := by
        by_cases ht : T m
        · rw [only_pos ht]; exact hn m (by omega) (by omega) ht
        · rw [only_neg ht]
      rw [this]; simp

/-- One more. -/
theorem ents_add {j i : Nat} {T : Nat → Prop} {kv : AV × AV} (hi : kvAt C ops S j i = some kv) (hT : ¬ T i) : ∀ {k : Nat}, i < k → (ents C ops S j (fun u => T u ∨ u = i) k).Perm (ents C ops S j T k ++ [kv])
  | 0, h => by omega
  | k + 1, h => by
    rw [ents_succ, ents_succ]
    by_cases hk : i = k
    · subst hk
      rw [only_pos (Or.inr rfl), only_neg hT, hi]
      have : ents C ops S j (fun u => T u ∨ u = i) i = ents C ops S j T i := ents_congr fun u hu _ => ⟨fun h => h.elim id (fun h => by omega), .inl⟩
      rw [this]; simp
    · have ih := ents_add hi hT (k := k) (by omega)
      have e : only (T k ∨ k = i) (kvAt C ops S j k) = only (T k) (kvAt C ops S j k) := by
        by_cases ht : T k
        · rw [only_pos (.inl ht), only_pos ht]
        · rw [only_neg (fun h => h.elim ht (fun h => hk h.symm)), only_neg ht]
      rw [e]
      refine (ih.append_right _).trans ?_
      rw [List.append_assoc, List.append_assoc]
      exact List.Perm.append_left _ List.perm_append_comm

end
end Pe

namespace Pe
open Go
variable {P : Program} {B : Nat} {ρ ρ' : Rho} {fr : Fr} {a : Act} {w w' : World} {σ σ' : AW} {o : Oper}

/-! ### A heap of dead objects -/
noncomputable def deadTr : Nat → Tr AO
  | 0 => .nil
  | n + 1 => (deadTr n).set .dead n
theorem get_dead : ∀ (n i : Nat), (deadTr n).get i = if i < n then some .dead else none
  | 0, i => by simp [deadTr, Tr.get_nil]
  | n + 1, i => by
    rw [deadTr, Tr.get_set, get_dead n i]
    by_cases h : i = n
    · rw [if_pos h, if_pos (by omega)]
    · rw [if_neg h]
      by_cases h2 : i < n
      · rw [if_pos h2, if_pos (by omega)]
      · rw [if_neg h2, if_neg (by omega)]

theorem sim_dead {M : Nat} (h : ∀ id l, ρ id = some l → id < M) : Sim P ρ ⟨deadTr M, M, 0⟩ w := by
  refine ⟨fun id l hl => ⟨h id l hl, .dead, ?_, (fun hh => by cases hh), trivial⟩, fun id id' l l' o o' hl hl' ho ho' hv => ?_⟩
  · simp only [get_dead]; rw [if_pos (h id l hl)]
  · simp only [get_dead] at ho
    rw [if_pos (h id l hl)] at ho
    cases ho; cases hv

theorem val_free {M : Nat} (h : ∀ id l, ρ id = some l → id < M) (H : EvalRel ρ fr a o.op.operands.toList) {u : AV} (hc : cls P fr o = some (.val u)) : ∃ v, Gives P a o w v w ∧ VR ρ u v :=
  cls_ok (sim_dead (P := P) (w := w) h) H hc
theorem mk_free {M : Nat} (h : ∀ id l, ρ id = some l → id < M) (H : EvalRel ρ fr a o.op.operands.toList) {ob : AO} {sl : Option (Nat × Cap)} {mp : Bool} (hc : cls P fr o = some (.mk ob sl mp)) : MkGives P ρ w a o ob sl mp :=
  cls_ok (sim_dead (P := P) (w := w) h) H hc

/-! ### What stands by itself -/

theorem or_keep {l : Loc} {ob : AO} (h : ∀ σ2, OR P ρ σ2 l w ob) (hw : w'.heap[l.b]? = w.heap[l.b]?) (σ2 : AW) : OR P ρ σ2 l w' ob := by
  refine OR.keep (h σ2) (Rho.le.refl ρ) hw (fun m ver ks e => ?_)
  subst e
  obtain ⟨_, lm, since, seen, st, es, v, _, _, h3, _⟩ := h ⟨.nil, 0, 0⟩
  simp [Tr.get_nil] at h3

theorem ERs.perm {es es' : List (AV × AV)} (h : es.Perm es') : ∀ {L : List MapEntry}, ERs ρ es L → ∃ L', L'.Perm L ∧ ERs ρ es' L' := by
  induction h with
  | nil => intro L h; exact ⟨L, List.Perm.refl _, h⟩
  | cons x _ ih =>
    rintro L ⟨e, l', rfl, h1, h2, h3⟩
    obtain ⟨L', g1, g2⟩ := ih h3
    exact ⟨e :: L', g1.cons e, e, L', rfl, h1, h2, g2⟩
  | swap x y l =>
    rintro L ⟨e, l', rfl, h1, h2, e', l'', rfl, h3, h4, h5⟩
    exact ⟨e' :: e :: l'', List.Perm.swap _ _ _, e', _, rfl, h3, h4, e, l'', rfl, h1, h2, h5⟩
  | trans _ _ ih1 ih2 =>
    intro L h
    obtain ⟨L1, g1, g2⟩ := ih1 h
    obtain ⟨L2, g3, g4⟩ := ih2 g2
    exact ⟨L2, g3.trans g1, g4⟩

theorem MapRel.perm {es es' : List (AV × AV)} {ES : Array MapEntry} {ck : Nat} (hp : es.Perm es') (h : MapRel ρ es ES ck) : MapRel ρ es' ES ck := by
  obtain ⟨h1, ⟨L, h2, h3⟩, h4⟩ := h
  refine ⟨?_, ?_, h4⟩
  · rw [keysApart_iff] at h1 ⊢
    exact (List.Perm.pairwise_iff (fun {x y} hxy => by rw [eqKey_comm]; exact hxy) (hp.map Prod.fst)).1 h1
  · obtain ⟨L', g1, g2⟩ := ERs.perm hp h3
    exact ⟨L', g1.trans h2, g2⟩

theorem MapRel.push {es : List (AV × AV)} {ES : Array MapEntry} {ck : Nat} (h : MapRel ρ es ES ck) {k v : AV} {key val : Value} (hf : ∀ kv ∈ es, findK.eqKey k kv.1 = some false) (hk : VR ρ k key) (hv : VR ρ v val) : MapRel ρ (es ++ [(k, v)]) (ES.push { key, val, born := ck }) (ck + 1) := by
  obtain ⟨ha, ⟨L, hp, hL⟩, hborn, hnd⟩ := h
  refine ⟨?_, ⟨L ++ [{ key, val, born := ck }], ?_, ?_⟩, ?_, ?_⟩
  · rw [keysApart_iff] at ha ⊢
    rw [List.map_append, List.pairwise_append]
    refine ⟨ha, by simp, fun x hx y hy => ?_⟩
    simp only [List.map_cons, List.map_nil, List.mem_singleton] at hy
    subst hy
    obtain ⟨kv, hkv', rfl⟩ := List.mem_map.1 hx
    rw [eqKey_comm]; exact hf kv hkv'
  · rw [Array.toList_push]; exact hp.append_right _
  · exact hL.append ⟨_, _, rfl, hk, hv, rfl⟩
  · intro e he
    rw [Array.toList_push] at he
    rcases List.mem_append.1 he with he | he
    · have := hborn e he; omega
    · rw [List.mem_singleton] at he; subst he; simp
  · rw [Array.toList_push, List.map_append, List.nodup_append]
    refine ⟨hnd, by simp, fun x hx y hy => ?_⟩
    simp only [List.map_cons, List.map_nil, List.mem_singleton] at hy
    subst hy
    obtain ⟨e, he, rfl⟩ := List.mem_map.1 hx
    have := hborn e he; omega

theorem findK_of {k : AV} : ∀ {es : List (AV × AV)}, (∀ kv ∈ es, findK.eqKey k kv.1 = some false) → findK k es = some none
  | [], _ => rfl
  | kv :: es, h => by
    obtain ⟨k', v'⟩ := kv
    simp only [findK, h (k', v') (by simp)]
    exact findK_of fun x hx => h x (by simp [hx])

/-- An insert, by itself. -/
theorem insert_new {t kt et : TypeId} {xm xk xv : Operand} (ho : o.op = .insert t xm xk xv) (hT : P.underlying t = some (.map kt et)) {k : AV} (hk : keyFits P kt k = true) {b : Nat} (e1 : a.eval xm = .map (some b))
    {es : List (AV × AV)} {ES : Array MapEntry} {ck : Nat} (g1 : w.heap[b]? = some (.map ES ck)) (hmr : MapRel ρ es ES ck) (hkv : VR ρ k (a.eval xk)) (hf : ∀ kv ∈ es, findK.eqKey k kv.1 = some false) :
    Gives P a o w undef (w.putObj b (.map (ES.push { key := a.eval xk, val := a.eval xv, born := ck }) (ck + 1))) := by
  obtain ⟨dk, hdk⟩ : ∃ d, P.underlying kt = some d := by
    cases hh : P.underlying kt with
    | some d => exact ⟨d, rfl⟩
    | none => cases k <;> simp [keyFits, scalarFits, hh] at hk
  have hset : ∀ ob : Obj, (setObj b ob).run P w = .ok () (w.putObj b ob) := by
    intro ob; simp [setObj, Sem.run, g1, World.putObj]
  rcases map_find (P := P) (w := w) hdk hk hkv hmr (findK_of hf) with ⟨_, k1, _⟩ | ⟨_, _, _, _, hh, _⟩
  rotate_left
  · cases hh
  have hr : (Instr.mapUpdate t (a.eval xm) (a.eval xk) (a.eval xv)).run P w = .ok () (w.putObj b (.map (ES.push { key := a.eval xk, val := a.eval xv, born := ck }) (ck + 1))) := by
    simp [Instr.mapUpdate, run_under hT, e1, run_getObj_map g1, checkKey_run _ hk hkv, k1, hset]
  exact .inr ⟨by simp [execOp, ho, hr], rfl⟩

/-! ### The guard -/
theorem wanted_by {ops : Array Oper} {b : Bool} (hv : ∀ d, d ∈ guardTmp ops o → VR ρ (fr.get d) (a.tmps.getD d undef)) (hw : wantedA fr ops o = some b) : Region.wanted o (yielded ops a.tmps) = b ∧ dstOk fr o = true := by
  unfold wantedA at hw
  split at hw
  · cases hw
  · rename_i hd
    refine ⟨?_, by simpa using hd⟩
    unfold Region.wanted
    cases hg : o.guard with
    | none => rw [hg] at hw; simpa using hw
    | some jb =>
      obtain ⟨j, want⟩ := jb
      rw [hg] at hw
      simp only at hw ⊢
      unfold yielded
      cases hj : (ops[j]?).bind (·.dst) with
      | none => rw [hj] at hw; cases hw; simp
      | some d =>
        rw [hj] at hw
        simp only [Option.bind_some] at hw ⊢
        have hv := hv d (by simp [guardTmp, hg, hj])
        split at hw
        · rename_i c hc
          cases hw
          rw [hc] at hv
          simp only [VR] at hv
          have : a.tmps[d]? = some (.bool c) := by
            rw [Array.getD_eq_getD_getElem?] at hv
            cases hx : a.tmps[d]? with
            | none => rw [hx] at hv; simp [undef] at hv
            | some y => rw [hx] at hv; simpa using hv
          rw [this]
          simp only
          cases c <;> cases want <;> rfl
        · rename_i hc
          cases hw
          rw [hc] at hv
          simp only [VR] at hv
          obtain ⟨vs, hv, _⟩ := hv
          have : ∀ b, a.tmps[d]? ≠ some (.bool b) := by
            intro b hx
            rw [Array.getD_eq_getD_getElem?, hx] at hv
            simp at hv
          cases hx : a.tmps[d]? with
          | none => simp
          | some y =>
            cases y <;> simp
            exact (this _ hx).elim
        · cases hw

/-! ### Worlds and heaps that turn where nothing is known -/
theorem Sim.touch (h : Sim P ρ σ w) (hsz : w.heap.size ≤ w'.heap.size) (hw : ∀ b, Owned ρ σ b → w'.heap[b]? = w.heap[b]?) : Sim P ρ σ w' :=
  h.change (fun _ => False) (Rho.le.refl ρ) (Nat.le_refl _) hsz (fun i l he h0 => (by rw [he] at h0; cases h0)) (fun _ _ _ ht => ht.elim) (fun id l hl _ => ⟨rfl, fun o ho hv => hw _ ⟨id, l, o, hl, ho, hv, rfl⟩⟩)
    (fun _ _ _ _ _ ht _ => ht.elim) (fun _ _ _ _ _ _ ht => ht.elim)

theorem Sim.same (h : Sim P ρ σ w) (hn : σ.next ≤ σ'.next) (hg : ∀ id, ρ id ≠ none → σ'.heap.get id = σ.heap.get id) : Sim P ρ σ' w :=
  h.change (fun _ => False) (Rho.le.refl ρ) hn (Nat.le_refl _) (fun i l he h0 => (by rw [he] at h0; cases h0)) (fun _ _ _ ht => ht.elim) (fun id l hl _ => ⟨hg id (by rw [hl]; simp), fun _ _ _ => rfl⟩)
    (fun _ _ _ _ _ ht _ => ht.elim) (fun _ _ _ _ _ _ ht => ht.elim)

theorem owned_same (hg : ∀ id, ρ id ≠ none → σ'.heap.get id = σ.heap.get id) {b : Nat} : Owned ρ σ' b ↔ Owned ρ σ b := by
  constructor
  · rintro ⟨id, l, o, h1, h2, h3⟩; exact ⟨id, l, o, h1, by rw [← hg id (by rw [h1]; simp)]; exact h2, h3⟩
  · rintro ⟨id, l, o, h1, h2, h3⟩; exact ⟨id, l, o, h1, by rw [hg id (by rw [h1]; simp)]; exact h2, h3⟩

variable {ρ0 : Rho} {σ0 : AW} {w0 : World}
theorem Post.world (p : Post ρ0 σ0 w0 ρ σ w) (hsz : w.heap.size ≤ w'.heap.size) (hw : ∀ b, b < w0.heap.size → w'.heap[b]? = w.heap[b]?) (hio : SameIO w w' := by exact ⟨rfl, rfl⟩) : Post ρ0 σ0 w0 ρ σ w' :=
  ⟨p.le, p.new, p.next, p.kept, p.low, Nat.le_trans p.size hsz, fun b hb hn => by rw [hw b hb, p.frame b hb hn], p.owned, hio.1.trans p.io.1, hio.2.trans p.io.2⟩

theorem Post.same (p : Post ρ0 σ0 w0 ρ σ w) (hn : σ.next ≤ σ'.next) (hl : σ'.low ≤ σ.low) (h0 : ∀ id, id < σ0.next → σ'.heap.get id = σ.heap.get id) (hg : ∀ id, ρ id ≠ none → σ'.heap.get id = σ.heap.get id) : Post ρ0 σ0 w0 ρ σ' w :=
  ⟨p.le, p.new, Nat.le_trans p.next hn, fun id h1 h2 => by rw [h0 id h1, p.kept id h1 h2], ⟨Nat.le_trans hl p.low.1, fun id h1 h2 => by rw [h0 id h1, p.low.2 id h1 (by omega)]⟩, p.size, p.frame, fun b hb ho => p.owned b hb ((owned_same hg).1 ho), p.io⟩

theorem Post.adopt (p : Post ρ0 σ0 w0 ρ σ w) (hle : ρ.le ρ') (hnew : ∀ id l, ρ' id = some l → ρ id = none → σ0.next ≤ id ∧ w0.heap.size ≤ l.b) : Post ρ0 σ0 w0 ρ' σ w :=
  ⟨p.le.trans hle, fun id l h1 h2 => by
    cases h : ρ id with
    | none => exact (hnew id l h1 h).1
    | some l' => exact p.new id l' h h2, p.next, p.kept, p.low, p.size, p.frame, fun b hb ⟨id, l, o, h1, h2, h3, h4⟩ => by
    cases h : ρ id with
    | none => have := (hnew id l h1 h).2; omega
    | some l' =>
      have := hle id l' h
      rw [h1] at this; cases this
      exact p.owned b hb ⟨id, l, o, h, h2, h3, h4⟩, p.io⟩

/-! ### rho and more -/
noncomputable def plus (ρ : Rho) (A : Nat → Prop) (pl : Nat → Loc) : Rho := fun id => match ρ id with
  | some l => some l
  | none => only (A id) (some (pl id))
theorem plus_known {A : Nat → Prop} {pl : Nat → Loc} {id : Nat} {l : Loc} (h : ρ id = some l) : plus ρ A pl id = some l := by simp [plus, h]
theorem plus_new {A : Nat → Prop} {pl : Nat → Loc} {id : Nat} (h : ρ id = none) (ha : A id) : plus ρ A pl id = some (pl id) := by simp [plus, h, only_pos ha]
theorem plus_none {A : Nat → Prop} {pl : Nat → Loc} {id : Nat} (h : ρ id = none) (ha : ¬ A id) : plus ρ A pl id = none := by simp [plus, h, only_neg ha]
theorem plus_some {A : Nat → Prop} {pl : Nat → Loc} {id : Nat} {l : Loc} (h : plus ρ A pl id = some l) : ρ id = some l ∨ (ρ id = none ∧ A id ∧ l = pl id) := by
  unfold plus at h
  split at h
  · rename_i l' h'; cases h; exact .inl h'
  · rename_i h'
    by_cases ha : A id
    · rw [only_pos ha] at h; cases h; exact .inr ⟨h', ha, rfl⟩
    · rw [only_neg ha] at h; cases h
theorem le_plus {A : Nat → Prop} {pl : Nat → Loc} : ρ.le (plus ρ A pl) := fun _ _ h => plus_known h
theorem plus_le {A : Nat → Prop} {pl : Nat → Loc} (h : ρ.le ρ') (h' : ∀ id, ρ id = none → A id → ρ' id = some (pl id)) : (plus ρ A pl).le ρ' := by
  intro id l hl
  rcases plus_some hl with h1 | ⟨h1, h2, rfl⟩
  · exact h id l h1
  · exact h' id h1 h2

end Pe

namespace Pe
open Go

section
variable {C : Cfg} {E : Evs} {ops : Array Oper} {S : Nat → Fr × AW} {V : Nat → AV}

def Aset (C : Cfg) (ops : Array Oper) (S : Nat → Fr × AW) (T Bp : Nat → Prop) : Nat → Prop := fun id => ∃ j, MkJ C ops S j ∧ T j ∧ idOf S j = id ∧ Bp j
def inBef (C : Cfg) (ops : Array Oper) (S : Nat → Fr × AW) (i j : Nat) : Prop := ∀ u, Us C ops S j u → (i = ops.size ∨ bef ops i u)
def inBnd (C : Cfg) (ops : Array Oper) (S : Nat → Fr × AW) (k j : Nat) : Prop := ∀ u', Us C ops S j u' → ∃ u, Us C ops S k u ∧ bef ops u u'
def ment (ops : Array Oper) (i : Nat) (t : Tmp) : Prop := i = ops.size ∨ ∃ o, ops[i]? = some o ∧ t ∈ namesOf o ++ guardTmp ops o
def sees (ops : Array Oper) (i : Nat) (t : Tmp) : Prop := i = ops.size ∨ ∃ o, ops[i]? = some o ∧ t ∈ seesOf o
def also (T : Nat → Prop) (i : Nat) : Nat → Prop := fun k => T k ∨ k = i

structure Core (C : Cfg) (ops : Array Oper) (S : Nat → Fr × AW) (ρ0 : Rho) (w0 : World) (a0 : Act) (T : Nat → Prop) (N : Nat) (ρ1 : Rho) (w : World) (a : Act) (pl : Nat → Loc) : Prop where
  tn : ∀ k, T k → k < ops.size
  down : Down ops T
  Nle : N ≤ ops.size
  Nlt : ∀ k, k < N → ActAt C ops S k → T k
  sim : Sim C.P ρ1 (S N).2 w
  post : Post ρ0 (S 0).2 w0 ρ1 (S N).2 w
  mkU : ∀ j, MkJ C ops S j → ρ1 (idOf S j) ≠ none → ∀ u, Us C ops S j u → T u ∧ u < N
  txt : ∀ j ob sl mp, MkAt C ops S j ob sl mp → j < N → ρ1 (idOf S j) = none → ∃ ver, (S N).2.heap.get (idOf S j) = some (withEnts ob (ents C ops S j (fun _ => True) N) ver)
  side : ∀ j ob sl mp, MkAt C ops S j ob sl mp → T j → ρ1 (idOf S j) = none → (pl (idOf S j)).b < w.heap.size ∧ w0.heap.size ≤ (pl (idOf S j)).b ∧ ¬ Owned ρ1 (S N).2 (pl (idOf S j)).b ∧
    ∀ ρ2, (plus ρ1 (Aset C ops S T (inBnd C ops S j)) pl).le ρ2 → ∀ ver σ2, OR C.P ρ2 σ2 (pl (idOf S j)) w (withEnts ob (ents C ops S j T ops.size) ver)
  apart : ∀ j j', MkJ C ops S j → MkJ C ops S j' → T j → T j' → ρ1 (idOf S j) = none → ρ1 (idOf S j') = none → (pl (idOf S j)).b = (pl (idOf S j')).b → j = j'
  size : a.tmps.size = (S 0).1.nt
  defs : a.defers = a0.defers
  weak : ∀ i, i ≤ ops.size → ¬ T i → ∀ t, ment ops i t → (∀ j, j < i → writes ops j t → T j) → VR (plus ρ1 (Aset C ops S T fun _ => True) pl) ((S i).1.get t) (a.tmps.getD t undef)
  strong : ∀ i, i ≤ ops.size → ¬ T i → ∀ t, sees ops i t → (∀ j, j < i → writes ops j t → T j) → VR (plus ρ1 (Aset C ops S T (inBef C ops S i)) pl) ((S i).1.get t) (a.tmps.getD t undef)

theorem sees_ment {i : Nat} {t : Tmp} (h : sees ops i t) : ment ops i t := by
  rcases h with h | ⟨o, h1, h2⟩
  · exact .inl h
  · refine .inr ⟨o, h1, ?_⟩
    unfold namesOf
    rw [List.append_assoc]
    refine List.mem_append_right _ (List.mem_append_left _ ?_)
    unfold seesOf at h2
    split at h2
    · rename_i ty x k v hop
      simp only [hop, Op.operands]
      simp only [List.mem_filterMap] at h2 ⊢
      obtain ⟨y, hy, hy2⟩ := h2
      refine ⟨y, ?_, hy2⟩
      simp at hy ⊢; rcases hy with rfl | rfl <;> simp
    · exact h2

/-- Whoever writes what one mentions is ordered with it. -/
theorem Run.order (R : Run C E ops S V) {i k : Nat} {t : Tmp} (hi : ment ops i t) (hk : writes ops k t) : k = i ∨ (k < i ∧ (i = ops.size ∨ bef ops i k)) ∨ (i < k ∧ bef ops k i) := by
  obtain ⟨ok, h1, h2⟩ := hk
  rcases hi with rfl | ⟨o, h3, h4⟩
  · exact .inr (.inl ⟨op_lt h1, .inl rfl⟩)
  · rcases R.facts.use i o t k ok h3 h4 h1 h2 with h | h | h
    · exact .inl h
    · exact .inr (.inl ⟨h.1, .inr h.2⟩)
    · exact .inr (.inr h)

theorem plus_mono {ρ1 ρ1' : Rho} {T T' : Nat → Prop} {pl pl' : Nat → Loc} (hρ : ρ1.le ρ1') (hT : ∀ k, T k → T' k) (hpl : ∀ j, MkJ C ops S j → T j → ρ1 (idOf S j) = none → pl' (idOf S j) = pl (idOf S j))
    (hc : ∀ j, MkJ C ops S j → T j → ρ1 (idOf S j) = none → ∀ l, ρ1' (idOf S j) = some l → l = pl (idOf S j)) (Bp : Nat → Prop) : (plus ρ1 (Aset C ops S T Bp) pl).le (plus ρ1' (Aset C ops S T' Bp) pl') := by
  refine plus_le (fun id l h => plus_known (hρ id l h)) ?_
  rintro id h0 ⟨j, h1, h2, rfl, h4⟩
  cases h : ρ1' (idOf S j) with
  | some l => rw [plus_known h, hc j h1 h2 h0 l h]
  | none => rw [plus_new h ⟨j, h1, hT j h2, rfl, h4⟩, hpl j h1 h2 h0]

theorem Aset_mono {ρ1 : Rho} {T Bp Bp' : Nat → Prop} {pl : Nat → Loc} (h : ∀ j, MkJ C ops S j → T j → Bp j → Bp' j) : (plus ρ1 (Aset C ops S T Bp) pl).le (plus ρ1 (Aset C ops S T Bp') pl) := by
  refine plus_le le_plus ?_
  rintro id h0 ⟨j, h1, h2, rfl, h4⟩
  exact plus_new h0 ⟨j, h1, h2, rfl, h j h1 h2 h4⟩

section
variable {ρ0 : Rho} {w0 : World} {a0 : Act} {T : Nat → Prop} {N : Nat} {ρ1 : Rho} {w : World} {a : Act} {pl : Nat → Loc}

/-- The temporaries, after one operation more. -/
theorem Core.after (h : Core C ops S ρ0 w0 a0 T N ρ1 w a pl) (R : Run C E ops S V) {i : Nat} {o : Oper} (ho : ops[i]? = some o) (hT : ¬ T i) (hb : ∀ j, bef ops i j → T j) {ρ1' : Rho} {pl' : Nat → Loc} {v : Value}
    (hm : ∀ Bp, (plus ρ1 (Aset C ops S T Bp) pl).le (plus ρ1' (Aset C ops S (also T i) Bp) pl')) (hv : VR (plus ρ1' (Aset C ops S (also T i) fun j => inBef C ops S i j ∨ j = i) pl') (V i) v) (hd : ∀ d, o.dst = some d → d < a.tmps.size) :
    (∀ i', i' ≤ ops.size → ¬ also T i i' → ∀ t, ment ops i' t → (∀ j, j < i' → writes ops j t → also T i j) → VR (plus ρ1' (Aset C ops S (also T i) fun _ => True) pl') ((S i').1.get t) ((a.put o.dst v).tmps.getD t undef)) ∧
    (∀ i', i' ≤ ops.size → ¬ also T i i' → ∀ t, sees ops i' t → (∀ j, j < i' → writes ops j t → also T i j) → VR (plus ρ1' (Aset C ops S (also T i) (inBef C ops S i')) pl') ((S i').1.get t) ((a.put o.dst v).tmps.getD t undef)) := by
  have get : ∀ t, (a.put o.dst v).tmps.getD t undef = if o.dst = some t then v else a.tmps.getD t undef := by
    intro t
    cases hdst : o.dst with
    | none => simp [Act.put]
    | some d =>
      simp only [Act.put]
      rw [getD_set (hd d hdst)]
      by_cases hh : t = d
      · rw [if_pos hh, if_pos (by rw [hh])]
      · rw [if_neg hh, if_neg (by intro e; cases e; exact hh rfl)]
  have hi := op_lt ho
  -- the value of a temporary that i has written, for one that comes later
  have mine : ∀ i', i' ≤ ops.size → ¬ also T i i' → ∀ t, ment ops i' t → (∀ j, j < i' → writes ops j t → also T i j) → o.dst = some t → i < i' ∧ (i' = ops.size ∨ bef ops i' i) ∧ (S i').1.get t = V i := by
    intro i' hi' hn t hmt hall hdt
    have hw : writes ops i t := ⟨o, ho, hdt⟩
    rcases R.order hmt hw with h1 | ⟨h1, h2⟩ | ⟨h1, h2⟩
    · exact (hn (.inr h1.symm)).elim
    · refine ⟨h1, h2, R.last hw h1 hi' fun m hm1 hm2 hm3 => ?_⟩
      rcases hall m hm2 hm3 with h3 | h3
      · obtain ⟨om, e1, e2⟩ := hm3
        have hmm : ment ops m t := .inr ⟨om, e1, by simp [namesOf, e2]⟩
        rcases R.order hmm hw with h4 | ⟨_, h4 | h4⟩ | ⟨h4, _⟩
        · omega
        · have := op_lt e1; omega
        · exact hT (h.down m i h3 h4)
        · omega
      · omega
    · exact (hn (.inl (hb _ h2))).elim
  have old : ∀ i' t, o.dst ≠ some t → (∀ j, j < i' → writes ops j t → also T i j) → ∀ j, j < i' → writes ops j t → T j := by
    intro i' t hne hall j hj hw
    rcases hall j hj hw with h1 | h1
    · exact h1
    · subst h1
      obtain ⟨oj, e1, e2⟩ := hw
      rw [ho] at e1; cases e1; exact (hne e2).elim
  constructor
  · intro i' hi' hn t hmt hall
    rw [get]
    by_cases hdt : o.dst = some t
    · rw [if_pos hdt, (mine i' hi' hn t hmt hall hdt).2.2]
      exact VR.mono (Aset_mono fun _ _ _ _ => trivial) _ _ hv
    · rw [if_neg hdt]
      exact VR.mono (hm _) _ _ (h.weak i' hi' (fun hh => hn (.inl hh)) t hmt (old i' t hdt hall))
  · intro i' hi' hn t hst hall
    rw [get]
    by_cases hdt : o.dst = some t
    · obtain ⟨h1, h2, h3⟩ := mine i' hi' hn t (sees_ment hst) hall hdt
      rw [if_pos hdt, h3]
      refine VR.mono (Aset_mono fun j hj _ hB => ?_) _ _ hv
      rcases hB with hB | rfl
      · intro u hu
        rcases h2 with h2 | h2
        · exact .inl h2
        · rcases hB u hu with hB | hB
          · omega
          · exact .inr (bef_trans R.facts.back _ h2 hB)
      · rintro u (rfl | ⟨kv, hkv⟩)
        · exact h2
        · rcases h2 with h2 | h2
          · exact .inl h2
          · obtain ⟨_, _, ou, tu, e1, e2, e3, _⟩ := R.fill hj hkv
            have : tu = t := by
              obtain ⟨oj, e4, e5⟩ := e3
              rw [ho] at e4; cases e4; rw [hdt] at e5; cases e5; rfl
            subst this
            rcases hst with hst | ⟨oi, e6, e7⟩
            · exact .inl hst
            · exact .inr (R.facts.fillSee u ou tu i' oi e1 e2 e6 e7)
    · rw [if_neg hdt]
      exact VR.mono (hm _) _ _ (h.strong i' hi' (fun hh => hn (.inl hh)) t hst (old i' t hdt hall))

end
end
end Pe
