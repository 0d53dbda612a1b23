/- Kinds of operations and the rounds over a map. -/
import Derived.Test.YtnmfbmfefjcnfaaGreatDoorKc
import Derived.Lib.UnsafeStr
set_option linter.unusedSectionVars false
namespace Pe
open Go
variable {P : Program} {ρ : Rho} {fr : Fr} {a : Act} {w : World}

theorem cell_of_shape {b N : Nat} {e : TypeId} (h : w.shape? b = some (e, N)) {i : Nat} (hi : i < N) : (w.cell? ⟨b, i, none⟩).isSome = true := by
  unfold World.shape? at h
  split at h
  · rename_i c el fz hb
    simp only [Option.some.injEq, Prod.mk.injEq] at h
    obtain ⟨_, rfl⟩ := h
    simp [World.cell?, hb, hi]
  · cases h

/-- What a longer slice's row holds: the old cells, and then the new ones. -/
def Longer (z : List AV) (t : Tr AV) (off k : Nat) (news : List AV) (z' : List AV) (t' : Tr AV) (n' : Nat) : Prop :=
  ∀ i, i < n' → ∃ x, cellAt z' t' i = some x ∧ if i < k then cellAt z t (off + i) = some x else news[i - k]? = some x

theorem longer_set {z : List AV} {t : Tr AV} {k : Nat} {news : List AV} (hz : ∀ i, i < k → ∃ x, cellAt z t i = some x) : Longer z t 0 k news z (setFrom t k news) (k + news.length) := by
  intro i hi
  rw [cellAt_setFrom]
  by_cases h : i < k
  · obtain ⟨x, hx⟩ := hz i h
    refine ⟨x, by rw [if_neg (by omega)]; exact hx, by rw [if_pos h, Nat.zero_add]; exact hx⟩
  · have : i - k < news.length := by omega
    refine ⟨news[i - k], by rw [if_pos (by omega)]; exact List.getElem?_eq_getElem this, by rw [if_neg h]; exact List.getElem?_eq_getElem this⟩

theorem longer_new {z : List AV} {t : Tr AV} {off k : Nat} {news old : List AV} (ho : cellsFrom z t off k = some old) : Longer z t off k news (old ++ news) .nil (k + news.length) := by
  have hl := cellsFrom_len ho
  intro i hi
  have hlen : (old ++ news).length = k + news.length := by rw [List.length_append, hl]
  refine ⟨(old ++ news)[i]'(by omega), by rw [cellAt_nil, Nat.mod_eq_of_lt (show i < (old ++ news).length by omega)]; exact List.getElem?_eq_getElem (by omega), ?_⟩
  by_cases h : i < k
  · rw [if_pos h]
    obtain ⟨c, g1, g2⟩ := cellsFrom_get ho i h
    rw [g1]; congr 1
    rw [List.getElem_append_left (by omega)]
    rw [List.getElem?_eq_getElem (by omega)] at g2
    exact (Option.some.inj g2).symm
  · rw [if_neg h, List.getElem_append_right (by omega), List.getElem?_eq_getElem (by omega)]
    congr 1; simp only [hl]

/-- An append in place, at the end of a row that only this slice has. -/
theorem up_in {σ : AW} (hs : Sim P ρ σ w) {id : Nat} {l : Loc} (hl : ρ id = some l) {n : Nat} {z : List AV} {t : Tr AV} {e : TypeId} {fz : Nat} {wh : Bool} (ho : σ.heap.get id = some (.cells n z t e fz wh)) {off k : Nat} (hk : off + k ≤ n) (hfz : fz ≤ off + k)
    {news : List AV} {vs : List Value} (hv : VRs ρ news vs) (hc : news.all AV.isCell = true) (hx : off + k + news.length ≤ l.ext) {z' : List AV} {t' : Tr AV} {n' : Nat} (hn' : n' = k + news.length) (hL : Longer z t off k news z' t' n') :
    ∃ w', (storeCells ⟨l.b, l.base + off + k, none⟩ vs).run P w = .ok () w' ∧ Sim P (ρ.upd σ.next ⟨l.b, l.base + off, l.ext - off⟩) ((σ.put id .dead).new (.cells n' z' t' e (fz - off) false)) w' ∧ Post ρ σ w (ρ.upd σ.next ⟨l.b, l.base + off, l.ext - off⟩) ((σ.put id .dead).new (.cells n' z' t' e (fz - off) false)) w' := by
  have hC := obj_cells hs hl ho
  obtain ⟨N, hN1, hN2, _⟩ := hC.size
  have hlen := hv.length
  have hle := hC.le
  refine ⟨w.setCells l.b (l.base + off + k) vs, ?_, ?_⟩
  · have := run_storeCells_cells (P := P) l.b (l.base + off + k) vs 0 w (fun j hj => cell_of_shape hN1 (by omega))
      (fun j hj => by
        have := hC.free (by omega) (off + k + j) (by omega) (by omega)
        rw [show l.base + off + k + 0 + j = l.base + (off + k + j) by omega]; exact this)
      (hv.oneCell' hc)
    simpa using this
  · refine hs.reap (.cells n' z' t' e (fz - off) false) ⟨l.b, l.base + off, l.ext - off⟩ hl ho rfl (fun es v hh => by cases hh) rfl (setCells_size _ _ _ _) (fun b hb => setCells_other _ _ _ _ _ hb) ⟨⟨N, by rw [shape?_setCells]; exact hN1, by simp only; omega, fun h => by cases h⟩, by simp only; omega, ?_, ?_⟩ (setCells_io _ _ _ _)
    · intro i hi
      obtain ⟨x, h1, h2⟩ := hL i hi
      by_cases h : i < k
      · rw [if_pos h] at h2
        obtain ⟨x', v, g1, g2, g3, g4⟩ := hC.cell (off + i) (by omega)
        rw [h2] at g1; cases g1
        refine ⟨x, v, h1, g2, ?_, VR.mono (hs.le_upd _) _ _ g4⟩
        rw [World.cell?_setCells_out l.b vs _ _ _ (fun _ _ => by simp only; omega)]
        simp only
        rw [show l.base + off + i = l.base + (off + i) by omega]; exact g3
      · rw [if_neg h] at h2
        obtain ⟨v, g1, g2⟩ := hv.get h2
        refine ⟨x, v, h1, ?_, ?_, VR.mono (hs.le_upd _) _ _ g2⟩
        · exact List.all_eq_true.1 hc _ (List.mem_of_getElem? h2)
        · have h3 := World.cell?_setCells_in l.b vs (l.base + off + k) w (fun j hj' => cell_of_shape hN1 (by omega)) (i - k) (by omega)
          simp only
          rw [show l.base + off + i = l.base + off + k + (i - k) by omega, h3]
          rw [List.getElem?_eq_getElem (by omega)] at g1
          exact g1
    · intro _ fr h1 h2
      rw [frOf_setCells] at h1
      have := hC.top (by omega) fr h1 h2
      simp only; omega

/-- A row in a new block: the old cells, the new ones, and room. -/
theorem grow_new {σ : AW} (hs : Sim P ρ σ w) {olds news : List AV} {O C R : Array Value} (hO : VRs ρ olds O.toList) (hC : VRs ρ news C.toList) (ho : olds.all AV.isCell = true) (hc : news.all AV.isCell = true) {z' : List AV} {t' : Tr AV} {n' : Nat} {e : TypeId} {fz : Nat} (hn' : n' = olds.length + news.length)
    (hL : ∀ i, i < n' → ∃ x, cellAt z' t' i = some x ∧ if i < olds.length then olds[i]? = some x else news[i - olds.length]? = some x) :
    Sim P (ρ.upd σ.next ⟨w.heap.size, 0, (O ++ C ++ R).size⟩) (σ.new (.cells n' z' t' e fz false)) (w.drew.alloc (.cells (O ++ C ++ R) e)) ∧ Post ρ σ w (ρ.upd σ.next ⟨w.heap.size, 0, (O ++ C ++ R).size⟩) (σ.new (.cells n' z' t' e fz false)) (w.drew.alloc (.cells (O ++ C ++ R) e)) := by
  have h1 : O.size = olds.length := by rw [← Array.length_toList, hO.length]
  have h2 : C.size = news.length := by rw [← Array.length_toList, hC.length]
  refine mk_cells (fr0 := (0, 0)) hs rfl (by simp) (by simp only [Array.size_append]; omega) (fun h => by cases h) ?_
  intro i hi
  obtain ⟨x, g1, g2⟩ := hL i hi
  by_cases h : i < olds.length
  · rw [if_pos h] at g2
    obtain ⟨v, k1, k2⟩ := hO.get g2
    refine ⟨x, v, g1, List.all_eq_true.1 ho _ (List.mem_of_getElem? g2), ?_, k2⟩
    rw [Array.getElem?_append_left (by simp only [Array.size_append]; omega), Array.getElem?_append_left (by omega)]
    simpa using k1
  · rw [if_neg h] at g2
    obtain ⟨v, k1, k2⟩ := hC.get g2
    refine ⟨x, v, g1, List.all_eq_true.1 hc _ (List.mem_of_getElem? g2), ?_, k2⟩
    rw [Array.getElem?_append_left (by simp only [Array.size_append]; omega), Array.getElem?_append_right (by omega), h1]
    simpa using k1

theorem cellsFrom_some {z : List AV} {t : Tr AV} : ∀ {k i : Nat}, (∀ j, j < k → ∃ x, cellAt z t (i + j) = some x) → ∃ cs, cellsFrom z t i k = some cs
  | 0, _, _ => ⟨[], rfl⟩
  | k + 1, i, h => by
    obtain ⟨x, hx⟩ := h 0 (by omega)
    obtain ⟨cs, hcs⟩ := cellsFrom_some (k := k) (i := i + 1) (fun j hj => by
      obtain ⟨y, hy⟩ := h (j + 1) (by omega)
      exact ⟨y, by rw [show i + 1 + j = i + (j + 1) by omega]; exact hy⟩)
    rw [Nat.add_zero] at hx
    exact ⟨x :: cs, by simp [cellsFrom, hx, hcs]⟩

theorem zeroCells_size (z : Array Value) (n : Nat) : (Builtin.zeroCells z n).size = n * z.size := by simp [Builtin.zeroCells]


theorem obj_at {σ : AW} (hs : Sim P ρ σ w) {id : Nat} {l : Loc} (hl : ρ id = some l) : id < σ.next := (hs.obj id l hl).1

/-- A growing append makes a slice of so many, in a new block, with room. -/
theorem sl_grown (σ : AW) {l : Loc} (hl : l.base = 0) {n c es : Nat} (h : n ≤ c) (hx : c * es ≤ l.ext) : VR (ρ.upd σ.next l) (.sl σ.next 0 n (.up es)) (.slice (some ⟨l.b, 0, none⟩) n c) := by
  simp only [VR]
  exact ⟨l, c, 0, by simp [Rho.upd], by rw [hl], .inl ⟨rfl, h, by omega⟩⟩

theorem grown_ext {O C : Array Value} {zv : Array Value} {k n c size : Nat} (hO : O.size = k * size) (hC : C.size = n * size) (hz : zv.size = size) (hc : k + n ≤ c) : c * size ≤ (O ++ C ++ Builtin.zeroCells zv (c - (k + n))).size := by
  simp only [Array.size_append, zeroCells_size, hO, hC, hz, ← Nat.add_mul]
  exact Nat.mul_le_mul_right _ (by omega)

theorem append_ok {σ σ' : AW} (hs : Sim P ρ σ w) {o : Oper} {xs xx : Operand} {ts : Array TypeId} (ho : o.op = .call { callee := .builtin .append, args := #[xs, xx], argTypes := ts }) (h2 : ts.size = 2) {e : TypeId} (hT : P.underlying (ts.getD 0 0) = some (.slice e))
    (hU : P.underlying (ts.getD 1 0) = some .string ∨ ∃ e', P.underlying (ts.getD 1 0) = some (.slice e')) {s x u : AV} (hvs : VR ρ s (a.eval xs)) (hvx : VR ρ x (a.eval xx)) (h : effRun P σ (.append e s x) = some (u, σ')) : EffGives P ρ σ w a o u σ' := by
  have e0 : ts[0]? = some (ts.getD 0 0) := by simp [Array.getD_eq_getD_getElem?, h2]
  have e1 : ts[1]? = some (ts.getD 1 0) := by simp [Array.getD_eq_getD_getElem?, h2]
  obtain ⟨d1, hU, hd⟩ : ∃ d1, P.underlying (ts.getD 1 0) = some d1 ∧ (d1 = .string ∨ ∃ e', d1 = .slice e') := by
    rcases hU with h | ⟨e', h⟩
    · exact ⟨_, h, .inl rfl⟩
    · exact ⟨_, h, .inr ⟨e', rfl⟩⟩
  simp only [effRun] at h
  cases hn : lenA x with
  | none => simp [hn] at h
  | some n =>
    simp only [hn] at h
    cases hel : elemsA σ (P.cellsOf e) n x with
    | none => simp [hel] at h
    | some new =>
      simp only [hel, appendA] at h
      have hlen : ∀ w, (Builtin.lenOf (a.eval xx)).run P w = .ok n w := fun w => lenA_ok hn hvx
      split at h
      · cases h
      · cases h
      rename_i info zr hI hZ
      split at h
      · cases h
      rename_i hcond
      simp only [not_or, ne_eq, Decidable.not_not, Bool.not_eq_eq_eq_not, Bool.not_true] at hcond
      obtain ⟨c1, c2, c3, c4⟩ := hcond
      simp only [Bool.not_eq_false] at c2 c4
      have hsz : P.cellsOf e = info.size := by simp [Program.cellsOf, hI]
      obtain ⟨i', zv, hi', hiz, hzv⟩ := zero_info hZ
      rw [hI] at hi'; cases hi'
      have hzs : zv.cells.size = P.cellsOf e := by rw [← Array.length_toList, ((hzv ρ).cells c4).length, c3]
      obtain ⟨C, hC1, hC2⟩ := elems_ok hs hvx hn (Nat.le_refl n) hel (w' := w) rfl
      obtain ⟨C', hC1', hC2'⟩ := elems_ok hs hvx hn (Nat.le_refl n) hel (w' := w.drew) rfl
      have hCs : C.size = n * P.cellsOf e := by rw [← Array.length_toList, hC2.length, c1]
      have hCs' : C'.size = n * P.cellsOf e := by rw [← Array.length_toList, hC2'.length, c1]
      rw [hsz] at hC1 hC1'
      cases s <;> simp only [reduceCtorEq] at h
      · -- a slice
        rename_i id off len cap
        have hvs0 := hvs
        simp only [VR] at hvs
        obtain ⟨l, c, off', hl, ev, hcap⟩ := hvs
        have hlc : len ≤ c := by
          cases cap <;> simp only at hcap
          · exact hcap.2.1
          · rcases hcap with hh | hh <;> omega
        have give : ∀ {v w'}, (Builtin.append_ ts o.type #[a.eval xs, a.eval xx]).run P w = .ok v w' → Gives P a o w v w' := by
          intro v w' hh
          refine builtin_gives ho ?_
          simp [builtin, hh]
        split at h
        · -- nothing to append
          rename_i hn0
          cases h
          subst hn0
          have hC0 : C = #[] := Array.eq_empty_of_size_eq_zero (by omega)
          subst hC0
          refine ⟨_, w, ρ, give ?_, hvs0, hs, Post.refl _ _ _⟩
          rw [ev]
          have := append_in e0 e1 hT hU hd hI hlen (ty := o.type) (A := ⟨l.b, l.base + off', none⟩) (sLen := len) (sCap := c) (w := w) (w' := w) (by omega) hC1 (by simp [storeCells])
          simpa using this
        rename_i hn0
        split at h
        · cases h
        rename_i hroom
        split at h
        rotate_left
        · cases h
        rename_i m z t e' fz wh hob
        split at h
        rotate_left
        · cases h
        rename_i hm
        have hCA := obj_cells hs hl hob
        obtain ⟨old, hold⟩ := cellsFrom_some (z := z) (t := t) (k := len * P.cellsOf e) (i := off) (fun j hj => by
          obtain ⟨x, _, g, _⟩ := hCA.cell (off + j) (by omega); exact ⟨x, g⟩)
        have hlo : loadC σ id off (len * P.cellsOf e) = some old := by simp [loadC, hob, hm, hold]
        have hol := cellsFrom_len hold
        have holdc : old.all AV.isCell = true := by
          rw [List.all_eq_true]
          intro y hy
          obtain ⟨j, hj, rfl⟩ := List.mem_iff_getElem.1 hy
          obtain ⟨y', g1, g2⟩ := cellsFrom_get hold j (by omega)
          obtain ⟨y'', _, k1, k2, _⟩ := hCA.cell (off + j) (by omega)
          rw [g1] at k1; cases k1
          rw [List.getElem?_eq_getElem hj] at g2; cases g2; exact k2
        obtain ⟨O, hO1, hO2⟩ := elems_ok hs hvs0 (x := .sl id off len cap) rfl (Nat.le_refl len) hlo (w' := w.drew) rfl
        have hOs : O.size = len * P.cellsOf e := by rw [← Array.length_toList, hO2.length, hol]
        rw [hsz] at hO1
        rw [ev] at hO1
        have grown : c < len + n → ∀ (σ₁ : AW) (z' : List AV) (t' : Tr AV) (fz' : Nat), Sim P ρ σ₁ w → Post ρ σ w ρ σ₁ w → Longer z t off (len * P.cellsOf e) new z' t' ((len + n) * P.cellsOf e) →
            EffGives P ρ σ w a o (.sl σ₁.next 0 (len + n) (.up (P.cellsOf e))) (σ₁.new (.cells ((len + n) * P.cellsOf e) z' t' e fz' false)) := by
          intro hc σ₁ z' t' fz' hs₁ hp₁ hL
          have hge := grownCap_ge w (len + n) c e
          have key := grow_new hs₁ (R := Builtin.zeroCells zv.cells (grownCap w (len + n) c e - (len + n))) hO2 hC2' holdc c2 (z' := z') (t' := t') (n' := (len + n) * P.cellsOf e) (e := e) (fz := fz') (by rw [hol, c1, Nat.add_mul]) (fun i hi => by
            obtain ⟨x, g1, g2⟩ := hL i hi
            refine ⟨x, g1, ?_⟩
            rw [hol]
            by_cases hh : i < len * P.cellsOf e
            · rw [if_pos hh] at g2 ⊢
              obtain ⟨y, k1, k2⟩ := cellsFrom_get hold i hh
              rw [k1] at g2; cases g2; exact k2
            · rw [if_neg hh] at g2 ⊢; exact g2)
          refine ⟨.slice (some ⟨w.heap.size, 0, none⟩) (len + n) (grownCap w (len + n) c e), _, _, give ?_, sl_grown σ₁ rfl hge (grown_ext hOs hCs' hzs hge), key.1, hp₁.trans key.2⟩
          rw [ev]
          exact append_grow e0 e1 hT hU hd hI hlen hiz hc (by omega) hO1 hC1'
        cases cap with
        | is c' =>
          simp only at h hcap
          obtain ⟨rfl, _, hoff⟩ := hcap
          split at h
          · rename_i hr
            simp only [Option.map_eq_some_iff, Prod.mk.injEq] at h
            obtain ⟨σ₂, hst, rfl, rfl⟩ := h
            have : off' = off := by rcases hoff with hh | hh <;> omega
            subst this
            obtain ⟨w', g1, g2, g3⟩ := storeC_ok hs hl hst hC2
            refine ⟨.slice (some ⟨l.b, l.base + off', none⟩) (len + n) c, w', ρ, give ?_, ?_, g2, g3⟩
            · rw [ev]
              refine append_in e0 e1 hT hU hd hI hlen (ty := o.type) hr hC1 ?_
              rw [add_none, ← hsz, Nat.add_assoc]; exact g1
            · simp only [VR]; exact ⟨l, c, off', hl, rfl, rfl, hr, .inl rfl⟩
          · rename_i hr
            rw [hold] at h
            cases h
            exact grown (by omega) σ _ _ _ hs (Post.refl _ _ _) (by
              have := longer_new (news := new) hold
              rw [c1, ← Nat.add_mul] at this; exact this)
        | up es =>
          simp only at h hcap
          split at h
          rotate_left
          · cases h
          rename_i hup
          obtain ⟨rfl, hfz, rfl⟩ := hup
          have dead := hs.put .dead hl hob rfl (fun es v hh => by cases hh) rfl (fun _ _ => rfl) trivial
          have main : ∀ (z' : List AV) (t' : Tr AV), Longer z t off (len * P.cellsOf e') new z' t' ((len + n) * P.cellsOf e') →
              EffGives P ρ σ w a o (.sl σ.next 0 (len + n) (.up (P.cellsOf e'))) ((σ.put id .dead).new (.cells ((len + n) * P.cellsOf e') z' t' e' (fz - off) false)) := by
            intro z' t' hL
            by_cases hr : len + n ≤ c
            · have hin : off' = off ∧ off + c * P.cellsOf e' ≤ l.ext := by
                rcases hcap with hh | hh
                · exact ⟨hh.1, hh.2.2⟩
                · omega
              obtain ⟨rfl, hext⟩ := hin
              have hmul : (len + n) * P.cellsOf e' ≤ c * P.cellsOf e' := Nat.mul_le_mul_right _ hr
              have hadd : (len + n) * P.cellsOf e' = len * P.cellsOf e' + new.length := by rw [c1, Nat.add_mul]
              obtain ⟨w', g1, g2, g3⟩ := up_in hs hl hob hm hfz hC2 c2 (by omega) hadd hL
              refine ⟨.slice (some ⟨l.b, l.base + off', none⟩) (len + n) c, w', _, give ?_, ?_, g2, g3⟩
              · rw [ev]
                refine append_in e0 e1 hT hU hd hI hlen (ty := o.type) hr hC1 ?_
                rw [add_none, ← hsz]; exact g1
              · simp only [VR]
                refine ⟨_, c, 0, by simp only [Rho.upd, if_true]; rfl, by simp, .inl ⟨rfl, hr, by simp only; omega⟩⟩
            · exact grown (by omega) (σ.put id .dead) z' t' _ dead.1 dead.2 hL
          split at h
          · rename_i hoff
            subst hoff
            cases h
            have hL := longer_set (news := new) (z := z) (t := t) (k := len * P.cellsOf e') (fun i hi => by
              obtain ⟨x, _, g, _⟩ := hCA.cell i (by omega); exact ⟨x, g⟩)
            rw [c1, ← Nat.add_mul] at hL
            exact main _ _ hL
          · rw [hold] at h
            cases h
            exact main _ _ (by
              have := longer_new (news := new) hold
              rw [c1, ← Nat.add_mul] at this; exact this)
      · -- nil
        simp only [VR] at hvs
        have give : ∀ {v w'}, (Builtin.append_ ts o.type #[a.eval xs, a.eval xx]).run P w = .ok v w' → Gives P a o w v w' := by
          intro v w' hh
          refine builtin_gives ho ?_
          simp [builtin, hh]
        split at h
        · rename_i hn0
          cases h
          subst hn0
          refine ⟨.slice none 0 0, w, ρ, give ?_, by simp [VR], hs, Post.refl _ _ _⟩
          rw [hvs]
          exact append_nil0 e0 e1 hT hU hd hI hlen (Nat.le_refl _) hC1
        rename_i hn0
        split at h
        · cases h
        rename_i hroom
        cases h
        have hge := grownCap_ge w (0 + n) 0 e
        have hcell : ∀ i, i < n * P.cellsOf e → ∃ x, cellAt new .nil i = some x ∧ if i < ([] : List AV).length then ([] : List AV)[i]? = some x else new[i - ([] : List AV).length]? = some x := by
          intro i hi
          refine ⟨new[i]'(by omega), by rw [cellAt_nil, Nat.mod_eq_of_lt (by omega)]; exact List.getElem?_eq_getElem (by omega), ?_⟩
          rw [if_neg (by simp)]
          simp only [List.length_nil, Nat.sub_zero]
          exact List.getElem?_eq_getElem (by omega)
        have key := grow_new hs (olds := []) (O := #[]) (R := Builtin.zeroCells zv.cells (grownCap w (0 + n) 0 e - (0 + n))) (by simp [VRs]) hC2' (by simp) c2 (z' := new) (t' := .nil) (n' := n * P.cellsOf e) (e := e) (fz := 0) (by simp [c1]) hcell
        refine ⟨.slice (some ⟨w.heap.size, 0, none⟩) n (grownCap w (0 + n) 0 e), _, _, give ?_, sl_grown σ rfl (by omega) (grown_ext (k := 0) (by simp) hCs' hzs hge), key.1, key.2⟩
        rw [hvs]
        have := append_grow e0 e1 hT hU hd hI hlen (ty := o.type) (base := none) (sLen := 0) (sCap := 0) (w := w) hiz (by omega) (by rw [Nat.zero_add]; omega) (O := #[]) (by simp [Builtin.firstCells]) hC1'
        simpa using this

end Pe

namespace Pe
open Go
variable {P : Program} {ρ : Rho} {fr : Fr} {a : Act} {w : World}

theorem bind_then {α β : Type} {P : Program} {w w1 : World} {m : Sem α} {a : α} {k : α → Sem β} (h : m.run P w = .ok a w1) : (m >>= k).run P w = (k a).run P w1 := by
  rw [Sem.run_bind, h, Result.andThen_ok]

theorem storeC_nil {σ σ' : AW} {id off : Nat} (h : storeC σ id off [] = some σ') : ∃ n z t e fz wh, σ.heap.get id = some (.cells n z t e fz wh) := by
  unfold storeC at h
  split at h
  · rename_i n z t e fz wh ho; exact ⟨n, z, t, e, fz, wh, ho⟩
  · cases h

theorem storeC_cells {σ σ' : AW} {id off : Nat} {us : List AV} (h : storeC σ id off us = some σ') : us.all AV.isCell = true := by
  unfold storeC at h
  split at h
  · split at h
    · rename_i hc; exact hc.2.2
    · cases h
  · cases h

theorem copy_ok {σ σ' : AW} (hs : Sim P ρ σ w) {o : Oper} {xd xx : Operand} {ts : Array TypeId} (ho : o.op = .call { callee := .builtin .copy, args := #[xd, xx], argTypes := ts }) (h2 : ts.size = 2) {e : TypeId} (hT : P.underlying (ts.getD 0 0) = some (.slice e))
    {d x u : AV} (hvd : VR ρ d (a.eval xd)) (hvx : VR ρ x (a.eval xx)) (h : effRun P σ (.copy e d x) = some (u, σ')) : EffGives P ρ σ w a o u σ' := by
  obtain ⟨t0, e0, hT⟩ : ∃ t0, ts[0]? = some t0 ∧ P.underlying t0 = _ := ⟨ts.getD 0 0, by simp [Array.getD_eq_getD_getElem?, h2], hT⟩
  simp only [effRun] at h
  split at h
  · cases h
  rename_i hI
  obtain ⟨info, hI⟩ : ∃ i, P.info? e = some i := by
    cases hh : P.info? e with
    | none => simp [hh] at hI
    | some i => exact ⟨i, rfl⟩
  have hsz : P.cellsOf e = info.size := by simp [Program.cellsOf, hI]
  cases hn : lenA x with
  | none => simp [hn] at h
  | some n =>
    cases hm : lenA d with
    | none => simp [hn, hm] at h
    | some m =>
      simp only [hn, hm] at h
      cases hel : elemsA σ (P.cellsOf e) (Nat.min n m) x with
      | none => simp [hel] at h
      | some cs =>
        simp only [hel] at h
        have hlen : (Builtin.lenOf (a.eval xx)).run P w = .ok n w := lenA_ok hn hvx
        obtain ⟨C, hC1, hC2⟩ := elems_ok (n := Nat.min n m) hs hvx hn (Nat.min_le_left n m) hel (w' := w) rfl
        rw [hsz] at hC1
        have give : ∀ {v w'}, (Builtin.copy_ ts o.type #[a.eval xd, a.eval xx]).run P w = .ok v w' → Gives P a o w v w' := by
          intro v w' hh
          refine builtin_gives ho ?_
          simp [builtin, hh]
        cases d <;> simp only [reduceCtorEq] at h
        · rename_i id off len cap
          simp only [lenA, Option.some.injEq] at hm
          subst hm
          simp only [Option.map_eq_some_iff, Prod.mk.injEq] at h
          obtain ⟨σ₂, hst, rfl, rfl⟩ := h
          simp only [VR] at hvd
          obtain ⟨l, c, off', hl, ev, hcap⟩ := hvd
          obtain ⟨w', g1, g2, g3⟩ := storeC_ok hs hl hst hC2
          have hst' : (storeCells ⟨l.b, l.base + off', none⟩ C.toList).run P w = .ok () w' := by
            have key : off' = off ∨ len = 0 := by
              cases cap <;> simp only at hcap
              · obtain ⟨h1, h2, h3⟩ := hcap
                rcases h3 with h3 | h3
                · exact .inl h3
                · right; omega
              · rcases hcap with h3 | h3
                · exact .inl h3.1
                · exact .inr h3.1
            rcases key with rfl | h0
            · exact g1
            · have hC0 : C.toList = [] := by
                have : cs.length = 0 := by
                  subst h0
                  have hmin : Nat.min n 0 = 0 := Nat.min_zero n
                  rw [hmin] at hel
                  cases x <;> simp only [elemsA, reduceCtorEq, Option.some.injEq] at hel
                  · subst hel; simp
                  · unfold loadC at hel
                    split at hel
                    · split at hel
                      · rw [Nat.zero_mul] at hel; simp only [cellsFrom, Option.some.injEq] at hel; subst hel; rfl
                      · cases hel
                    · cases hel
                  · subst hel; rfl
                exact List.eq_nil_of_length_eq_zero (by rw [hC2.length, this])
              rw [hC0] at g1 ⊢
              simp only [storeCells, Sem.run_pure, Result.ok.injEq, true_and] at g1 ⊢
              exact g1
          refine ⟨goInt (Nat.min n len), w', ρ, give ?_, by simp [VR, goInt], g2, g3⟩
          rw [ev]
          simp [Builtin.copy_, e0, run_under hT, hlen, Go.sizeOf, typeInfo, hI, hC1, hst']
        · simp only [lenA, Option.some.injEq] at hm
          subst hm
          simp only [Option.some.injEq, Prod.mk.injEq] at h
          obtain ⟨rfl, rfl⟩ := h
          simp only [VR] at hvd
          refine ⟨goInt 0, w, ρ, give ?_, by simp [VR, goInt], hs, Post.refl _ _ _⟩
          rw [hvd]
          have hmin : Nat.min n 0 = 0 := Nat.min_zero n
          rw [hmin] at hC1
          simp [Builtin.copy_, e0, run_under hT, hlen, Go.sizeOf, typeInfo, hI, hC1]

theorem run_setObj_iterS {r : Nat} {S : ByteArray} {pos : Nat} (o : Obj) (h : w.heap[r]? = some (.stringIter S pos)) : (setObj r o).run P w = .ok () (w.putObj r o) := by
  simp [setObj, Sem.run, h, World.putObj]

theorem nextS_ok {σ σ' : AW} (hs : Sim P ρ σ w) {o : Oper} {x : Operand} (ho : o.op = .next x true) {it : Nat} {u : AV} (hx : VR ρ (.ptr it 0) (a.eval x)) (h : effRun P σ (.nextS it) = some (u, σ')) : EffGives P ρ σ w a o u σ' := by
  simp only [VR] at hx
  obtain ⟨l, hl, e1⟩ := hx
  simp only [effRun] at h
  split at h
  · rename_i s pos hob
    obtain ⟨_, o2, k1, k2, k3⟩ := hs.obj it l hl
    rw [hob] at k1; cases k1
    obtain ⟨hb, S, g1, rfl⟩ := k3
    rw [hb] at e1
    have hS : (⟨S.data.toList.toArray⟩ : ByteArray) = S := by simp
    have hlen : S.data.toList.length = S.size := by rw [Array.length_toList]; rfl
    have hg : (getObj l.b).run P w = .ok (.stringIter S pos) w := by simp [getObj, Sem.run, g1]
    split at h
    · rename_i hp
      rw [hS] at h
      simp only [Option.some.injEq, Prod.mk.injEq] at h
      obtain ⟨rfl, rfl⟩ := h
      have key := hs.put (w' := w.putObj l.b (.stringIter S (pos + (Utf8.decode S pos).2))) (.siter S.data.toList (pos + (Utf8.decode S pos).2)) hl hob rfl (fun es v hh => by cases hh) (by simp) (fun b hbb => World.putObj_heap_other hbb)
        ⟨hb, S, World.putObj_heap_same (k2 rfl), rfl⟩
      refine ⟨.tuple #[.bool true, goInt pos, .int .i32 (Utf8.decode S pos).1], _, ρ, .inl ?_, ?_, key.1, key.2⟩
      · have hp' : pos < S.size := by omega
        simp only [execOp, ho, e1, Instr.next, Nat.add_zero, Sem.run_bind, hg, Result.andThen_ok, if_pos hp', run_setObj_iterS _ g1, Sem.run_pure]
      · simp [VR, VRs, goInt]
    · rename_i hp
      simp only [Option.some.injEq, Prod.mk.injEq] at h
      obtain ⟨rfl, rfl⟩ := h
      refine ⟨.tuple #[.bool false], w, ρ, .inl ?_, by simp [VR, VRs], hs, Post.refl _ _ _⟩
      have hp' : ¬ pos < S.size := by omega
      simp only [execOp, ho, e1, Instr.next, Nat.add_zero, Sem.run_bind, hg, Result.andThen_ok, if_neg hp', Sem.run_pure]
  · cases h

theorem run_loadBytesI : ∀ (ns : List Int) (A : Addr) (acc : ByteArray), A.spot = none → (∀ j x, ns[j]? = some x → w.cell? (A.add j) = some (.int .u8 x)) →
    (loadBytes A acc ns.length).run P w = .ok ⟨acc.data ++ (ns.map fun n => UInt8.ofNat n.toNat).toArray⟩ w
  | [], A, acc, _, _ => by simp [loadBytes]
  | x :: l, A, acc, hA, h => by
    have h0 : w.cell? A = some (.int .u8 x) := by
      have := h 0 x rfl
      simpa [Addr.add] using this
    have hA1 : (A.add 1).spot = none := by unfold Addr.add; simp
    have ih := run_loadBytesI l (A.add 1) (acc.push x.toNat.toUInt8) hA1 (fun j y hy => by
      have := h (j + 1) y (by simpa using hy)
      have e : (A.add 1).add j = A.add (j + 1) := by
        unfold Addr.add
        by_cases hj : j = 0
        · subst hj; simp
        · simp [hj]; omega
      rw [e]; exact this)
    simp only [List.length_cons, loadBytes, Sem.run_bind, run_load, h0, Result.andThen]
    rw [ih]
    congr 1
    apply ByteArray.ext
    simp [ByteArray.push]

/-- unsafe.String: the bytes, which may be written no more. -/
theorem share_ok {σ σ' : AW} (hs : Sim P ρ σ w) {o : Oper} {xp xn : Operand} {ts : Array TypeId} (ho : o.op = .call { callee := .builtin .unsafeString, args := #[xp, xn], argTypes := ts }) (h2 : ts.size = 2) {t : TypeId} (hT : P.underlying (ts.getD 0 0) = some (.pointer t))
    {id off : Nat} {k : IntKind} {n : Int} {u : AV} (hp : VR ρ (.ptr id off) (a.eval xp)) (hn : VR ρ (.int k n) (a.eval xn)) (h0 : 0 < n) (h : effRun P σ (.share id off n.toNat t) = some (u, σ')) : EffGives P ρ σ w a o u σ' := by
  obtain ⟨t0, e0, hT⟩ : ∃ t0, ts[0]? = some t0 ∧ P.underlying t0 = _ := ⟨ts.getD 0 0, by simp [Array.getD_eq_getD_getElem?, h2], hT⟩
  simp only [VR] at hp hn
  obtain ⟨l, hl, ep⟩ := hp
  simp only [effRun] at h
  split at h
  · rename_i N z tr e fz wh hob
    split at h
    · rename_i hc
      obtain ⟨c1, c2, c3, c4⟩ := hc
      split at h
      · rename_i cs hcs
        simp only [Option.map_eq_some_iff, Prod.mk.injEq] at h
        obtain ⟨bs, hbs, rfl, rfl⟩ := h
        have hCA := obj_cells hs hl hob
        obtain ⟨M, hM1, hM2, hM3⟩ := hCA.size
        have hle := hCA.le
        obtain ⟨vs, g1, g2, g3⟩ := cells_read hCA hcs c1
        obtain ⟨ns, rfl, rfl⟩ := bytesOf_vals hbs g1
        have hnl : ns.length = n.toNat := by simpa using g2
        have hb : l.b < w.heap.size := by
          obtain ⟨_, o2, k1, k2, _⟩ := hs.obj id l hl
          rw [hob] at k1; cases k1; exact k2 rfl
        have hread := run_loadBytesI (P := P) (w := w) ns ⟨l.b, l.base + off, none⟩ .empty rfl (fun j x hj => by
          rw [add_none]
          have := g3 j (.int .u8 x) (by simp [hj])
          simpa [Nat.add_assoc] using this)
        have hlies : liesAt P P.depth e (M / P.cellsOf e) (l.base + off) t n.toNat = true := by
          have hd : P.depth = (2 * (P.types.size + Made.depth) + 1) + 1 := rfl
          rw [hd]
          simp only [liesAt, Bool.or_eq_true]
          left
          rw [hd]
          have : l.base + off + n.toNat ≤ M := by omega
          simp [rowAt, c2, sameLayout, c3, this, Nat.mod_one]
        have hva : (variablesAt ⟨l.b, l.base + off, none⟩ t n.toNat).run P w = .ok true w := by
          simp [variablesAt, hM1, hlies]
        have heap' : ∀ b, b ≠ l.b → (w.freeze ⟨l.b, l.base + off, none⟩ n.toNat).heap[b]? = w.heap[b]? := by
          intro b hbb
          unfold World.freeze
          split
          · rfl
          · simp only [Array.getElem?_modify]; rw [if_neg (by omega)]
        have hsize : (w.freeze ⟨l.b, l.base + off, none⟩ n.toNat).heap.size = w.heap.size := by
          unfold World.freeze; split <;> simp
        have hshape : (w.freeze ⟨l.b, l.base + off, none⟩ n.toNat).shape? l.b = w.shape? l.b := by
          unfold World.freeze
          split
          · rfl
          · simp only [World.shape?, Array.getElem?_modify, if_true]
            cases hh : w.heap[l.b]? with
            | none => simp
            | some ob => cases ob <;> simp
        have hcell : ∀ j, (w.freeze ⟨l.b, l.base + off, none⟩ n.toNat).cell? ⟨l.b, j, none⟩ = w.cell? ⟨l.b, j, none⟩ := by
          intro j
          unfold World.freeze
          split
          · rfl
          · simp only [World.cell?, Array.getElem?_modify, if_true]
            cases hh : w.heap[l.b]? with
            | none => simp
            | some ob => cases ob <;> simp
        have htop : fzShare N fz off n.toNat ≤ N → ∀ fr, frOf (w.freeze ⟨l.b, l.base + off, none⟩ n.toNat) l.b = some fr → fr.1 ≠ fr.2 → fr.2 ≤ l.base + fzShare N fz off n.toNat := by
          intro hle' fr hfr hne
          unfold fzShare at hle' ⊢
          by_cases hfz : fz ≤ N
          · rw [if_pos hfz] at hle' ⊢
            have ht := hCA.top hfz
            have hn0 : ¬ n.toNat = 0 := by omega
            unfold World.freeze at hfr
            rw [if_neg hn0] at hfr
            simp only [frOf, Array.getElem?_modify, if_true] at hfr ht
            cases hh : w.heap[l.b]? with
            | none => rw [hh] at hfr; simp at hfr
            | some ob =>
              rw [hh] at hfr ht
              cases ob <;> simp only [Option.map_some, reduceCtorEq] at hfr
              rename_i C el fr1
              obtain ⟨lo, hi⟩ := fr1
              simp only [Option.some.injEq] at hfr
              have ht' := ht _ rfl
              simp only at ht' hfr
              by_cases hlh : lo = hi
              · rw [if_pos (by simpa using hlh)] at hfr
                subst hfr
                simp only
                split <;> omega
              · rw [if_neg (by simpa using hlh)] at hfr
                subst hfr
                have := ht' hlh
                simp only
                split <;> omega
          · rw [if_neg hfz] at hle'; omega
        have hio : SameIO w (w.freeze ⟨l.b, l.base + off, none⟩ n.toNat) := by
          unfold World.freeze
          split <;> exact ⟨rfl, rfl⟩
        have key := hs.put (hio := hio) (w' := w.freeze ⟨l.b, l.base + off, none⟩ n.toNat) (.cells N z tr e (fzShare N fz off n.toNat) wh) hl hob rfl (fun es v hh => by cases hh) hsize heap'
          ⟨⟨M, by rw [hshape]; exact hM1, hM2, hM3⟩, hle, fun i hi => by
            obtain ⟨x, v, k1, k2, k3, k4⟩ := hCA.cell i hi
            exact ⟨x, v, k1, k2, by rw [hcell]; exact k3, k4⟩, htop⟩
        refine ⟨.string ⟨(ns.map fun n => UInt8.ofNat n.toNat).toArray⟩, _, ρ, builtin_gives ho ?_, ?_, key.1, key.2⟩
        · have hmax : IntKind.i64.max = 9223372036854775807 := rfl
          have n1 : ¬ n < 0 := by omega
          have n2 : ¬ (9223372036854775807 < n) := by omega
          have n3 : ¬ n = 0 := by omega
          rw [hnl] at hread
          have hrun : (Builtin.unsafeString_ ts o.type #[.pointer (some ⟨l.b, l.base + off, none⟩), .int k n]).run P w = .ok (.string ⟨(ns.map fun n => UInt8.ofNat n.toNat).toArray⟩) (w.freeze ⟨l.b, l.base + off, none⟩ n.toNat) := by
            refine (bind_then (m := asInt (.int k n)) (a := n) (w1 := w) (by simp [asInt, asIntOf])).trans ?_
            simp [hmax, e0, n1, n2, n3, elemOf, run_under hT, hva, hread]
          show (builtin .unsafeString ts o.type _ (#[xp, xn].map a.eval)).run P w = _
          simp only [List.map_toArray, List.map_cons, List.map_nil, ep, hn, builtin]
          simp [hrun]
        · simp only [VR]; exact ⟨_, rfl, rfl⟩
      · cases h
    · cases h
  · cases h

end Pe

namespace Pe
open Go
variable {P : Program} {ρ : Rho} {fr : Fr} {a : Act} {w : World}

theorem beqBytes_comm (a b : List UInt8) : beqBytes a b = beqBytes b a := by
  rw [beqBytes_eq, beqBytes_eq]; exact Bool.beq_comm

theorem eqCell_comm (x y : AV) : eqCell x y = eqCell y x := by
  cases x <;> cases y <;> simp only [eqCell]
  · rename_i k n k' n'
    by_cases h : k = k'
    · subst h; simp only [if_true, Option.some.injEq]; exact Bool.beq_comm
    · rw [if_neg h, if_neg (fun e => h e.symm)]
  · simp only [Option.some.injEq]; exact Bool.beq_comm
  · rw [beqBytes_comm]

theorem eqCells_comm : ∀ (x y : List AV), eqCells x y = eqCells y x
  | [], [] => rfl
  | [], _ :: _ => rfl
  | _ :: _, [] => rfl
  | a :: x, b :: y => by
    simp only [eqCells]
    rw [eqCell_comm a b, eqCells_comm x y]

theorem sameKind_comm (x y : AV) : sameKind x y = sameKind y x := by
  cases x <;> cases y <;> simp only [sameKind]
  rename_i k n k' n'
  exact decide_eq_decide.2 eq_comm

theorem sameKinds_comm : ∀ (x y : List AV), sameKinds x y = sameKinds y x
  | [], [] => rfl
  | [], _ :: _ => rfl
  | _ :: _, [] => rfl
  | a :: x, b :: y => by
    simp only [sameKinds]
    rw [sameKind_comm a b, sameKinds_comm x y]

theorem eqKey_comm (x y : AV) : findK.eqKey x y = findK.eqKey y x := by
  cases x <;> cases y <;> simp only [findK.eqKey, eqCell_comm]
  rw [sameKinds_comm, eqCells_comm]

theorem putK_none {k v : AV} : ∀ {es : List (AV × AV)}, findK k es = some none → putK k v es = some (es ++ [(k, v)])
  | [], _ => rfl
  | (k', v') :: es, h => by
    simp only [findK] at h
    simp only [putK]
    split at h
    · cases h
    · simp [putK_none h]
    · cases h

theorem putK_some {k v : AV} : ∀ {es es' : List (AV × AV)}, putK k v es = some es' → keysApart es →
    (findK k es = some none ∧ es' = es ++ [(k, v)]) ∨ ∃ pre v0 post, es = pre ++ (k, v0) :: post ∧ es' = pre ++ (k, v) :: post ∧ findK k es = some (some v0) ∧ findK.eqKey k k = some true ∧ ∀ kv ∈ pre ++ post, findK.eqKey k kv.1 = some false
  | [], es', h, _ => by
    simp only [putK, Option.some.injEq] at h; subst h
    exact .inl ⟨rfl, rfl⟩
  | (k', v') :: es, es', h, ha => by
    simp only [putK] at h
    simp only [keysApart] at ha
    split at h
    · rename_i hk
      have e := eqKey_eq hk
      subst e
      cases h
      exact .inr ⟨[], v', es, rfl, rfl, by simp only [findK, hk], hk, fun kv hkv => (ha.1 kv (by simpa using hkv)).1⟩
    · rename_i hk
      simp only [Option.map_eq_some_iff] at h
      obtain ⟨es2, h2, rfl⟩ := h
      rcases putK_some h2 ha.2 with ⟨h3, rfl⟩ | ⟨pre, v0, post, rfl, rfl, h3, h4, h5⟩
      · exact .inl ⟨by simp only [findK, hk, h3], rfl⟩
      · refine .inr ⟨(k', v') :: pre, v0, post, rfl, rfl, by simp only [findK, hk, h3], h4, fun x hx => ?_⟩
        rw [List.cons_append] at hx
        rcases List.mem_cons.1 hx with rfl | hx
        · exact hk
        · exact h5 x hx
    · cases h

theorem keysApart_iff {es : List (AV × AV)} : keysApart es ↔ (es.map Prod.fst).Pairwise fun x y => findK.eqKey x y = some false := by
  induction es with
  | nil => simp [keysApart]
  | cons kv es ih =>
    simp only [keysApart, List.map_cons, List.pairwise_cons, ih, List.mem_map]
    refine and_congr ⟨fun h x ⟨y, hy, e⟩ => by rw [← e]; exact (h y hy).1, fun h y hy => ⟨h _ ⟨y, hy, rfl⟩, by rw [eqKey_comm]; exact h _ ⟨y, hy, rfl⟩⟩⟩ Iff.rfl

theorem scalar_one {x : AV} {v u : Value} (hx : VR ρ x v) (hy : VR ρ x u) (h : sameKind x x = true) : v = u := by
  cases x <;> simp only [sameKind, decide_true, reduceCtorEq] at h <;> simp only [VR] at hx hy
  · rw [hx, hy]
  · rw [hx, hy]
  · obtain ⟨s, rfl, rfl⟩ := hx
    obtain ⟨t, rfl, h2⟩ := hy
    congr 1
    apply ByteArray.ext
    exact (Array.toList_inj.1 h2).symm

theorem scalars_one : ∀ {xs : List AV} {vs us : List Value}, VRs ρ xs vs → VRs ρ xs us → sameKinds xs xs = true → vs = us
  | [], _, _, h, h', _ => by rw [VRs_nil.1 h, VRs_nil.1 h']
  | x :: xs, _, _, h, h', hk => by
    obtain ⟨v, vs, rfl, h1, h2⟩ := VRs_cons.1 h
    obtain ⟨u, us, rfl, h3, h4⟩ := VRs_cons.1 h'
    simp only [sameKinds, Bool.and_eq_true] at hk
    rw [scalar_one h1 h3 hk.1, scalars_one h2 h4 hk.2]

theorem key_one {k : AV} (hk : findK.eqKey k k = some true) {v u : Value} (hv : VR ρ k v) (hu : VR ρ k u) : v = u := by
  cases k
  case agg cs0 =>
    simp only [findK.eqKey] at hk
    split at hk
    · rename_i hs
      simp only [VR] at hv hu
      obtain ⟨cs, rfl, h1⟩ := hv
      obtain ⟨cs', rfl, h2⟩ := hu
      congr 1
      exact Array.toList_inj.1 (scalars_one h1 h2 hs)
    · cases hk
  all_goals exact scalar_one hv hu (eqCell_kind hk)

theorem sameBits_scalar {x : AV} {v : Value} (hx : VR ρ x v) (h : sameKind x x = true) (n : Nat) : Instr.sameBits n v v = true := by
  cases x <;> simp only [sameKind, decide_true, reduceCtorEq] at h <;> simp only [VR] at hx
  · subst hx; simp [Instr.sameBits]
  · subst hx; simp [Instr.sameBits]
  · obtain ⟨s, rfl, _⟩ := hx
    have : (s == s) = true := by rw [beq_toListBytes]; simp
    simp [Instr.sameBits, this]

theorem sameBits_all : ∀ {xs : List AV} {vs : List Value}, VRs ρ xs vs → sameKinds xs xs = true → ∀ n, (vs.zip vs).all (fun p => Instr.sameBits n p.1 p.2) = true
  | [], _, h, _, n => by rw [VRs_nil.1 h]; rfl
  | x :: xs, _, h, hk, n => by
    obtain ⟨v, vs, rfl, h1, h2⟩ := VRs_cons.1 h
    simp only [sameKinds, Bool.and_eq_true] at hk
    simp only [List.zip_cons_cons, List.all_cons, Bool.and_eq_true]
    exact ⟨sameBits_scalar h1 hk.1 n, sameBits_all h2 hk.2 n⟩

theorem sameBits_key {k : AV} (hk : findK.eqKey k k = some true) {v : Value} (hv : VR ρ k v) : Instr.sameBits 10000 v v = true := by
  cases k
  case agg cs0 =>
    simp only [findK.eqKey] at hk
    split at hk
    · rename_i hs
      simp only [VR] at hv
      obtain ⟨cs, rfl, h1⟩ := hv
      have := sameBits_all h1 hs 9999
      simp only [Instr.sameBits, BEq.rfl, Bool.true_and]
      exact this
    · cases hk
  all_goals exact sameBits_scalar hv (eqCell_kind hk) _

theorem perm_mid {α : Type} {L1 L2 A B : List α} {x : α} (h : (L1 ++ x :: L2).Perm (A ++ x :: B)) (y : α) : (L1 ++ y :: L2).Perm (A ++ y :: B) := by
  have h1 : (x :: (L1 ++ L2)).Perm (x :: (A ++ B)) := (List.perm_middle.symm.trans h).trans List.perm_middle
  have h2 := h1.cons_inv
  exact (List.perm_middle.trans (h2.cons y)).trans List.perm_middle.symm

theorem modify_mid {α : Type} (f : α → α) (x : α) (B : List α) : ∀ (A : List α), (A ++ x :: B).modify A.length f = A ++ f x :: B
  | [] => by simp [List.modify]
  | y :: A => by simp [modify_mid f x B A]

theorem mapPut_ok {σ σ' : AW} (hs : Sim P ρ σ w) {o : Oper} {t kt et : TypeId} {xm xk xv : Operand} (ho : o.op = .mapUpdate t xm xk xv ∨ o.op = .insert t xm xk xv) (hT : P.underlying t = some (.map kt et)) {m : Nat} {k v u : AV} (hk : keyFits P kt k = true)
    (hm : VR ρ (.map m) (a.eval xm)) (hkv : VR ρ k (a.eval xk)) (hvv : VR ρ v (a.eval xv)) (h : effRun P σ (.mapPut m k v) = some (u, σ')) : EffGives P ρ σ w a o u σ' := by
  simp only [VR] at hm
  obtain ⟨l, hl, e1⟩ := hm
  simp only [effRun] at h
  split at h
  · rename_i es ver hob
    simp only [Option.map_eq_some_iff, Prod.mk.injEq] at h
    obtain ⟨es', hput, rfl, rfl⟩ := h
    obtain ⟨ES, ck, g1, hmr⟩ := obj_map hs hl hob
    have hlt : l.b < w.heap.size := by
      obtain ⟨_, o2, k1, k2, _⟩ := hs.obj m l hl
      rw [hob] at k1; cases k1; exact k2 rfl
    obtain ⟨dk, hdk⟩ : ∃ d, P.underlying kt = some d := by
      cases hh : P.underlying kt with
      | some d => exact ⟨d, rfl⟩
      | none => cases k <;> simp [keyFits, scalarFits, hh] at hk
    have hset : ∀ ob : Obj, (setObj l.b ob).run P w = .ok () (w.putObj l.b ob) := by
      intro ob; simp [setObj, Sem.run, g1, World.putObj]
    have done : ∀ (ES' : Array MapEntry) (ck' : Nat), (Instr.mapUpdate t (a.eval xm) (a.eval xk) (a.eval xv)).run P w = .ok () (w.putObj l.b (.map ES' ck')) → MapRel ρ es' ES' ck' →
        EffGives P ρ σ w a o (.tup []) (σ.put m (.map es' (ver + 1))) := by
      intro ES' ck' hr hmr'
      have key := hs.put (w' := w.putObj l.b (.map ES' ck')) (.map es' (ver + 1)) hl hob rfl (fun es0 v0 hh => by cases hh; exact ⟨es', ver + 1, rfl, by omega⟩) (by simp) (fun b hb => World.putObj_heap_other hb) ⟨ES', ck', World.putObj_heap_same hlt, hmr'⟩
      refine ⟨undef, _, ρ, .inr ⟨?_, rfl⟩, by simp [VR, undef, VRs], key.1, key.2⟩
      rcases ho with ho | ho <;> simp [execOp, ho, hr]
    obtain ⟨ha, ⟨L, hp, hL⟩, hborn, hnd⟩ := hmr
    rcases putK_some hput ha with ⟨hf, rfl⟩ | ⟨pre, v0, post, rfl, rfl, hf, hkk, hall⟩
    · -- a new entry
      rcases map_find (P := P) (w := w) hdk hk hkv ⟨ha, ⟨L, hp, hL⟩, hborn, hnd⟩ hf with ⟨_, k1, _⟩ | ⟨_, _, _, _, hh, _⟩
      rotate_left
      · cases hh
      refine done (ES.push { key := a.eval xk, val := a.eval xv, born := ck }) (ck + 1) ?_ ⟨?_, ⟨L ++ [{ key := a.eval xk, val := a.eval xv, born := ck }], ?_, ?_⟩, ?_, ?_⟩
      · simp [Instr.mapUpdate, run_under hT, e1, run_getObj_map g1, checkKey_run _ hk hkv, k1, hset]
      · rw [keysApart_iff] at ha ⊢
        rw [List.map_append, List.pairwise_append]
        refine ⟨ha, by simp, fun x hx y hy => ?_⟩
        simp only [List.map_cons, List.map_nil, List.mem_singleton] at hy
        subst hy
        obtain ⟨kv, hkv', rfl⟩ := List.mem_map.1 hx
        rw [eqKey_comm]; exact findK_none hf kv hkv'
      · rw [Array.toList_push]; exact hp.append_right _
      · exact hL.append ⟨_, _, rfl, hkv, hvv, rfl⟩
      · intro e he
        rw [Array.toList_push] at he
        rcases List.mem_append.1 he with he | he
        · have := hborn e he; omega
        · rw [List.mem_singleton] at he; subst he; simp
      · rw [Array.toList_push, List.map_append, List.nodup_append]
        refine ⟨hnd, by simp, fun x hx y hy => ?_⟩
        simp only [List.map_cons, List.map_nil, List.mem_singleton] at hy
        subst hy
        obtain ⟨e, he, rfl⟩ := List.mem_map.1 hx
        have := hborn e he; omega
    · -- one that is there
      rcases map_find (P := P) (w := w) hdk hk hkv ⟨ha, ⟨L, hp, hL⟩, hborn, hnd⟩ hf with ⟨hh, _⟩ | ⟨v1, A, e, B, _, hES, k1, k2, k3⟩
      · cases hh
      obtain ⟨L1, L', rfl, q1, q2⟩ := hL.split
      obtain ⟨e0, L2, rfl, q3, q4, q5⟩ := q2
      have he0 : e0 = e := by
        have : e ∈ L1 ++ e0 :: L2 := hp.mem_iff.2 (by rw [hES]; simp)
        rcases List.mem_append.1 this with hh | hh
        · obtain ⟨kv, m1, m2, _⟩ := q1.mem e hh
          exact (eqKey_false (hall kv (by simp [m1])) k2 m2).elim
        · rcases List.mem_cons.1 hh with hh | hh
          · exact hh.symm
          · obtain ⟨kv, m1, m2, _⟩ := q5.mem e hh
            exact (eqKey_false (hall kv (by simp [m1])) k2 m2).elim
      subst he0
      have hkey : e0.key = a.eval xk := key_one hkk k2 hkv
      have hAl : ES[A.length]? = some e0 := by rw [← Array.getElem?_toList, hES]; simp
      have hmod : (ES.modify A.length fun e => { e with key := a.eval xk, val := a.eval xv }).toList = A ++ { e0 with key := a.eval xk, val := a.eval xv } :: B := by
        rw [Array.toList_modify, hES]; exact modify_mid _ _ _ _
      refine done (ES.modify A.length fun e => { e with key := a.eval xk, val := a.eval xv }) ck ?_ ⟨?_, ⟨L1 ++ { e0 with key := a.eval xk, val := a.eval xv } :: L2, ?_, ?_⟩, ?_, ?_⟩
      · have hsb := sameBits_key hkk hkv
        simp [Instr.mapUpdate, run_under hT, e1, run_getObj_map g1, checkKey_run _ hk hkv, k1, hset, hAl, hkey, Instr.keyThatStays, hsb]
      · rw [keysApart_iff] at ha ⊢
        simpa using ha
      · rw [hmod]; rw [hES] at hp; exact perm_mid hp _
      · exact q1.append ⟨_, _, rfl, hkv, hvv, q5⟩
      · intro e he
        rw [hmod] at he
        rcases List.mem_append.1 he with he | he
        · exact hborn e (by rw [hES]; simp [he])
        · rcases List.mem_cons.1 he with rfl | he
          · exact hborn e0 (by rw [hES]; simp)
          · exact hborn e (by rw [hES]; simp [he])
      · rw [hmod]; rw [hES] at hnd; simpa using hnd
  · cases h

end Pe

namespace Pe
open Go
variable {P : Program} {ρ : Rho} {fr : Fr} {a : Act} {w : World} {σ : AW} {o : Oper}

def DefRel (ρ : Rho) (d : ADef) (D : Deferred) : Prop :=
  match d.fv with
  | .func f xs c => ∃ a' c' : Array Value, D = { target := .fn (.func f) c', args := a' } ∧ VRs ρ (xs ++ d.args) a'.toList ∧ VRs ρ c c'.toList
  | _ => False

/-- What the model does, where the evaluator does 'act'. -/
def ActOk (P : Program) (ρ : Rho) (σ : AW) (a : Act) (o : Oper) (w : World) : Act1 → Prop
  | .val u => ∃ v, Gives P a o w v w ∧ VR ρ u v
  | .rd r => ∀ u, rdVal P σ r = some u → ∃ v, Gives P a o w v w ∧ VR ρ u v
  | .mk ob sl mp => MkGives P ρ w a o ob sl mp
  | .eff e => ∀ u σ', effRun P σ e = some (u, σ') → EffGives P ρ σ w a o u σ'
  | .call fv xs => ∃ args : Array Value, VRs ρ xs args.toList ∧ (match fv with
    | .func f [] [] => (execOp a.eval o).run P w = (callFunc f args).run P w
    | .yield l => ∃ loc, ρ l = some loc ∧ (execOp a.eval o).run P w = (Instr.yield loc.b args).run P w
    | _ => False)
  | .pan u => ∃ v, (execOp a.eval o).run P w = .halt (.panic v) w ∧ VR ρ u v
  | .dfr d => ∃ D c, o.op = .defer c ∧ (resolve a.eval c o.type).run P w = .ok D w ∧ DefRel ρ d D
  | .rcv => (execOp a.eval o).run P w = .ok .recover w
  | .nextM it => ∃ x l, o.op = .next x false ∧ ρ it = some l ∧ a.eval x = .pointer (some ⟨l.b, l.base, none⟩)
  | .rngM m => ∀ es ver, σ.heap.get m = some (.map es ver) → EffGives P ρ σ w a o (.ptr σ.next 0) (σ.new (.miter (some (m, ver)) []))

theorem evals1 {xs : Array Operand} {u : AV} (h : fr.evals xs.toList = some [u]) : ∃ x, xs = #[x] ∧ fr.eval x = some u := by
  obtain ⟨l⟩ := xs
  match l, h with
  | [x], h =>
    simp only [Fr.evals] at h
    split at h
    · rename_i v vs h1 h2; cases h; exact ⟨x, rfl, h1⟩
    · cases h
  | [], h => simp [Fr.evals] at h
  | x :: y :: l, h =>
    simp only [Fr.evals] at h
    split at h
    · rename_i v vs h1 h2
      split at h2
      · cases h2; cases h
      · cases h2
    · cases h

theorem evals2 {xs : Array Operand} {u v : AV} (h : fr.evals xs.toList = some [u, v]) : ∃ x y, xs = #[x, y] ∧ fr.eval x = some u ∧ fr.eval y = some v := by
  obtain ⟨l⟩ := xs
  match l, h with
  | [], h => simp [Fr.evals] at h
  | x :: l, h =>
    simp only [Fr.evals] at h
    split at h
    · rename_i v' vs h1 h2
      cases h
      obtain ⟨y, hy, h3⟩ := evals1 (xs := l.toArray) (by simpa using h2)
      have : l = [y] := by simpa using congrArg Array.toList hy
      subst this
      exact ⟨x, y, rfl, h1, h3⟩
    · cases h

theorem cap_ok {x : Operand} {ts : Array TypeId} (ho : o.op = .call { callee := .builtin .cap, args := #[x], argTypes := ts }) (h1 : ts.size = 1) {e : TypeId} (hT : P.underlying (ts.getD 0 0) = some (.slice e)) {id off len c : Nat}
    (hx : VR ρ (.sl id off len (.is c)) (a.eval x)) : ∃ v, Gives P a o w v w ∧ VR ρ (.int .i64 c) v := by
  obtain ⟨t0, e0, hT⟩ : ∃ t0, ts[0]? = some t0 ∧ P.underlying t0 = _ := ⟨ts.getD 0 0, by simp [Array.getD_eq_getD_getElem?, h1], hT⟩
  simp only [VR] at hx
  obtain ⟨l, c', o', hl, e1, rfl, _, _⟩ := hx
  refine ⟨goInt c', builtin_gives ho ?_, by simp [VR, goInt]⟩
  show (builtin .cap ts o.type _ (#[x].map a.eval)).run P w = _
  simp [builtin, Builtin.cap_, e0, run_under hT, e1]

theorem capNil_ok {x : Operand} {ts : Array TypeId} (ho : o.op = .call { callee := .builtin .cap, args := #[x], argTypes := ts }) (h1 : ts.size = 1) {e : TypeId} (hT : P.underlying (ts.getD 0 0) = some (.slice e))
    (hx : VR ρ .nilsl (a.eval x)) : ∃ v, Gives P a o w v w ∧ VR ρ (.int .i64 0) v := by
  obtain ⟨t0, e0, hT⟩ : ∃ t0, ts[0]? = some t0 ∧ P.underlying t0 = _ := ⟨ts.getD 0 0, by simp [Array.getD_eq_getD_getElem?, h1], hT⟩
  simp only [VR] at hx
  refine ⟨goInt 0, builtin_gives ho ?_, by simp [VR, goInt]⟩
  show (builtin .cap ts o.type _ (#[x].map a.eval)).run P w = _
  simp [builtin, Builtin.cap_, e0, run_under hT, hx]

theorem len_ok {x : Operand} {ts : Array TypeId} (ho : o.op = .call { callee := .builtin .len, args := #[x], argTypes := ts }) (h1 : ts.size = 1) {p u : AV}
    (h : (match P.underlying (ts.getD 0 0), p with
      | some .string, .str s => some (AV.int .i64 s.length)
      | some (.slice _), .nilsl => some (.int .i64 0)
      | some (.slice _), .sl _ _ n _ => some (.int .i64 n)
      | some (.array n _), _ => some (.int .i64 n)
      | some (.map _ _), .nilmap => some (.int .i64 0)
      | _, _ => none) = some u) (hx : VR ρ p (a.eval x)) : ∃ v, Gives P a o w v w ∧ VR ρ u v := by
  have e0 : ∃ t0, ts[0]? = some t0 := ⟨ts[0], by simp [h1]⟩
  obtain ⟨t0, e0⟩ := e0
  obtain ⟨r, g1, g2⟩ := lenV_ok (P := P) (w := w) h e0 hx o.type
  refine ⟨r, builtin_gives ho ?_, g2⟩
  show (builtin .len ts o.type _ (#[x].map a.eval)).run P w = _
  simp [builtin, g1]

theorem minmax_ok {b : Builtin} {f : Int → Int → Int} (hb : (b = .min ∧ f = fun a b => if b < a then b else a) ∨ (b = .max ∧ f = fun a b => if b > a then b else a)) {args : Array Operand} {ts : Array TypeId} (ho : o.op = .call { callee := .builtin b, args := args, argTypes := ts })
    {k : IntKind} {n : Int} {xs : List AV} {u : AV} (hx : VRs ρ (.int k n :: xs) (args.map a.eval).toList) (h : foldI f k n xs = some u) : ∃ v, Gives P a o w v w ∧ VR ρ u v := by
  obtain ⟨v, vs, e1, h1, h2⟩ := VRs_cons.1 hx
  simp only [VR] at h1
  subst h1
  rcases hb with ⟨rfl, rfl⟩ | ⟨rfl, rfl⟩
  · obtain ⟨r, g1, g2⟩ := foldI_min (P := P) (w := w) xs k n u vs h h2
    refine ⟨r, builtin_gives ho ?_, g2⟩
    simp only [builtin, Builtin.min_, e1, Sem.run_bind, g1, Result.andThen_ok, Sem.run_pure]
  · obtain ⟨r, g1, g2⟩ := foldI_max (P := P) (w := w) xs k n u vs h h2
    refine ⟨r, builtin_gives ho ?_, g2⟩
    simp only [builtin, Builtin.max_, e1, Sem.run_bind, g1, Result.andThen_ok, Sem.run_pure]

theorem sliceData_ok {x : Operand} {ts : Array TypeId} (ho : o.op = .call { callee := .builtin .unsafeSliceData, args := #[x], argTypes := ts }) {id off len : Nat} {cap : Cap} (h0 : len ≠ 0) (hx : VR ρ (.sl id off len cap) (a.eval x)) : ∃ v, Gives P a o w v w ∧ VR ρ (.ptr id off) v := by
  simp only [VR] at hx
  obtain ⟨l, c, o', hl, e1, hc⟩ := hx
  have key : o' = off ∧ c ≠ 0 := by
    cases cap <;> simp only at hc
    · obtain ⟨rfl, h2, h3⟩ := hc
      exact ⟨by rcases h3 with h3 | h3 <;> omega, by omega⟩
    · rcases hc with h3 | h3
      · exact ⟨h3.1, by omega⟩
      · omega
  obtain ⟨rfl, hc0⟩ := key
  refine ⟨.pointer (some ⟨l.b, l.base + o', none⟩), builtin_gives ho ?_, by simp only [VR]; exact ⟨l, hl, rfl⟩⟩
  show (builtin .unsafeSliceData ts o.type _ (#[x].map a.eval)).run P w = _
  simp only [List.map_toArray, List.map_cons, List.map_nil, e1, builtin, Sem.run_bind, Go.Lib.run_unsafeSliceData_row w ts o.type _ len c hc0, Result.andThen_ok, Sem.run_pure]

theorem sliceData_nil {x : Operand} {ts : Array TypeId} (ho : o.op = .call { callee := .builtin .unsafeSliceData, args := #[x], argTypes := ts }) (hx : VR ρ .nilsl (a.eval x)) : ∃ v, Gives P a o w v w ∧ VR ρ .nilptr v := by
  simp only [VR] at hx
  refine ⟨.pointer none, builtin_gives ho ?_, by simp [VR]⟩
  show (builtin .unsafeSliceData ts o.type _ (#[x].map a.eval)).run P w = _
  simp only [List.map_toArray, List.map_cons, List.map_nil, hx, builtin, Sem.run_bind, Go.Lib.run_unsafeSliceData_nil, Result.andThen_ok, Sem.run_pure]

theorem string0_ok {x y : Operand} {ts : Array TypeId} (ho : o.op = .call { callee := .builtin .unsafeString, args := #[x, y], argTypes := ts }) (h2 : ts.size = 2) {p : AV} (hp : p = .nilptr ∨ ∃ i j, p = .ptr i j) {k : IntKind} (hx : VR ρ p (a.eval x)) (hy : VR ρ (.int k 0) (a.eval y)) : ∃ v, Gives P a o w v w ∧ VR ρ (.str []) v := by
  obtain ⟨t0, e0⟩ : ∃ t0, ts[0]? = some t0 := ⟨ts[0], by simp [h2]⟩
  simp only [VR] at hy
  have hmax : IntKind.i64.max = 9223372036854775807 := rfl
  refine ⟨.string .empty, builtin_gives ho ?_, by simp only [VR]; exact ⟨_, rfl, rfl⟩⟩
  show (builtin .unsafeString ts o.type _ (#[x, y].map a.eval)).run P w = _
  rcases hp with rfl | ⟨i, j, rfl⟩
  · simp only [VR] at hx
    have hrun : (Builtin.unsafeString_ ts o.type #[.pointer none, .int k 0]).run P w = .ok (.string .empty) w := by
      refine (bind_then (m := asInt (.int k 0)) (a := 0) (w1 := w) (by simp [asInt, asIntOf])).trans ?_
      simp [hmax, e0]
    simp only [List.map_toArray, List.map_cons, List.map_nil, hx, hy, builtin]
    simp [hrun]
  · simp only [VR] at hx
    obtain ⟨l, hl, e1⟩ := hx
    have hrun : (Builtin.unsafeString_ ts o.type #[.pointer (some ⟨l.b, l.base + j, none⟩), .int k 0]).run P w = .ok (.string .empty) w := by
      refine (bind_then (m := asInt (.int k 0)) (a := 0) (w1 := w) (by simp [asInt, asIntOf])).trans ?_
      simp [hmax, e0]
    simp only [List.map_toArray, List.map_cons, List.map_nil, e1, hy, builtin]
    simp [hrun]

theorem iface_nil {op : BinOp} {t t' : TypeId} {x y : Operand} (ho : o.op = .binOp op t x y t') {ms} (hT : P.underlying t = some (.interface ms)) (hx : VR ρ .niliface (a.eval x)) (hy : VR ρ .niliface (a.eval y)) (hc : (∃ c, x = .const c) ∨ ∃ c, y = .const c) {b : Bool} (hop : (op = .eql ∧ b = true) ∨ (op = .neq ∧ b = false)) :
    ∃ v, Gives P a o w v w ∧ VR ρ (.bool b) v := by
  simp only [VR] at hx hy
  refine ⟨.bool b, .inl ?_, by simp [VR]⟩
  have he : (Op.equalIn 10000 t .nilIface .nilIface).run P w = .ok true w := ei_if0 9999 hT
  have hg : (eqGuard op t x y .nilIface .nilIface).run P w = .ok () w := by
    rcases hop with ⟨rfl, _⟩ | ⟨rfl, _⟩ <;> rcases hc with ⟨c, rfl⟩ | ⟨c, rfl⟩ <;> simp [eqGuard]
  have hb : (binOp op t .nilIface .nilIface).run P w = .ok (.bool b) w := by
    rcases hop with ⟨rfl, rfl⟩ | ⟨rfl, rfl⟩ <;> simp [binOp, Op.equal, Op.maxDepth, he]
  simp only [execOp, ho, hx, hy, Sem.run_bind, hg, hb, Result.andThen_ok, Sem.run_pure]

theorem assertNil_ok {x : Operand} {xt t : TypeId} (ho : o.op = .typeAssert x xt t true) {d : TypeDesc} (hd : P.underlying t = some d) (hn : ∀ ms, d ≠ .interface ms) (hx : VR ρ .niliface (a.eval x)) {z : AV} (hz : zeroA P t = some z) : ∃ v, Gives P a o w v w ∧ VR ρ (.tup [z, .bool false]) v := by
  simp only [VR] at hx
  obtain ⟨zv, h1, h2⟩ := zero_run (P := P) (w := w) hz
  refine ⟨.tuple #[zv, .bool false], .inl ?_, ?_⟩
  · cases d <;> first | exact absurd rfl (hn _) | simp [execOp, ho, hx, Instr.typeAssert, run_under hd, h1]
  · simp only [VR]; exact ⟨_, rfl, VRs_cons.2 ⟨_, _, rfl, h2 ρ, VRs_cons.2 ⟨_, _, rfl, by simp [VR], by simp [VRs]⟩⟩⟩

end Pe

namespace Pe
open Go
variable {P : Program} {ρ : Rho} {fr : Fr} {a : Act} {w : World} {σ : AW} {o : Oper}


theorem evalsMap {xs : Array Operand} {us : List AV} (h : fr.evals xs.toList = some us) (H : ∀ x ∈ xs.toList, ∀ u, fr.eval x = some u → VR ρ u (a.eval x)) : VRs ρ us (xs.map a.eval).toList := by
  have := evals_VR h H
  simpa using this

theorem builtin_cls {b : Builtin} {args : Array Operand} {ts : Array TypeId} (hs : Sim P ρ σ w) (ho : o.op = .call { callee := .builtin b, args := args, argTypes := ts }) (H : EvalRel ρ fr a o.op.operands.toList) {xs : List AV} (hx : fr.evals args.toList = some xs) (hsz : ts.size = xs.length) {act : Act1}
    (h : bltin P b ts xs = some act) : ActOk P ρ σ a o w act := by
  have H' : ∀ x ∈ args.toList, ∀ u, fr.eval x = some u → VR ρ u (a.eval x) := fun x hx' => H x (by simp only [ho, Op.operands, Call.operands]; simpa using hx')
  have Hall := evalsMap (ρ := ρ) (a := a) hx H'
  have arg1 : ∀ {u}, xs = [u] → ∃ x, args = #[x] ∧ VR ρ u (a.eval x) := by
    rintro u rfl
    obtain ⟨x, rfl, h1⟩ := evals1 hx
    exact ⟨x, rfl, H' x (by simp) _ h1⟩
  have arg2 : ∀ {u v}, xs = [u, v] → ∃ x y, args = #[x, y] ∧ VR ρ u (a.eval x) ∧ VR ρ v (a.eval y) := by
    rintro u v rfl
    obtain ⟨x, y, rfl, h1, h2⟩ := evals2 hx
    exact ⟨x, y, rfl, H' x (by simp) _ h1, H' y (by simp) _ h2⟩
  unfold bltin at h
  split at h
  · -- len
    obtain ⟨x, rfl, hv⟩ := arg1 rfl
    split at h
    · cases h; rename_i hT; exact len_ok ho hsz (by rw [hT]) hv
    · cases h; rename_i hT; exact len_ok ho hsz (by rw [hT]) hv
    · cases h; rename_i hT; exact len_ok ho hsz (by rw [hT]) hv
    · cases h; rename_i hT; exact len_ok ho hsz (by rw [hT]) hv
    · cases h; rename_i hT; exact len_ok ho hsz (by rw [hT]) hv
    · cases h; rename_i hT
      intro u hu
      exact lenMap_ok (t := ts.getD 0 0) hs ho (by simp only [List.length_cons, List.length_nil] at hsz; simp [Array.getD_eq_getD_getElem?, hsz]) hT hv hu
    · cases h
  · -- cap
    obtain ⟨x, rfl, hv⟩ := arg1 rfl
    split at h
    · cases h; rename_i hT; exact cap_ok ho hsz hT hv
    · cases h
  · -- cap of nil
    obtain ⟨x, rfl, hv⟩ := arg1 rfl
    split at h
    · cases h; rename_i hT; exact capNil_ok ho hsz hT hv
    · cases h
  · -- append
    obtain ⟨x, y, rfl, hv1, hv2⟩ := arg2 rfl
    split at h
    · rename_i e hT hU
      cases h; intro u σ' hu; exact append_ok hs ho hsz hT (.inl hU) hv1 hv2 hu
    · rename_i e e' hT hU
      cases h; intro u σ' hu; exact append_ok hs ho hsz hT (.inr ⟨_, hU⟩) hv1 hv2 hu
    · cases h
  · -- copy
    obtain ⟨x, y, rfl, hv1, hv2⟩ := arg2 rfl
    split at h
    · rename_i e hT
      cases h; intro u σ' hu; exact copy_ok hs ho hsz hT hv1 hv2 hu
    · cases h
  · simp only [Option.map_eq_some_iff] at h
    obtain ⟨u, hu, rfl⟩ := h
    exact minmax_ok (.inl ⟨rfl, rfl⟩) ho Hall hu
  · simp only [Option.map_eq_some_iff] at h
    obtain ⟨u, hu, rfl⟩ := h
    exact minmax_ok (.inr ⟨rfl, rfl⟩) ho Hall hu
  · cases h
    show (execOp a.eval o).run P w = _
    simp [execOp, ho, resolve, invoke, builtin]
  · -- panic
    cases h
    rename_i t v
    obtain ⟨x, rfl, hv⟩ := arg1 rfl
    refine ⟨a.eval x, ?_, hv⟩
    simp only [VR] at hv
    obtain ⟨y, e1, _⟩ := hv
    simp [execOp, ho, resolve, invoke, builtin, e1, Instr.panic, goPanic, Sem.run]
  · obtain ⟨x, rfl, hv⟩ := arg1 rfl
    split at h
    · cases h; exact sliceData_nil ho hv
    · split at h
      · cases h
      · cases h; rename_i h0; exact sliceData_ok ho h0 hv
    · cases h
  · obtain ⟨x, y, rfl, hv1, hv2⟩ := arg2 rfl
    split at h
    · split at h
      · cases h; rename_i h0; subst h0; exact string0_ok ho hsz (.inl rfl) hv1 hv2
      · cases h
    · split at h
      · rename_i h0
        split at h
        · rename_i t hT
          cases h; intro u σ' hu; exact share_ok hs ho hsz hT hv1 hv2 h0 hu
        · cases h
      · split at h
        · cases h; rename_i h0; subst h0; exact string0_ok ho hsz (.inr ⟨_, _, rfl⟩) hv1 hv2
        · cases h
    · cases h
  · cases h


theorem convert_cls {s d : TypeId} {x : Operand} (hs : Sim P ρ σ w) (ho : o.op = .convert s d x) (H : EvalRel ρ fr a o.op.operands.toList) {u : AV} (hx : fr.eval x = some u) {act : Act1} (h : convA P s d u = some act) : ActOk P ρ σ a o w act := by
  have hv := H x (by simp [ho, Op.operands]) _ hx
  unfold convA at h
  split at h
  · rename_i hS hD
    split at h
    · cases h; exact convInt_ok ho hS hD hx H
    · cases h
  · rename_i hS hD
    split at h
    · cases h; exact convStr_ok ho hS hD hx H
    · cases h
  · rename_i hS hD
    split at h
    · rename_i hE
      cases h; exact bytes_ok ho hS hD hE hv
    · cases h
  · rename_i hS hD
    split at h
    · rename_i hE
      cases h; exact textNil_ok ho hS hE hD hv
    · rename_i hE
      cases h; intro u hu; exact text_ok hs ho hS hE hD hv hu
    · cases h
  · rename_i hS hD
    split at h
    · split at h
      · cases h
      · rename_i hz
        cases h; intro u hu; exact cast_ok hs ho hS hD hz hv hu
    · cases h
  · rename_i hS hD
    split at h
    · cases h; intro u hu; exact castBack_ok hs ho hS hD hv hu
    · cases h
  · cases h

theorem slice_cls {t : TypeId} {x : Operand} {lo hi mx : Option Operand} (ho : o.op = .slice t x lo hi mx) (H : EvalRel ρ fr a o.op.operands.toList) {act : Act1} (h : cls P fr o = some act) : ActOk P ρ σ a o w act := by
  unfold cls at h
  simp only [ho] at h
  split at h
  · rename_i s l2 h2 e1 e2 e3 e4 e5
    simp only [Option.map_eq_some_iff] at h
    obtain ⟨b, hb, rfl⟩ := h
    have : mx = none := by
      cases mx with
      | none => rfl
      | some m =>
        simp only [Fr.evalO, Option.map_eq_some_iff] at e4
        obtain ⟨_, _, hh⟩ := e4; cases hh
    subst this
    exact sliceStr_ok ho e5 e1 e2 e3 hb H
  · rename_i l2 h2 m2 e e1 e2 e3 e4 e5
    split at h
    · cases h
    · rename_i hz
      simp only [Option.map_eq_some_iff] at h
      obtain ⟨b, hb, rfl⟩ := h
      exact sliceNil_ok ho e5 hz e1 e2 e3 e4 hb H
  · rename_i id off len cap l2 h2 m2 e e1 e2 e3 e4 e5
    split at h
    · cases h
    · rename_i hz
      simp only [not_or, Bool.not_eq_false] at hz
      simp only [Option.map_eq_some_iff] at h
      obtain ⟨b, hb, rfl⟩ := h
      exact sliceSl_ok ho e5 hz.1 hz.2 e1 e2 e3 e4 hb H
  · rename_i id off l2 h2 m2 n e e1 e2 e3 e4 e5
    split at h
    · cases h
    · rename_i hz
      simp only [Option.map_eq_some_iff] at h
      obtain ⟨b, hb, rfl⟩ := h
      exact sliceArr_ok ho e5 hz e1 e2 e3 e4 hb H
  · cases h

theorem call_cls {c : Call} (hs : Sim P ρ σ w) (ho : o.op = .call c) (H : EvalRel ρ fr a o.op.operands.toList) {act : Act1} (h : cls P fr o = some act) : ActOk P ρ σ a o w act := by
  unfold cls at h
  simp only [ho] at h
  split at h
  · cases h
  rename_i xs hx
  have H' : ∀ x ∈ c.args.toList, ∀ u, fr.eval x = some u → VR ρ u (a.eval x) := fun x hx' => H x (by simp only [ho, Op.operands, Call.operands]; simp [Array.mem_toList_iff.1 hx'])
  have Hall := evalsMap (ρ := ρ) (a := a) hx H'
  split at h
  · rename_i b hb
    split at h
    · rename_i hsz
      obtain ⟨callee, args, ts⟩ := c
      simp only at hb hx hsz h
      subst hb
      exact builtin_cls hs ho H hx (by simpa using hsz) h
    · cases h
  · rename_i f hf
    have hfm : f ∈ o.op.operands.toList := by simp [ho, Op.operands, Call.operands, hf]
    split at h
    · rename_i g b cap hg
      cases h
      have hv := H f hfm _ hg
      simp only [VR] at hv
      obtain ⟨a', c', e1, g1, g2⟩ := hv
      refine ⟨a' ++ c.args.map a.eval ++ c', ?_, ?_⟩
      · simp only [Array.toList_append]
        exact (g1.append Hall).append g2
      · simp [execOp, ho, resolve, hf, e1, Deferred.ofValue, invoke]
    · rename_i l hg
      cases h
      have hv := H f hfm _ hg
      simp only [VR] at hv
      obtain ⟨loc, hl, e1⟩ := hv
      refine ⟨c.args.map a.eval, Hall, loc, hl, ?_⟩
      simp [execOp, ho, resolve, hf, e1, Deferred.ofValue, invoke]
    · cases h
  · rename_i r name hr
    have hfm : r ∈ o.op.operands.toList := by simp [ho, Op.operands, Call.operands, hr]
    split at h
    · rename_i t v hrv
      split at h
      · rename_i f hm
        cases h
        have hv := H r hfm _ hrv
        simp only [VR] at hv
        obtain ⟨y, e1, g1⟩ := hv
        refine ⟨#[y] ++ c.args.map a.eval, ?_, ?_⟩
        · simp only [Array.toList_append]
          exact VRs.append (xs := [v]) (VRs_cons.2 ⟨y, [], rfl, g1, rfl⟩) Hall
        · have hmeth : ∀ n, (method (n + 1) t y name).run P w = .ok (f, y) w := by
            intro n
            unfold methodOf at hm
            split at hm
            · cases hm
            rename_i i hi
            split at hm
            · cases hm
            rename_i m hfind
            split at hm
            · cases hm
            rename_i hp
            have hp' : m.path = #[] := by simpa using hp
            split at hm
            · rename_i f0 e hf0 hu
              cases hm
              simp [method, typeInfo, hi, hfind, hp', hf0, follow, receiverAt, run_under hu, Place.get]
            · rename_i f0 d hf0 hu
              split at hm
              · cases hm
              · rename_i hd
                cases hm
                cases d <;> first | (exfalso; simp at hd; done) | simp [method, typeInfo, hi, hfind, hp', hf0, follow, receiverAt, run_under hu, Place.get]
            · cases hm
          obtain ⟨n, hn⟩ : ∃ n, P.types.size + Made.depth = n + 1 := ⟨P.types.size + Made.depth - 1, by have : 0 < Made.depth := by decide
                                                                                                        omega⟩
          have e0 : (#[Value.iface t y] ++ Array.map a.eval c.args)[0]? = some (.iface t y) := by
            rw [Array.getElem?_append_left (by simp)]; rfl
          simp only [execOp, ho, resolve, hr, Sem.run_bind, Sem.run_pure, Result.andThen_ok, invoke]
          have e2 : (Array.map a.eval c.args).extract 0 c.args.size = Array.map a.eval c.args := by
            have := Array.extract_size (xs := Array.map a.eval c.args)
            rwa [Array.size_map] at this
          simp [callMethod, e1, e0, hn, hmeth, e2]
      · cases h
    · cases h


theorem cls_ok (hs : Sim P ρ σ w) (H : EvalRel ρ fr a o.op.operands.toList) {act : Act1} (h : cls P fr o = some act) : ActOk P ρ σ a o w act := by
  have h0 := h
  unfold cls at h
  split at h
  · -- move
    rename_i x ho
    simp only [Option.map_eq_some_iff] at h
    obtain ⟨u, hu, rfl⟩ := h
    exact move_ok (.inl ho) hu H
  · rename_i x ho
    simp only [Option.map_eq_some_iff] at h
    obtain ⟨u, hu, rfl⟩ := h
    exact move_ok (.inr ho) hu H
  · rename_i c x y ho
    split at h
    · rename_i t hc
      simp only [Option.map_eq_some_iff] at h
      obtain ⟨u, hu, rfl⟩ := h
      exact pick_ok ho hc hu H
    · cases h
  · rename_i t ho
    split at h
    · rename_i z hz
      split at h
      · rename_i hc
        cases h
        exact alloc_ok ho hz hc.1 hc.2
      · cases h
    · cases h
  · rename_i t x ho
    split at h
    · rename_i v hv
      split at h
      · rename_i hc
        cases h
        exact box_ok ho (H x (by simp [ho, Op.operands]) _ hv) hc
      · cases h
    · cases h
  · rename_i t ps ho
    split at h
    · rename_i z vs fs hz hp hu
      split at h
      · cases h
      rename_i hc
      simp only [Bool.or_eq_true, Bool.not_eq_true', not_or, Bool.not_eq_false] at hc
      simp only [Option.bind_eq_some_iff, Option.map_eq_some_iff] at h
      obtain ⟨t', hf, cs, hcs, rfl⟩ := h
      exact build_ok ho hz hp hc.2 (.inl ⟨fs, hu, hc.1, rfl⟩) hf hcs H
    · rename_i z vs n e hz hp hu
      split at h
      · cases h
      rename_i hc
      simp only [Bool.or_eq_true, Bool.not_eq_true', not_or, Bool.not_eq_false] at hc
      simp only [Option.bind_eq_some_iff, Option.map_eq_some_iff] at h
      obtain ⟨t', hf, cs, hcs, rfl⟩ := h
      exact build_ok ho hz hp hc.2 (.inr ⟨n, e, hu, hc.1, rfl⟩) hf hcs H
    · cases h
  · rename_i t len ps ho
    split at h
    · rename_i e hT
      split at h
      · rename_i z vs hz hp
        split at h
        · rename_i hc
          simp only [Option.map_eq_some_iff] at h
          obtain ⟨t', hf, rfl⟩ := h
          exact buildSlice_ok ho hT hz hp hc.1 hc.2.1 hc.2.2 hf H
        · cases h
      · cases h
    · cases h
  · rename_i t x ho
    simp only [Option.map_eq_some_iff] at h
    obtain ⟨p, hp, rfl⟩ := h
    intro u hu
    obtain ⟨r, g1, g2⟩ := loadV_ok (P := P) hs (H x (by simp [ho, Op.operands]) _ hp) (show loadV P σ t p = some u from hu)
    exact ⟨r, .inl (by simp [execOp, ho, g1]), g2⟩
  · rename_i t x y ho
    split at h
    · rename_i p q hp hq
      cases h
      intro u σ' hu
      exact store_ok hs ho hp hq hu H
    · cases h
  · rename_i x ho
    split at h
    · rename_i i j hx
      cases h; exact nilCheck_ok ho hx (.inl ⟨i, j, rfl⟩) H
    · rename_i f b c hx
      cases h; exact nilCheck_ok ho hx (.inr ⟨f, b, c, rfl⟩) H
    · cases h
  · rename_i op t x y t' ho
    split at h
    · rename_i hx hy
      simp only [Option.map_eq_some_iff] at h
      obtain ⟨b, hb, rfl⟩ := h
      have v1 := H x (by simp [ho, Op.operands]) _ hx
      have v2 := H y (by simp [ho, Op.operands]) _ hy
      unfold nilEq at hb
      split at hb
      · rename_i ms hT
        split at hb
        · rename_i hc
          have hc' : (∃ c, x = .const c) ∨ ∃ c, y = .const c := by
            simp only [Bool.or_eq_true] at hc
            rcases hc with hc | hc
            · left; cases x <;> simp only [isConst, reduceCtorEq] at hc; exact ⟨_, rfl⟩
            · right; cases y <;> simp only [isConst, reduceCtorEq] at hc; exact ⟨_, rfl⟩
          split at hb
          · cases hb; exact iface_nil ho hT v1 v2 hc' (.inl ⟨rfl, rfl⟩)
          · cases hb; exact iface_nil ho hT v1 v2 hc' (.inr ⟨rfl, rfl⟩)
          · cases hb
        · cases hb
      · cases hb
    · rename_i p q _ hx hy
      simp only [Option.map_eq_some_iff] at h
      obtain ⟨u, hu, rfl⟩ := h
      exact bin_ok ho hx hy hu H
    · cases h
  · rename_i op t x ho
    split at h
    · rename_i b hx
      cases h; exact not_ok ho hx H
    · rename_i k n hx
      cases h; exact neg_ok ho hx H
    · cases h
  · rename_i s d x ho
    simp only [Option.bind_eq_some_iff] at h
    obtain ⟨u, hu, h⟩ := h
    exact convert_cls hs ho H hu h
  · rename_i t x ho
    split at h
    · cases h
    · cases h
    · rename_i hn1 hn2
      simp only [Option.map_eq_some_iff] at h
      obtain ⟨u, hu, rfl⟩ := h
      cases hT : P.underlying t with
      | none => exact absurd hT hn2
      | some d => exact makeInterface_ok ho hT (fun ms e => hn1 ms (by rw [hT, e])) hu H
  · rename_i fn x y ho
    split at h
    · rename_i f us vs hx hy
      cases h; exact makeFunc_ok ho hx hy H
    · cases h
  · rename_i t r ho
    split at h
    · cases h; exact makeMap_ok ho
    · cases h
  · rename_i t x y ho
    split at h
    · rename_i e k l k' c hT hx hy
      split at h
      · rename_i z info hz hI
        split at h
        · rename_i hc
          cases h
          exact makeSlice_ok ho hT (H x (by simp [ho, Op.operands]) _ hx) (H y (by simp [ho, Op.operands]) _ hy) hz hI hc.1 hc.2.1 hc.2.2.1 hc.2.2.2.1 hc.2.2.2.2.1 hc.2.2.2.2.2
        · cases h
      · cases h
    · cases h
  · rename_i t x lo hi mx ho
    exact slice_cls ho H h0
  · rename_i s x i ho
    split at h
    · rename_i fs id off hT hx
      split at h
      · rename_i f hf
        split at h
        · cases h
        · rename_i hz
          cases h; exact fieldAddr_ok ho hT hf hz hx H
      · cases h
    · cases h
  · rename_i s x i ho
    split at h
    · rename_i fs cs hT hx
      split at h
      · rename_i f hf
        simp only [Option.map_eq_some_iff] at h
        obtain ⟨u, hu, rfl⟩ := h
        exact field_ok ho hT hf hx hu H
      · cases h
    · cases h
  · rename_i t x y ho
    split at h
    · rename_i n e id off k i hT hx hy
      split at h
      · rename_i hc
        cases h; exact indexAddr_arr_ok ho hT hc.2.2 hx hy hc.1 hc.2.1 H
      · cases h
    · rename_i e id off len cap k i hT hx hy
      split at h
      · rename_i hc
        cases h; exact indexAddr_sl_ok ho hT hc.2.2 hx hy hc.1 hc.2.1 H
      · cases h
    · cases h
  · rename_i t x y ho
    split at h
    · rename_i n e cs k i hT hx hy
      split at h
      · rename_i hc
        simp only [Option.map_eq_some_iff] at h
        obtain ⟨u, hu, rfl⟩ := h
        exact indexArr_ok ho hT hc.2.2 hx hy hc.1 hc.2.1 hu H
      · cases h
    · rename_i s k i hT hx hy
      split at h
      · rename_i hc
        simp only [Option.map_eq_some_iff] at h
        obtain ⟨u, hu, rfl⟩ := h
        exact indexStr_ok ho hT hx hy hc hu H
      · cases h
    · cases h
  · rename_i t x y ok ho
    split at h
    · rename_i kt e m k hT hx hy
      split at h
      · rename_i hk
        simp only [Option.map_eq_some_iff] at h
        obtain ⟨z, hz, rfl⟩ := h
        intro u hu
        obtain ⟨dk, hdk⟩ : ∃ d, P.underlying kt = some d := by
          cases hh : P.underlying kt with
          | some d => exact ⟨d, rfl⟩
          | none => cases k <;> simp [keyFits, scalarFits, hh] at hk
        exact lookup_ok hs ho hT hdk hx hy hk hz hu H
      · cases h
    · cases h
  · rename_i t x y z ho
    split at h
    · rename_i kt et m k v hT hx hy hz
      split at h
      · rename_i hk
        cases h
        intro u σ' hu
        exact mapPut_ok hs (.inl ho) hT hk (H x (by simp [ho, Op.operands]) _ hx) (H y (by simp [ho, Op.operands]) _ hy) (H z (by simp [ho, Op.operands]) _ hz) hu
      · cases h
    · cases h
  · rename_i t x y z ho
    split at h
    · rename_i kt et m k v hT hx hy hz
      split at h
      · rename_i hk
        cases h
        intro u σ' hu
        exact mapPut_ok hs (.inr ho) hT hk (H x (by simp [ho, Op.operands]) _ hx) (H y (by simp [ho, Op.operands]) _ hy) (H z (by simp [ho, Op.operands]) _ hz) hu
      · cases h
    · cases h
  · rename_i t x ho
    split at h
    · rename_i s hT hx
      cases h; exact rangeS_ok ho hT (H x (by simp [ho, Op.operands]) _ hx)
    · rename_i hT hx
      cases h; exact rangeN_ok ho hT (H x (by simp [ho, Op.operands]) _ hx)
    · rename_i k e m hT hx
      cases h
      intro es ver hm
      exact rangeM_ok hs ho hT (H x (by simp [ho, Op.operands]) _ hx) hm
    · cases h
  · rename_i x isS ho
    split at h
    · rename_i id hx
      have hv := H x (by simp [ho, Op.operands]) _ hx
      split at h
      · rename_i hS
        subst hS
        cases h
        intro u σ' hu
        exact nextS_ok hs ho hv hu
      · rename_i hS
        have hS' : isS = false := by simpa using hS
        subst hS'
        cases h
        simp only [VR] at hv
        obtain ⟨l, hl, e1⟩ := hv
        exact ⟨x, l, ho, hl, by rw [e1, Nat.add_zero]⟩
    · cases h
  · rename_i x ho
    split at h
    · rename_i id hx
      cases h
      intro u hu
      exact entry_ok hs ho (H x (by simp [ho, Op.operands]) _ hx) hu
    · cases h
  · rename_i x xt t ok ho
    split at h
    · cases h
    · rename_i d t0 v hn hT hx
      have hn' : ∀ ms, d ≠ .interface ms := fun ms e => hn ms e
      split at h
      · rename_i he
        cases h
        subst he
        exact typeAssert_ok ho hT hn' hx (.inl ⟨rfl, rfl⟩) H
      · rename_i he
        split at h
        · rename_i hok
          simp only [Option.map_eq_some_iff] at h
          obtain ⟨z, hz, rfl⟩ := h
          exact typeAssert_ok ho hT hn' hx (.inr ⟨he, hok, z, hz, rfl⟩) H
        · cases h
    · rename_i d hn hT hx
      have hn' : ∀ ms, d ≠ .interface ms := fun ms e => hn ms e
      split at h
      · rename_i hok
        subst hok
        simp only [Option.map_eq_some_iff] at h
        obtain ⟨z, hz, rfl⟩ := h
        exact assertNil_ok ho hT hn' (H x (by simp [ho, Op.operands]) _ hx) hz
      · cases h
    · cases h
  · rename_i x i ho
    split at h
    · rename_i vs hx
      simp only [Option.map_eq_some_iff] at h
      obtain ⟨u, hu, rfl⟩ := h
      exact extract_ok ho hx hu H
    · cases h
  · rename_i c ho
    exact call_cls hs ho H h0
  · rename_i c ho
    split at h
    · rename_i xs f hx hf
      split at h
      · rename_i g b cap hg
        cases h
        have hv := H f (by simp [ho, Op.operands, Call.operands, hf]) _ hg
        have H' : ∀ x ∈ c.args.toList, ∀ u, fr.eval x = some u → VR ρ u (a.eval x) := fun x hx' => H x (by simp only [ho, Op.operands, Call.operands]; simp [Array.mem_toList_iff.1 hx'])
        have Hall := evalsMap (ρ := ρ) (a := a) hx H'
        simp only [VR] at hv
        obtain ⟨a', c', e1, g1, g2⟩ := hv
        refine ⟨{ target := .fn (.func g) c', args := a' ++ c.args.map a.eval }, c, ho, by simp [resolve, hf, e1, Deferred.ofValue], a' ++ c.args.map a.eval, c', rfl, ?_, g2⟩
        simp only [Array.toList_append]
        exact g1.append Hall
      · cases h
    · cases h
  · rename_i x ho
    split at h
    · rename_i t v hx
      cases h
      have hv := H x (by simp [ho, Op.operands]) _ hx
      refine ⟨a.eval x, ?_, hv⟩
      simp only [VR] at hv
      obtain ⟨y, e1, _⟩ := hv
      simp [execOp, ho, e1, Instr.panic, goPanic, Sem.run]
    · cases h
  · cases h

end Pe

namespace Pe
open Go
variable {P : Program} {ρ : Rho} {fr : Fr} {a : Act} {w : World} {σ : AW} {o : Oper}

theorem apart_split {pre post : List (AV × AV)} {kv : AV × AV} (h : keysApart (pre ++ kv :: post)) : ∀ x ∈ pre ++ post, findK.eqKey kv.1 x.1 = some false := by
  rw [keysApart_iff, List.map_append, List.pairwise_append] at h
  obtain ⟨_, h2, h3⟩ := h
  intro x hx
  rcases List.mem_append.1 hx with hx | hx
  · rw [eqKey_comm]; exact h3 _ (List.mem_map.2 ⟨x, hx, rfl⟩) _ (List.mem_map.2 ⟨kv, by simp, rfl⟩)
  · rw [List.map_cons, List.pairwise_cons] at h2
    exact h2.1 _ (List.mem_map.2 ⟨x, hx, rfl⟩)

/-- The one entry that bears a key. -/
theorem entry_of {es : List (AV × AV)} {L : List MapEntry} (ha : keysApart es) (hL : ERs ρ es L) {kv : AV × AV} (hkv : kv ∈ es) : ∃ e0 ∈ L, VR ρ kv.1 e0.key ∧ VR ρ kv.2 e0.val ∧ ∀ e ∈ L, VR ρ kv.1 e.key → e = e0 := by
  obtain ⟨pre, post, rfl⟩ := List.append_of_mem hkv
  have hap := apart_split ha
  obtain ⟨L1, L', rfl, q1, q2⟩ := hL.split
  obtain ⟨e0, L2, rfl, q3, q4, q5⟩ := q2
  refine ⟨e0, by simp, q3, q4, fun e he hk => ?_⟩
  rcases List.mem_append.1 he with hh | hh
  · obtain ⟨x, m1, m2, _⟩ := q1.mem e hh
    exact (eqKey_false (hap x (by simp [m1])) hk m2).elim
  · rcases List.mem_cons.1 hh with hh | hh
    · exact hh
    · obtain ⟨x, m1, m2, _⟩ := q5.mem e hh
      exact (eqKey_false (hap x (by simp [m1])) hk m2).elim

theorem isIn_true {k : AV} : ∀ {ks : List AV}, choicesM.isIn k ks = some true → k ∈ ks
  | [], h => by simp [choicesM.isIn] at h
  | x :: xs, h => by
    simp only [choicesM.isIn] at h
    split at h
    · rename_i hk; rw [eqKey_eq hk]; simp
    · exact List.mem_cons_of_mem _ (isIn_true h)
    · cases h

theorem isIn_false {k : AV} : ∀ {ks : List AV}, choicesM.isIn k ks = some false → ∀ x ∈ ks, findK.eqKey k x = some false
  | [], _, _, hx => by cases hx
  | y :: ys, h, x, hx => by
    simp only [choicesM.isIn] at h
    split at h
    · cases h
    · rename_i hk
      rcases List.mem_cons.1 hx with rfl | hx
      · exact hk
      · exact isIn_false h x hx
    · cases h

theorem left_mem {seen : List AV} : ∀ {es l : List (AV × AV)}, choicesM.left es seen = some l → (∀ kv ∈ l, kv ∈ es ∧ choicesM.isIn kv.1 seen = some false) ∧ ∀ kv ∈ es, (choicesM.isIn kv.1 seen = some false ∧ kv ∈ l) ∨ choicesM.isIn kv.1 seen = some true
  | [], l, h => by
    simp only [choicesM.left, Option.some.injEq] at h; subst h; simp
  | kv :: es, l, h => by
    simp only [choicesM.left] at h
    split at h
    · rename_i l' h1 h2
      cases h
      obtain ⟨g1, g2⟩ := left_mem h2
      refine ⟨fun x hx => ⟨List.mem_cons_of_mem _ (g1 x hx).1, (g1 x hx).2⟩, fun x hx => ?_⟩
      rcases List.mem_cons.1 hx with rfl | hx
      · exact .inr h1
      · exact g2 x hx
    · rename_i l' h1 h2
      cases h
      obtain ⟨g1, g2⟩ := left_mem h2
      refine ⟨fun x hx => ?_, fun x hx => ?_⟩
      · rcases List.mem_cons.1 hx with rfl | hx
        · exact ⟨by simp, h1⟩
        · exact ⟨List.mem_cons_of_mem _ (g1 x hx).1, (g1 x hx).2⟩
      · rcases List.mem_cons.1 hx with rfl | hx
        · exact .inl ⟨h1, by simp⟩
        · rcases g2 x hx with hh | hh
          · exact .inl ⟨hh.1, List.mem_cons_of_mem _ hh.2⟩
          · exact .inr hh
    · cases h

theorem SeenRel.mem {ES : Array MapEntry} : ∀ {ks : List AV} {l : List Nat}, SeenRel ρ ES ks l → (∀ b ∈ l, ∃ k ∈ ks, ∃ e ∈ ES.toList, e.born = b ∧ VR ρ k e.key) ∧ ∀ k ∈ ks, ∃ b ∈ l, ∃ e ∈ ES.toList, e.born = b ∧ VR ρ k e.key
  | [], l, h => by simp only [SeenRel] at h; subst h; simp
  | k :: ks, l, h => by
    obtain ⟨b, l', rfl, he, h3⟩ := h
    obtain ⟨g1, g2⟩ := SeenRel.mem h3
    refine ⟨fun x hx => ?_, fun x hx => ?_⟩
    · rcases List.mem_cons.1 hx with rfl | hx
      · exact ⟨k, by simp, he⟩
      · obtain ⟨k', m1, m2⟩ := g1 x hx; exact ⟨k', by simp [m1], m2⟩
    · rcases List.mem_cons.1 hx with rfl | hx
      · exact ⟨b, by simp, he⟩
      · obtain ⟨b', m1, m2⟩ := g2 x hx; exact ⟨b', by simp [m1], m2⟩

theorem run_mapNext (n : Nat) (hn : 0 < n) : ∃ c w', (choose (.mapNext n)).run P w = .ok c w' ∧ c < n ∧ w'.heap = w.heap ∧ SameIO w w' := by
  rw [run_choose]
  by_cases hf : (Question.mapNext n).forced = true
  · exact ⟨0, w, by rw [if_pos hf], hn, rfl, rfl, rfl⟩
  · exact ⟨(Question.mapNext n).cut (w.tape w.drawn (.mapNext n)), { w with drawn := w.drawn + 1 }, by rw [if_neg hf], Nat.mod_lt _ hn, rfl, rfl, rfl⟩

/-- The next of a range over a map: some of the choices. -/
theorem nextM_ok (hs : Sim P ρ σ w) {it : Nat} {x : Operand} {l : Loc} (ho : o.op = .next x false) (hl : ρ it = some l) (hx : a.eval x = .pointer (some ⟨l.b, l.base, none⟩)) {cs : List (AV × AW)} (h : choicesM σ it = some cs) :
    ∃ r ∈ cs, ∃ v w', Gives P a o w v w' ∧ VR ρ r.1 v ∧ Sim P ρ r.2 w' ∧ Post ρ σ w ρ r.2 w' := by
  unfold choicesM at h
  obtain ⟨_, ob, hob, hlt, hor⟩ := hs.obj it l hl
  split at h
  · rename_i ks hit
    rw [hit] at hob; cases hob
    obtain ⟨hb, since, seen, st, g1⟩ := hor
    cases h
    refine ⟨_, List.mem_singleton.2 rfl, .tuple #[.bool false], w, .inl ?_, by simp [VR, VRs], hs, Post.refl _ _ _⟩
    simp only [execOp, ho, hx, hb, Instr.next, Sem.run_bind, run_getObj_iter g1, Result.andThen_ok, Sem.run_pure]
  · rename_i m ver seen hit
    rw [hit] at hob; cases hob
    obtain ⟨hb, lm, since, seenA, st, es', v', k1, k2, k3, k4, k5⟩ := hor
    split at h
    · rename_i es ver' hm
      split at h
      · rename_i hver
        subst hver
        rw [hm] at k3
        simp only [Option.some.injEq, AO.map.injEq] at k3
        obtain ⟨rfl, rfl⟩ := k3
        obtain ⟨ES, k6, rfl, k7⟩ := k5 rfl
        obtain ⟨ES', ck, g1, hmr⟩ := obj_map hs k1 hm
        rw [k6] at g1; cases g1
        obtain ⟨ha, ⟨L, hp, hL⟩, hborn, hnd⟩ := hmr
        obtain ⟨s1, s2⟩ := k7.mem
        have hback : ∀ b, b ∈ seenA.toList.reverse ↔ b ∈ seenA := by intro b; simp
        -- which entries are left
        have hleft : ∀ {l'}, choicesM.left es seen = some l' → ∀ e ∈ ES.toList, ∀ kv ∈ es, VR ρ kv.1 e.key → (e.born ∉ seenA ↔ kv ∈ l') := by
          intro l' hl' e he kv hkv hk
          obtain ⟨q1, q2⟩ := left_mem hl'
          obtain ⟨e0, _, _, _, huniq⟩ := entry_of ha hL hkv
          constructor
          · intro hns
            rcases q2 kv hkv with hh | hh
            · exact hh.2
            · exfalso
              obtain ⟨b, hb1, e', he', rfl, hk'⟩ := s2 _ (isIn_true hh)
              have e1 := huniq e (hp.mem_iff.2 he) hk
              have e2 := huniq e' (hp.mem_iff.2 he') hk'
              rw [e1, ← e2] at hns
              exact hns ((hback _).1 hb1)
          · intro hin hns
            obtain ⟨k', hk1, e', he', hbe, hk'⟩ := s1 _ ((hback _).2 hns)
            have : e' = e := nodup_born hnd he' he hbe
            subst this
            exact eqKey_false (isIn_false (q1 kv hin).2 k' hk1) hk hk'
        have hold : (ES.filter fun e => !seenA.contains e.born).filter (fun e => decide (e.born < st)) = ES.filter fun e => !seenA.contains e.born := by
          rw [Array.filter_eq_self]
          intro e he
          have := hborn e (by simpa using (Array.mem_filter.1 he).1)
          simpa using this
        have hnew : (ES.filter fun e => !seenA.contains e.born).filter (fun e => decide (e.born ≥ st)) = #[] := by
          rw [Array.filter_eq_empty_iff]
          intro e he
          have := hborn e (by simpa using (Array.mem_filter.1 he).1)
          simpa using this
        have hcond : (!seenA.isEmpty && !ES.isEmpty && ES.all fun e => decide (e.born ≥ st)) = false := by
          cases hE : ES.isEmpty
          · have hne : ES ≠ #[] := by intro hh; rw [hh] at hE; simp at hE
            have h0 : 0 < ES.size := Array.size_pos_iff.2 hne
            have : (ES.all fun e => decide (e.born ≥ st)) = false := by
              rw [Array.all_eq_false]
              exact ⟨0, h0, by have := hborn ES[0] (by simp); simp; omega⟩
            rw [this]; simp
          · simp
        have hgm : ∀ {w1 : World}, w1.heap = w.heap → (getObj lm.b).run P w1 = .ok (.map ES st) w1 := fun hw => run_getObj_map (by rw [hw]; exact k6)
        cases hl' : choicesM.left es seen with
        | none => rw [hl'] at h; cases h
        | some l' =>
          rw [hl'] at h
          by_cases hempty : (ES.filter fun e => !seenA.contains e.born) = #[]
          · -- none is left
            have hl0 : l' = [] := by
              cases l' with
              | nil => rfl
              | cons kv t =>
                exfalso
                obtain ⟨q1, _⟩ := left_mem hl'
                have hkv := (q1 kv (by simp)).1
                obtain ⟨e0, he0, hk0, _, _⟩ := entry_of ha hL hkv
                have he : e0 ∈ ES.toList := hp.mem_iff.1 he0
                have hns := (hleft hl' e0 he kv hkv hk0).2 (by simp)
                have : e0 ∈ ES.filter fun e => !seenA.contains e.born := Array.mem_filter.2 ⟨by simpa using he, by simpa using hns⟩
                rw [hempty] at this; simp at this
            subst hl0
            cases h
            refine ⟨_, List.mem_singleton.2 rfl, .tuple #[.bool false], w, .inl ?_, by simp [VR, VRs], hs, Post.refl _ _ _⟩
            simp only [execOp, ho, hx, hb, Instr.next, Sem.run_bind, run_getObj_iter k2, hgm rfl, Result.andThen_ok, hcond, hempty]
            simp [Question.forced]
          · -- one of them
            have hne : 0 < (ES.filter fun e => !seenA.contains e.born).size := Array.size_pos_iff.2 hempty
            obtain ⟨c, w1, hc1, hc2, hc3, hc4⟩ := run_mapNext (P := P) (w := w) _ hne
            let e := (ES.filter fun e => !seenA.contains e.born)[c]
            have hmem : e ∈ ES.filter fun e => !seenA.contains e.born := Array.getElem_mem hc2
            obtain ⟨he1, he2⟩ := Array.mem_filter.1 hmem
            have he : e ∈ ES.toList := by simpa using he1
            have hns : e.born ∉ seenA := by simpa using he2
            obtain ⟨kv, hkv, hk1, hk2⟩ := hL.mem e (hp.mem_iff.2 he)
            have hin := (hleft hl' e he kv hkv hk1).1 hns
            have hcs : (AV.tup [.bool true, kv.1, kv.2], σ.put it (.miter (some (m, ver)) (kv.1 :: seen))) ∈ cs := by
              cases l' with
              | nil => cases hin
              | cons y t => cases h; exact List.mem_map.2 ⟨kv, hin, rfl⟩
            obtain ⟨hs1, hp1⟩ := hs.heap hc3 hc4
            have hlb : l.b < w1.heap.size := by rw [hc3]; exact hlt rfl
            have hmit : m ≠ it := by rintro rfl; rw [hit] at hm; cases hm
            have hbne : lm.b ≠ l.b := by
              intro hh
              rw [← hh, k6] at k2; cases k2
            have key := hs1.put (w' := w1.putObj l.b (.mapIter (some lm.b) st (seenA.push e.born) st)) (.miter (some (m, ver)) (kv.1 :: seen)) hl hit rfl (fun _ _ hh => by cases hh) (by simp) (fun b hbb => World.putObj_heap_other hbb)
              ⟨hb, lm, st, seenA.push e.born, st, es, ver, k1, World.putObj_heap_same hlb, by rw [get_put, if_neg hmit, hm], Nat.le_refl _, fun _ => ⟨ES, by rw [World.putObj_heap_other hbne, hc3]; exact k6, rfl, by
                refine ⟨e.born, seenA.toList.reverse, by simp, ⟨e, he, rfl, hk1⟩, k7⟩⟩⟩
            refine ⟨_, hcs, .tuple #[.bool true, e.key, e.val], _, .inl ?_, ?_, key.1, hp1.trans key.2⟩
            · have hset : (setObj l.b (.mapIter (some lm.b) st (seenA.push e.born) st)).run P w1 = .ok () (w1.putObj l.b (.mapIter (some lm.b) st (seenA.push e.born) st)) := by
                have : w1.heap[l.b]? = some (.mapIter (some lm.b) st seenA st) := by rw [hc3]; exact k2
                simp [setObj, Sem.run, this, World.putObj]
              have hisE : (ES.filter fun e => !seenA.contains e.born).isEmpty = false := by simpa using hempty
              have hget : (Array.map some (ES.filter fun e => !seenA.contains e.born))[c]? = some (some e) := by
                rw [Array.getElem?_map, Array.getElem?_eq_getElem hc2]; rfl
              simp only [execOp, ho, hx, hb, Instr.next, Sem.run_bind, run_getObj_iter k2, hgm rfl, Result.andThen_ok, hcond, hold, hnew, hisE]
              simp only [Bool.false_eq_true, if_false, Array.append_empty, Array.empty_append, Array.size_map, Sem.run_bind, hc1, Result.andThen_ok, hget, hset, Sem.run_pure]
            · simp only [VR]
              exact ⟨_, rfl, VRs_cons.2 ⟨_, _, rfl, by simp [VR], VRs_cons.2 ⟨_, _, rfl, hk1, VRs_cons.2 ⟨_, _, rfl, hk2, rfl⟩⟩⟩⟩
      · cases h
    · cases h
  · cases h

end Pe
