/- Regions whose orders are drawn, second part; steps. -/
import Derived.Test.YtnmfbmfefjcnfaaGreatDoorKf
set_option linter.unusedSectionVars false
namespace Pe
open Go

section
variable {C : Cfg} {E : Evs} {ops : Array Oper} {S : Nat → Fr × AW} {V : Nat → AV}
variable {ρ0 : Rho} {w0 : World} {a0 : Act} {T : Nat → Prop} {N : Nat} {ρ1 : Rho} {w : World} {a : Act} {pl : Nat → Loc}

theorem MkJ.of {k : Nat} {ob : AO} {sl : Option (Nat × Cap)} {mp : Bool} (h : MkAt C ops S k ob sl mp) : MkJ C ops S k := ⟨_, _, _, h⟩
theorem MkJ.lt (R : Run C E ops S V) {j : Nat} (h : MkJ C ops S j) : j < ops.size := by obtain ⟨_, _, _, h⟩ := h; exact (R.mk_kind h).2.2
theorem MkAt.fn {k : Nat} {ob ob' : AO} {sl sl' : Option (Nat × Cap)} {mp mp' : Bool} (h : MkAt C ops S k ob sl mp) (h' : MkAt C ops S k ob' sl' mp') : ob = ob' ∧ sl = sl' ∧ mp = mp' := by
  obtain ⟨o, h1, _, h2⟩ := h
  obtain ⟨o', h3, _, h4⟩ := h'
  rw [h1] at h3; cases h3
  rw [h2] at h4; cases h4
  exact ⟨rfl, rfl, rfl⟩

/-- How an operation that does not act turns the heap of the text's run: not at all; or it makes an object; or it fills a map. -/
theorem Run.calm (R : Run C E ops S V) {k : Nat} (hk : k < ops.size) (hn : ¬ ActAt C ops S k) :
    ((S (k + 1)).2 = (S k).2 ∧ (∀ j, kvAt C ops S j k = none) ∧ ¬ MkJ C ops S k) ∨ (∃ ob sl mp, MkAt C ops S k ob sl mp ∧ (S (k + 1)).2 = (S k).2.new ob ∧ ∀ j, kvAt C ops S j k = none) ∨
    ∃ j kv es ver, j < k ∧ MkJ C ops S j ∧ MkAt C ops S j (.map [] 0) none true ∧ kvAt C ops S j k = some kv ∧ (∀ j', MkJ C ops S j' → j' ≠ j → kvAt C ops S j' k = none) ∧ (S k).2.heap.get (idOf S j) = some (.map es ver) ∧ (S (k + 1)).2 = (S k).2.put (idOf S j) (.map (es ++ [kv]) (ver + 1)) ∧ ¬ MkJ C ops S k := by
  obtain ⟨o, ho⟩ := lt_op hk
  have hkind := (R.kind ho).1
  have noMk : (∀ ob sl mp, wantedA (S k).1 ops o = some true → cls C.P (S k).1 o ≠ some (.mk ob sl mp)) → ¬ MkJ C ops S k := by
    rintro hh ⟨ob, sl, mp, o', h1, h2, h3⟩
    rw [ho] at h1; cases h1
    exact hh _ _ _ h2 h3
  have noKv : (wantedA (S k).1 ops o ≠ some true ∨ fills o = none ∨ ∀ m kk vv, cls C.P (S k).1 o ≠ some (.eff (.mapPut m kk vv))) → ∀ j, kvAt C ops S j k = none := by
    intro hh j
    cases hkv : kvAt C ops S j k with
    | none => rfl
    | some kv =>
      obtain ⟨o', t, h1, h2, h3, h4⟩ := kvAt_some hkv
      rw [ho] at h1; cases h1
      rcases hh with hh | hh | hh
      · exact (hh h2).elim
      · rw [hh] at h3; cases h3
      · exact (hh _ _ _ h4).elim
  generalize hS : (S (k + 1)).2 = σ' at hkind
  generalize V k = v at hkind
  cases hkind with
  | skip hw => exact .inl ⟨rfl, noKv (.inl (by rw [hw]; simp)), noMk (fun _ _ _ h => by rw [hw] at h; cases h)⟩
  | val hw hc => exact .inl ⟨rfl, noKv (.inr (.inr (by rw [hc]; simp))), noMk (fun _ _ _ _ => by rw [hc]; simp)⟩
  | rd hw hc _ => exact .inl ⟨rfl, noKv (.inr (.inr (by rw [hc]; simp))), noMk (fun _ _ _ _ => by rw [hc]; simp)⟩
  | mk hw hc => exact .inr (.inl ⟨_, _, _, ⟨o, ho, hw, hc⟩, rfl, noKv (.inr (.inr (by rw [hc]; simp)))⟩)
  | ins hw hf hc hm hfk =>
    rename_i t m kk vv es ver
    obtain ⟨j, g1, g2, g3, g4, g5, g6⟩ := R.ins ho hf hc
    subst g6
    refine .inr (.inr ⟨j, (kk, vv), es, ver, g1, .of g5, g5, ?_, ?_, hm, rfl, noMk (fun _ _ _ _ => by rw [hc]; simp)⟩)
    · rw [kvAt_of ho hw hf hc, if_pos rfl]
    · intro j' hj' hne
      rw [kvAt_of ho hw hf hc, if_neg]
      intro e
      exact hne (R.id_inj hj' (.of g5) e.symm)
  | eff hw hf hc => exact (hn ⟨o, ho, hw, .inl ⟨_, hf, hc⟩⟩).elim
  | call hw hc => exact (hn ⟨o, ho, hw, .inr ⟨_, _, hc⟩⟩).elim

theorem withEnts_nil {ob : AO} : ∃ ver, withEnts ob [] ver = ob := by
  cases ob with
  | map es v => exact ⟨v, by simp [withEnts]⟩
  | _ => exact ⟨0, rfl⟩

theorem Run.noFill (R : Run C E ops S V) {j k : Nat} (hj : MkJ C ops S j) (h : k ≤ j) : kvAt C ops S j k = none := by
  cases hkv : kvAt C ops S j k with
  | none => rfl
  | some kv => have := (R.fill hj hkv).1; omega

/-- The text's state moves on over an operation that does not act. -/
theorem Core.drift1 (h : Core C ops S ρ0 w0 a0 T N ρ1 w a pl) (R : Run C E ops S V) (hN : N < ops.size) (hn : ¬ ActAt C ops S N) : Core C ops S ρ0 w0 a0 T (N + 1) ρ1 w a pl := by
  have h0 : (S 0).2.next ≤ (S N).2.next := R.mono (by omega) (by omega)
  have hnext : (S N).2.next ≤ (S (N + 1)).2.next := R.mono (by omega) (by omega)
  have hNlt : ∀ k, k < N + 1 → ActAt C ops S k → T k := fun k hk ha => by
    by_cases e : k = N
    · subst e; exact (hn ha).elim
    · exact h.Nlt k (by omega) ha
  have hmkU : ∀ j, MkJ C ops S j → ρ1 (idOf S j) ≠ none → ∀ u, Us C ops S j u → T u ∧ u < N + 1 := fun j hj hk u hu => ⟨(h.mkU j hj hk u hu).1, by have := (h.mkU j hj hk u hu).2; omega⟩
  rcases R.calm hN hn with ⟨e1, e2, e3⟩ | ⟨ob, sl, mp, e1, e2, e3⟩ | ⟨j, kv, es, ver, e1, e2, e3, e4, e5, e6, e7, e8⟩
  · -- nothing
    refine ⟨h.tn, h.down, hN, hNlt, by rw [e1]; exact h.sim, by rw [e1]; exact h.post, hmkU, ?_, by rw [e1]; exact h.side, h.apart, h.size, h.defs, h.weak, h.strong⟩
    intro j ob sl mp hj hlt hk
    have hjN : j ≠ N := by rintro rfl; exact e3 (.of hj)
    rw [e1, ents_succ, e2 j, only]
    simpa using h.txt j ob sl mp hj (by omega) hk
  · -- an object
    have hid : ρ1 (idOf S N) = none := h.sim.fresh (Nat.le_refl _)
    have hg : ∀ id, ρ1 id ≠ none → (S (N + 1)).2.heap.get id = (S N).2.heap.get id := by
      intro id hk
      rw [e2, get_new, if_neg]
      rintro rfl; exact hk hid
    refine ⟨h.tn, h.down, hN, hNlt, h.sim.same hnext hg, h.post.same hnext (by rw [e2]; exact Nat.le_refl _) (fun id hlt => by rw [e2, get_new, if_neg (by omega)]) hg, hmkU, ?_, ?_, h.apart, h.size, h.defs, h.weak, h.strong⟩
    · intro j ob' sl' mp' hj hlt hk
      rw [ents_succ, e3 j, only]
      by_cases hjN : j = N
      · subst hjN
        obtain ⟨rfl, _, _⟩ := e1.fn hj
        have : ents C ops S j (fun _ => True) j = [] := by
          have := ents_more (C := C) (ops := ops) (S := S) (j := j) (T := fun _ => True) (k := 0) (m := j) (Nat.zero_le _) (fun u _ hu _ => R.noFill (.of hj) (by omega))
          rw [this]; rfl
        rw [this]
        obtain ⟨ver, hver⟩ := withEnts_nil (ob := ob)
        refine ⟨ver, ?_⟩
        simp only [ite_self, Option.toList_none, List.append_nil]
        rw [hver, e2, get_new, if_pos (show idOf S j = (S j).2.next from rfl)]
      · have := R.id_lt (.of hj) (k := N) (by omega) (by omega)
        rw [e2, get_new, if_neg (by simp only [idOf] at this ⊢; omega)]
        simpa using h.txt j ob' sl' mp' hj (by omega) hk
    · intro j ob' sl' mp' hj ht hk
      obtain ⟨g1, g2, g3, g4⟩ := h.side j ob' sl' mp' hj ht hk
      exact ⟨g1, g2, fun ho => g3 ((owned_same hg).1 ho), g4⟩
  · -- an entry of a map
    have hid : ρ1 (idOf S j) = none := by
      cases hh : ρ1 (idOf S j) with
      | none => rfl
      | some l => have := (h.mkU j e2 (by rw [hh]; simp) N (.inr ⟨kv, e4⟩)).2; omega
    have hg : ∀ id, ρ1 id ≠ none → (S (N + 1)).2.heap.get id = (S N).2.heap.get id := by
      intro id hk
      rw [e7, get_put, if_neg]
      rintro rfl; exact hk hid
    have hj0 : (S 0).2.next ≤ idOf S j := R.id_ge e2 (Nat.zero_le _)
    refine ⟨h.tn, h.down, hN, hNlt, h.sim.same hnext hg, h.post.same hnext (by rw [e7]; simp only [AW.put]; split <;> omega) (fun id hlt => by rw [e7, get_put, if_neg (by omega)]) hg, hmkU, ?_, ?_, h.apart, h.size, h.defs, h.weak, h.strong⟩
    · intro j' ob' sl' mp' hj' hlt hk
      have hjN : j' ≠ N := by rintro rfl; exact e8 (.of hj')
      obtain ⟨ver', hv⟩ := h.txt j' ob' sl' mp' hj' (by omega) hk
      rw [ents_succ]
      by_cases hjj : j' = j
      · subst hjj
        obtain ⟨rfl, _, _⟩ := e3.fn hj'
        rw [e6] at hv
        simp only [withEnts, List.nil_append, Option.some.injEq, AO.map.injEq] at hv
        refine ⟨ver + 1, ?_⟩
        rw [e7, get_put, if_pos rfl, e4, only_pos trivial]
        simp [withEnts, hv.1]
      · rw [e5 j' (.of hj') hjj, only]
        refine ⟨ver', ?_⟩
        rw [e7, get_put, if_neg (fun e => hjj (R.id_inj (.of hj') e2 e))]
        simpa using hv
    · intro j' ob' sl' mp' hj' ht hk
      obtain ⟨g1, g2, g3, g4⟩ := h.side j' ob' sl' mp' hj' ht hk
      exact ⟨g1, g2, fun ho => g3 ((owned_same hg).1 ho), g4⟩

theorem Core.drift (R : Run C E ops S V) : ∀ (d : Nat) {N : Nat}, N + d = ops.size → Core C ops S ρ0 w0 a0 T N ρ1 w a pl → ∃ N', N ≤ N' ∧ Core C ops S ρ0 w0 a0 T N' ρ1 w a pl ∧ (N' = ops.size ∨ ActAt C ops S N')
  | 0, N, hd, h => ⟨N, Nat.le_refl _, h, .inl (by omega)⟩
  | d + 1, N, hd, h => by
    by_cases ha : ActAt C ops S N
    · exact ⟨N, Nat.le_refl _, h, .inr ha⟩
    · obtain ⟨N', h1, h2, h3⟩ := Core.drift R d (N := N + 1) (by omega) (h.drift1 R (by omega) ha)
      exact ⟨N', by omega, h2, h3⟩

/-- All that is whole comes to be known. -/
theorem Core.adopt (h : Core C ops S ρ0 w0 a0 T N ρ1 w a pl) (R : Run C E ops S V) : ∃ ρ1', Core C ops S ρ0 w0 a0 T N ρ1' w a pl ∧ ∀ j, MkJ C ops S j → (∀ u, Us C ops S j u → T u ∧ u < N) → ρ1' (idOf S j) ≠ none := by
  let W : Nat → Prop := fun j => ∀ u, Us C ops S j u → T u ∧ u < N
  let ρ1' : Rho := plus ρ1 (Aset C ops S T W) pl
  have hle : ρ1.le ρ1' := le_plus
  have hnew : ∀ id l, ρ1' id = some l → ρ1 id = none → ∃ j, MkJ C ops S j ∧ W j ∧ idOf S j = id ∧ l = pl id := by
    intro id l h1 h2
    rcases plus_some h1 with h3 | ⟨_, ⟨j, g1, _, g3, g4⟩, g5⟩
    · rw [h2] at h3; cases h3
    · exact ⟨j, g1, g4, g3, g5⟩
  have tj : ∀ {j}, W j → T j := fun hw => (hw _ (.inl rfl)).1
  have hcol : ∀ j, MkJ C ops S j → T j → ρ1 (idOf S j) = none → ∀ l, ρ1' (idOf S j) = some l → l = pl (idOf S j) := fun j _ _ h0 l hl => by
    obtain ⟨_, _, _, _, e⟩ := hnew _ _ hl h0; exact e
  have hmono : ∀ Bp, (plus ρ1 (Aset C ops S T Bp) pl).le (plus ρ1' (Aset C ops S T Bp) pl) := plus_mono hle (fun _ h => h) (fun _ _ _ _ => rfl) hcol
  have hor : ∀ j, MkJ C ops S j → W j → ρ1 (idOf S j) = none → idOf S j < (S N).2.next ∧ (pl (idOf S j)).b < w.heap.size ∧ w0.heap.size ≤ (pl (idOf S j)).b ∧ ¬ Owned ρ1 (S N).2 (pl (idOf S j)).b ∧ ∃ o, (S N).2.heap.get (idOf S j) = some o ∧ OR C.P ρ1' (S N).2 (pl (idOf S j)) w o := by
    intro j hj hw h0
    obtain ⟨ob, sl, mp, hm⟩ := hj
    obtain ⟨g1, g2, g3, g4⟩ := h.side j ob sl mp hm (tj hw) h0
    have hjN := (hw j (.inl rfl)).2
    obtain ⟨ver, hv⟩ := h.txt j ob sl mp hm hjN h0
    refine ⟨R.id_lt (.of hm) hjN h.Nle, g1, g2, g3, _, hv, ?_⟩
    have hents : ents C ops S j (fun _ => True) N = ents C ops S j T ops.size := by
      rw [ents_more (C := C) (ops := ops) (S := S) (j := j) (T := T) (k := N) (m := ops.size) h.Nle (fun u h1 h2 _ => by
        cases hkv : kvAt C ops S j u with
        | none => rfl
        | some kv => have := (hw u (.inr ⟨kv, hkv⟩)).2; omega)]
      exact ents_congr fun u _ hkv => ⟨fun _ => (hw u (.inr hkv)).1, fun _ => trivial⟩
    rw [hents]
    refine g4 ρ1' ?_ ver _
    refine Aset_mono fun j' hj' _ hb u' hu' => ?_
    obtain ⟨u, hu, hbu⟩ := hb u' hu'
    have := hw u hu
    exact ⟨h.down u u' this.1 hbu, by have := bef_lt R.facts.back u hbu; omega⟩
  have hsim : Sim C.P ρ1' (S N).2 w := by
    refine h.sim.change (fun id => ρ1 id = none) hle (Nat.le_refl _) (Nat.le_refl _) (fun _ _ _ h0 => h0) ?_ (fun _ _ _ _ => ⟨rfl, fun _ _ _ => rfl⟩) (fun id l es v hl ht _ => (by rw [ht] at hl; cases hl)) ?_
    · intro id l hl h0
      obtain ⟨j, g1, g2, rfl, rfl⟩ := hnew id l hl h0
      obtain ⟨k1, k2, _, _, o, k3, k4⟩ := hor j g1 g2 h0
      exact ⟨k1, o, k3, fun _ => k2, k4⟩
    · intro id id' l l' o o' h0 hl hl' ho ho' hv hv' hb
      obtain ⟨j, g1, g2, rfl, rfl⟩ := hnew id l hl h0
      obtain ⟨_, _, _, k3, _⟩ := hor j g1 g2 h0
      cases h0' : ρ1 id' with
      | some l0 =>
        have := hle id' l0 h0'
        rw [hl'] at this; cases this
        exact (k3 ⟨id', l', o', h0', ho', hv', hb.symm⟩).elim
      | none =>
        obtain ⟨j', g1', g2', rfl, rfl⟩ := hnew id' l' hl' h0'
        rw [h.apart j j' g1 g1' (tj g2) (tj g2') h0 h0' hb]
  refine ⟨ρ1', ⟨h.tn, h.down, h.Nle, h.Nlt, hsim, h.post.adopt hle ?_, ?_, ?_, ?_, ?_, h.size, h.defs, ?_, ?_⟩, ?_⟩
  · intro id l hl h0
    obtain ⟨j, g1, g2, rfl, rfl⟩ := hnew id l hl h0
    exact ⟨R.id_ge g1 (Nat.zero_le _), (hor j g1 g2 h0).2.2.1⟩
  · intro j hj hk
    cases h0 : ρ1 (idOf S j) with
    | some l => exact h.mkU j hj (by rw [h0]; simp)
    | none =>
      cases h1 : ρ1' (idOf S j) with
      | none => exact (hk h1).elim
      | some l =>
        obtain ⟨j', g1, g2, g3, _⟩ := hnew _ _ h1 h0
        rw [R.id_inj hj g1 g3.symm]
        exact g2
  · intro j ob sl mp hj hlt hk
    exact h.txt j ob sl mp hj hlt (by
      cases h0 : ρ1 (idOf S j) with
      | none => rfl
      | some l => rw [hle _ _ h0] at hk; cases hk)
  · intro j ob sl mp hj ht hk
    have h0 : ρ1 (idOf S j) = none := by
      cases h0 : ρ1 (idOf S j) with
      | none => rfl
      | some l => rw [hle _ _ h0] at hk; cases hk
    obtain ⟨g1, g2, g3, g4⟩ := h.side j ob sl mp hj ht h0
    refine ⟨g1, g2, ?_, fun ρ2 hρ2 => g4 ρ2 ((hmono _).trans hρ2)⟩
    rintro ⟨id, l, o, k1, k2, k3, k4⟩
    cases h1 : ρ1 id with
    | some l0 =>
      have := hle id l0 h1
      rw [k1] at this; cases this
      exact g3 ⟨id, l, o, h1, k2, k3, k4⟩
    | none =>
      obtain ⟨j', q1, q2, rfl, rfl⟩ := hnew id l k1 h1
      have := h.apart j' j q1 (.of hj) (tj q2) ht h1 h0 k4
      subst this
      rw [k1] at hk; cases hk
  · intro j j' hj hj' ht ht' hk hk'
    have none_of : ∀ {id}, ρ1' id = none → ρ1 id = none := by
      intro id hk
      cases h0 : ρ1 id with
      | none => rfl
      | some l => rw [hle _ _ h0] at hk; cases hk
    exact h.apart j j' hj hj' ht ht' (none_of hk) (none_of hk')
  · exact fun i hi hn t hm hall => VR.mono (hmono _) _ _ (h.weak i hi hn t hm hall)
  · exact fun i hi hn t hm hall => VR.mono (hmono _) _ _ (h.strong i hi hn t hm hall)
  · intro j hj hw
    cases h0 : ρ1 (idOf S j) with
    | some l => rw [hle _ _ h0]; simp
    | none =>
      have : ρ1' (idOf S j) = some (pl (idOf S j)) := plus_new h0 ⟨j, hj, tj hw, rfl, hw⟩
      rw [this]; simp

end
end Pe

namespace Pe
open Go

section
variable {C : Cfg} {E : Evs} {ops : Array Oper} {S : Nat → Fr × AW} {V : Nat → AV}
variable {ρ0 : Rho} {w0 : World} {a0 : Act} {T : Nat → Prop} {N : Nat} {ρ1 : Rho} {w : World} {a : Act} {pl : Nat → Loc}

def Whole (C : Cfg) (ops : Array Oper) (S : Nat → Fr × AW) (T : Nat → Prop) (N : Nat) (ρ1 : Rho) : Prop := ∀ j, MkJ C ops S j → (∀ u, Us C ops S j u → T u ∧ u < N) → ρ1 (idOf S j) ≠ none
def Front (C : Cfg) (ops : Array Oper) (S : Nat → Fr × AW) (T : Nat → Prop) (N : Nat) : Prop := N = ops.size ∨ (ActAt C ops S N ∧ ¬ T N)

def Inv (C : Cfg) (ops : Array Oper) (S : Nat → Fr × AW) (ρ0 : Rho) (w0 : World) (a0 : Act) (T : Nat → Prop) (w : World) (a : Act) : Prop :=
  ∃ N ρ1 pl, Core C ops S ρ0 w0 a0 T N ρ1 w a pl ∧ Whole C ops S T N ρ1 ∧ Front C ops S T N

theorem Core.inv (h : Core C ops S ρ0 w0 a0 T N ρ1 w a pl) (R : Run C E ops S V) (hf : Front C ops S T N) : Inv C ops S ρ0 w0 a0 T w a := by
  obtain ⟨ρ1', h1, h2⟩ := h.adopt R
  exact ⟨N, ρ1', pl, h1, h2, hf⟩

theorem ents_also {i j : Nat} (hk : kvAt C ops S j i = none) {k : Nat} : ents C ops S j (also T i) k = ents C ops S j T k := by
  refine ents_congr fun u _ hkv => ⟨fun hh => ?_, .inl⟩
  rcases hh with hh | rfl
  · exact hh
  · obtain ⟨kv, hkv⟩ := hkv
    rw [hk] at hkv; cases hkv

/-- One operation is about to be taken. -/
structure Turn (ops : Array Oper) (T : Nat → Prop) (i : Nat) (o : Oper) : Prop where
  op : ops[i]? = some o
  un : ¬ T i
  bf : ∀ j, bef ops i j → T j

theorem Core.all_writers (R : Run C E ops S V) {i : Nat} {o : Oper} (ht : Turn ops T i o) {t : Tmp} (hm : ment ops i t) : ∀ j, j < i → writes ops j t → T j := by
  intro j hj hw
  rcases R.order hm hw with h | ⟨_, h | h⟩ | ⟨h, _⟩
  · omega
  · have := op_lt ht.op; omega
  · exact ht.bf j h
  · omega

theorem Core.tmp (h : Core C ops S ρ0 w0 a0 T N ρ1 w a pl) (R : Run C E ops S V) {i : Nat} {o : Oper} (ht : Turn ops T i o) {t : Tmp} (hs : t ∈ seesOf o) : VR (plus ρ1 (Aset C ops S T (inBef C ops S i)) pl) ((S i).1.get t) (a.tmps.getD t undef) :=
  have hsee : sees ops i t := .inr ⟨o, ht.op, hs⟩
  h.strong i (Nat.le_of_lt (op_lt ht.op)) ht.un t hsee (Core.all_writers R ht (sees_ment hsee))

theorem eval_of {ρ : Rho} {fr : Fr} {x : Operand} (hx : ∀ t, x = .tmp t → VR ρ (fr.get t) (a.tmps.getD t undef)) {u : AV} (hu : fr.eval x = some u) : VR ρ u (a.eval x) := by
  cases x with
  | tmp t => simp only [Fr.eval, Option.some.injEq] at hu; subst hu; exact hx t rfl
  | const v => simp only [Fr.eval] at hu; exact emb_VR hu ρ
  | global g => simp [Fr.eval] at hu
  | func f => simp only [Fr.eval, Option.some.injEq] at hu; subst hu; simp only [VR, Act.eval]; exact ⟨#[], #[], rfl, rfl, rfl⟩

theorem sees_all {o : Oper} (hf : fills o = none) {t : Tmp} (h : .tmp t ∈ o.op.operands.toList) : t ∈ seesOf o := by
  unfold seesOf
  split
  · rename_i ty x k v hop
    simp [fills, hop] at hf
  · simp only [List.mem_filterMap]; exact ⟨_, h, rfl⟩

theorem Core.operands (h : Core C ops S ρ0 w0 a0 T N ρ1 w a pl) (R : Run C E ops S V) {i : Nat} {o : Oper} (ht : Turn ops T i o) (hf : fills o = none) : EvalRel (plus ρ1 (Aset C ops S T (inBef C ops S i)) pl) (S i).1 a o.op.operands.toList :=
  fun _ hx _ hu => eval_of (fun _ e => h.tmp R ht (sees_all hf (by rw [← e]; exact hx))) hu

theorem Core.bound (h : Core C ops S ρ0 w0 a0 T N ρ1 w a pl) (R : Run C E ops S V) {Bp : Nat → Prop} : ∀ id l, plus ρ1 (Aset C ops S T Bp) pl id = some l → id < (S ops.size).2.next := by
  intro id l hl
  rcases plus_some hl with h1 | ⟨_, ⟨j, h2, _, rfl, _⟩, _⟩
  · have := (h.sim.obj id l h1).1
    have := R.mono (i := N) (k := ops.size) h.Nle (Nat.le_refl _)
    omega
  · exact R.id_lt h2 (h2.lt R) (Nat.le_refl _)

theorem Core.wanted (h : Core C ops S ρ0 w0 a0 T N ρ1 w a pl) (R : Run C E ops S V) {i : Nat} {o : Oper} (ht : Turn ops T i o) {b : Bool} (hw : wantedA (S i).1 ops o = some b) : Region.wanted o (yielded ops a.tmps) = b ∧ ∀ d, o.dst = some d → d < a.tmps.size := by
  have hi := Nat.le_of_lt (op_lt ht.op)
  have := wanted_by (ρ := plus ρ1 (Aset C ops S T fun _ => True) pl) (a := a) (fun d hd => by
    have hm : ment ops i d := .inr ⟨o, ht.op, List.mem_append_right _ hd⟩
    exact h.weak i hi ht.un d hm (Core.all_writers R ht hm)) hw
  refine ⟨this.1, fun d hd => ?_⟩
  have h2 := this.2
  unfold dstOk at h2
  rw [hd] at h2
  rw [h.size, ← (R.nt hi).1]
  exact Nat.le_of_ble_eq_true h2

theorem Core.down_also (h : Core C ops S ρ0 w0 a0 T N ρ1 w a pl) {i : Nat} {o : Oper} (ht : Turn ops T i o) : Down ops (also T i) := by
  rintro k j (hk | rfl) hb
  · exact .inl (h.down k j hk hb)
  · exact .inl (ht.bf j hb)

/-- The world stays. -/
theorem Core.pure (h : Core C ops S ρ0 w0 a0 T N ρ1 w a pl) (R : Run C E ops S V) {i : Nat} {o : Oper} (ht : Turn ops T i o) (hf : Front C ops S T N) (hn : ¬ ActAt C ops S i) (hm : ¬ MkJ C ops S i) (hk : ∀ j, kvAt C ops S j i = none) {v : Value}
    (hd : ∀ d, o.dst = some d → d < a.tmps.size) (hv : VR (plus ρ1 (Aset C ops S T (inBef C ops S i)) pl) (V i) v) : Inv C ops S ρ0 w0 a0 (also T i) w (a.put o.dst v) := by
  have hmono : ∀ Bp, (plus ρ1 (Aset C ops S T Bp) pl).le (plus ρ1 (Aset C ops S (also T i) Bp) pl) := plus_mono (Rho.le.refl _) (fun _ => .inl) (fun _ _ _ _ => rfl) (fun j _ _ h0 l hl => by rw [h0] at hl; cases hl)
  obtain ⟨hwk, hst⟩ := h.after R ht.op ht.un ht.bf (pl' := pl) (v := v) hmono (VR.mono ((hmono _).trans (Aset_mono fun _ _ _ hB => .inl hB)) _ _ hv) hd
  have hTj : ∀ {j}, MkJ C ops S j → also T i j → T j := by
    rintro j hj (h1 | rfl)
    · exact h1
    · exact (hm hj).elim
  have hC : Core C ops S ρ0 w0 a0 (also T i) N ρ1 w (a.put o.dst v) pl := by
    refine ⟨?_, h.down_also ht, h.Nle, fun k h1 h2 => .inl (h.Nlt k h1 h2), h.sim, h.post, fun j hj hk u hu => ⟨.inl (h.mkU j hj hk u hu).1, (h.mkU j hj hk u hu).2⟩, h.txt, ?_, ?_, ?_, ?_, hwk, hst⟩
    · rintro k (h1 | rfl)
      · exact h.tn k h1
      · exact op_lt ht.op
    · intro j ob sl mp hj hT h0
      obtain ⟨g1, g2, g3, g4⟩ := h.side j ob sl mp hj (hTj (.of hj) hT) h0
      refine ⟨g1, g2, g3, fun ρ2 hρ2 ver σ2 => ?_⟩
      rw [ents_also (hk j)]
      exact g4 ρ2 ((hmono _).trans hρ2) ver σ2
    · exact fun j j' hj hj' h1 h2 => h.apart j j' hj hj' (hTj hj h1) (hTj hj' h2)
    · rw [← h.size]; cases o.dst <;> simp [Act.put]
    · rw [← h.defs]; cases o.dst <;> rfl
  refine hC.inv R ?_
  rcases hf with hf | ⟨hf, hf2⟩
  · exact .inl hf
  · refine .inr ⟨hf, ?_⟩
    rintro (h1 | rfl)
    · exact hf2 h1
    · exact hn hf

/-- A new object. -/
theorem Core.make (h : Core C ops S ρ0 w0 a0 T N ρ1 w a pl) (R : Run C E ops S V) {i : Nat} {o : Oper} (ht : Turn ops T i o) (hf : Front C ops S T N) {ob : AO} {sl : Option (Nat × Cap)} {mp : Bool} (hmk : MkAt C ops S i ob sl mp) (hn : ¬ ActAt C ops S i) (hk : ∀ j, kvAt C ops S j i = none)
    (hd : ∀ d, o.dst = some d → d < a.tmps.size) {v : Value} {O : Obj} {l : Loc} {w' : World} (hw : w'.heap = w.heap.push O) (hio : SameIO w w') (hl : l.b = w.heap.size) (hv : ∀ (ρ2 : Rho) id, ρ2 id = some l → VR ρ2 (mkVal sl mp id) v)
    (hor : ∀ (ρ2 : Rho) (σ2 : AW), (plus ρ1 (Aset C ops S T (inBef C ops S i)) pl).le ρ2 → OR C.P ρ2 σ2 l w' ob) : Inv C ops S ρ0 w0 a0 (also T i) w' (a.put o.dst v) := by
  let pl' : Nat → Loc := fun id => if id = idOf S i then l else pl id
  have hmi : MkJ C ops S i := .of hmk
  have hpl : ∀ j, MkJ C ops S j → T j → pl' (idOf S j) = pl (idOf S j) := by
    intro j hj hT
    simp only [pl']
    rw [if_neg]
    intro e
    have := R.id_inj hj hmi e
    subst this
    exact ht.un hT
  have hpli : pl' (idOf S i) = l := by simp [pl']
  have h0i : ρ1 (idOf S i) = none := by
    cases hh : ρ1 (idOf S i) with
    | none => rfl
    | some l0 => exact (ht.un (h.mkU i hmi (by rw [hh]; simp) i (.inl rfl)).1).elim
  have hmono : ∀ Bp, (plus ρ1 (Aset C ops S T Bp) pl).le (plus ρ1 (Aset C ops S (also T i) Bp) pl') := plus_mono (Rho.le.refl _) (fun _ => .inl) (fun j hj hT _ => hpl j hj hT) (fun j _ _ h0 l hl => by rw [h0] at hl; cases hl)
  have hsz : w'.heap.size = w.heap.size + 1 := by rw [hw]; simp
  have hold : ∀ b, b < w.heap.size → w'.heap[b]? = w.heap[b]? := by
    intro b hb
    rw [hw, Array.getElem?_push, if_neg (by omega)]
  have hVi : V i = mkVal sl mp (idOf S i) := (R.mk_kind hmk).1
  obtain ⟨hwk, hst⟩ := h.after R ht.op ht.un ht.bf (pl' := pl') (v := v) hmono (by
    rw [hVi]
    exact hv _ _ (by rw [plus_new h0i ⟨i, hmi, .inr rfl, rfl, .inr rfl⟩, hpli])) hd
  have howned : ∀ {b}, Owned ρ1 (S N).2 b → b < w.heap.size := fun ho => owned_lt h.sim ho
  have hC : Core C ops S ρ0 w0 a0 (also T i) N ρ1 w' (a.put o.dst v) pl' := by
    refine ⟨?_, h.down_also ht, h.Nle, fun k h1 h2 => .inl (h.Nlt k h1 h2), h.sim.touch (by omega) (fun b hb => hold b (howned hb)), h.post.world (by omega) (fun b hb => hold b (by have := h.post.size; omega)) hio, fun j hj hk u hu => ⟨.inl (h.mkU j hj hk u hu).1, (h.mkU j hj hk u hu).2⟩, h.txt, ?_, ?_, ?_, ?_, hwk, hst⟩
    · rintro k (h1 | rfl)
      · exact h.tn k h1
      · exact op_lt ht.op
    · intro j ob' sl' mp' hj hT h0
      rw [ents_also (hk j)]
      by_cases hji : j = i
      · subst hji
        obtain ⟨rfl, _, _⟩ := hmk.fn hj
        have hnil : ents C ops S j T ops.size = [] := by
          have h1 := ents_more (C := C) (ops := ops) (S := S) (j := j) (T := T) (k := 0) (m := ops.size) (Nat.zero_le _) (fun u _ _ hT => by
            cases hkv : kvAt C ops S j u with
            | none => rfl
            | some kv => exact (ht.un (h.down u j hT (R.fill hmi hkv).2.1)).elim)
          rw [h1]; rfl
        rw [hnil, hpli]
        refine ⟨by omega, by have := h.post.size; omega, fun ho => by have := howned ho; omega, fun ρ2 hρ2 ver σ2 => ?_⟩
        have := hor ρ2 σ2 (Rho.le.trans ?_ hρ2)
        · cases hob : ob with
          | map es v' => rw [hob] at this; obtain ⟨ES, ck, q1, q2⟩ := this; exact ⟨ES, ck, q1, by simpa using q2⟩
          | _ => rw [hob] at this; exact this
        · refine (hmono _).trans (Aset_mono fun j' _ _ hB u' hu' => ?_)
          rcases hB u' hu' with hB | hB
          · have := op_lt ht.op; omega
          · exact ⟨j, .inl rfl, hB⟩
      · have hTj : T j := hT.elim id fun e => (hji e).elim
        obtain ⟨g1, g2, g3, g4⟩ := h.side j ob' sl' mp' hj hTj h0
        rw [hpl j (.of hj) hTj]
        refine ⟨by omega, g2, g3, fun ρ2 hρ2 ver σ2 => ?_⟩
        exact or_keep (g4 ρ2 ((hmono _).trans hρ2) ver) (hold _ g1) σ2
    · intro j j' hj hj' h1 h2 k1 k2 hb
      by_cases hji : j = i
      · by_cases hji' : j' = i
        · rw [hji, hji']
        · have hTj : T j' := h2.elim id fun e => (hji' e).elim
          obtain ⟨ob', sl', mp', hj''⟩ := hj'
          have := (h.side j' ob' sl' mp' hj'' hTj k2).1
          subst hji
          rw [hpli, hpl j' (.of hj'') hTj] at hb
          omega
      · have hTj : T j := h1.elim id fun e => (hji e).elim
        by_cases hji' : j' = i
        · obtain ⟨ob', sl', mp', hj''⟩ := hj
          have := (h.side j ob' sl' mp' hj'' hTj k1).1
          subst hji'
          rw [hpli, hpl j (.of hj'') hTj] at hb
          omega
        · have hTj' : T j' := h2.elim id fun e => (hji' e).elim
          rw [hpl j hj hTj, hpl j' hj' hTj'] at hb
          exact h.apart j j' hj hj' hTj hTj' k1 k2 hb
    · rw [← h.size]; cases o.dst <;> simp [Act.put]
    · rw [← h.defs]; cases o.dst <;> rfl
  refine hC.inv R ?_
  rcases hf with hf | ⟨hf, hf2⟩
  · exact .inl hf
  · refine .inr ⟨hf, ?_⟩
    rintro (h1 | rfl)
    · exact hf2 h1
    · exact hn hf

end
end Pe

namespace Pe
open Go

section
variable {C : Cfg} {E : Evs} {ops : Array Oper} {S : Nat → Fr × AW} {V : Nat → AV}
variable {ρ0 : Rho} {w0 : World} {a0 : Act} {T : Nat → Prop} {N : Nat} {ρ1 : Rho} {w : World} {a : Act} {pl : Nat → Loc}

theorem Run.keys (R : Run C E ops S V) {j u u' : Nat} {kv kv' : AV × AV} (h : kvAt C ops S j u = some kv) (h' : kvAt C ops S j u' = some kv') (hne : u ≠ u') : findK.eqKey kv.1 kv'.1 = some false := by
  obtain ⟨o, t, h1, h2, h3, h4⟩ := kvAt_some h
  obtain ⟨o', t', g1, g2, g3, g4⟩ := kvAt_some h'
  rcases Nat.lt_or_ge u u' with hlt | hge
  · rw [eqKey_comm]
    exact R.laid.keys u u' o o' _ _ _ hlt (by simpa using h1) (by simpa using g1) ⟨h2, ⟨t, h3⟩, _, h4⟩ ⟨g2, ⟨t', g3⟩, _, g4⟩
  · exact R.laid.keys u' u o' o _ _ _ (by omega) (by simpa using g1) (by simpa using h1) ⟨g2, ⟨t', g3⟩, _, g4⟩ ⟨h2, ⟨t, h3⟩, _, h4⟩

theorem ents_mem {j k : Nat} {kv : AV × AV} (h : kv ∈ ents C ops S j T k) : ∃ u, T u ∧ kvAt C ops S j u = some kv := by
  unfold ents at h
  obtain ⟨u, _, hu⟩ := List.mem_filterMap.1 h
  by_cases ht : T u
  · rw [only_pos ht] at hu; exact ⟨u, ht, hu⟩
  · rw [only_neg ht] at hu; cases hu

/-- An entry of a literal's map. -/
theorem Core.fillIn (h : Core C ops S ρ0 w0 a0 T N ρ1 w a pl) (R : Run C E ops S V) {i : Nat} {o : Oper} (ht : Turn ops T i o) (hf : Front C ops S T N) {t : Tmp} {m : Nat} {kk vv : AV} (hw : wantedA (S i).1 ops o = some true) (hfl : fills o = some t) (hc : cls C.P (S i).1 o = some (.eff (.mapPut m kk vv))) (hV : V i = .tup [])
    (hn : ¬ ActAt C ops S i) (hmi : ¬ MkJ C ops S i) (hd : ∀ d, o.dst = some d → d < a.tmps.size) : ∃ w', Gives C.P a o w undef w' ∧ Inv C ops S ρ0 w0 a0 (also T i) w' (a.put o.dst undef) := by
  obtain ⟨j, g1, g2, g3, g4, g5, rfl⟩ := R.ins ht.op hfl hc
  have hmj : MkJ C ops S j := .of g5
  have hkv : kvAt C ops S j i = some (kk, vv) := by rw [kvAt_of ht.op hw hfl hc, if_pos rfl]
  have hTj : T j := ht.bf j g2
  have h0 : ρ1 (idOf S j) = none := by
    cases hh : ρ1 (idOf S j) with
    | none => rfl
    | some l => exact (ht.un (h.mkU j hmj (by rw [hh]; simp) i (.inr ⟨_, hkv⟩)).1).elim
  obtain ⟨q1, q2, q3, q4⟩ := h.side j _ _ _ g5 hTj h0
  obtain ⟨ty, xk, xv, hop⟩ := fills_op hfl
  obtain ⟨c1, c2, c3, kt, et, c4, c5⟩ := insert_cls hop hc
  have hi := Nat.le_of_lt (op_lt ht.op)
  -- where the map lies
  have haddr : a.eval (.tmp t) = .map (some (pl (idOf S j)).b) := by
    have hm : ment ops i t := .inr ⟨o, ht.op, by simp [namesOf, hop, Op.operands]⟩
    have := h.weak i hi ht.un t hm (Core.all_writers R ht hm)
    rw [R.last g3 g1 hi g4, (R.mk_kind g5).1] at this
    simp only [mkVal, if_true, VR] at this
    obtain ⟨l, e1, e2⟩ := this
    rw [plus_new h0 ⟨j, hmj, hTj, rfl, trivial⟩] at e1
    cases e1
    exact e2
  have hsub : (plus ρ1 (Aset C ops S T (inBef C ops S i)) pl).le (plus ρ1 (Aset C ops S T (inBnd C ops S j)) pl) := by
    refine Aset_mono fun j' _ _ hB u' hu' => ?_
    rcases hB u' hu' with hB | hB
    · have := op_lt ht.op; omega
    · exact ⟨i, .inr ⟨_, hkv⟩, hB⟩
  have hkey : VR (plus ρ1 (Aset C ops S T (inBef C ops S i)) pl) kk (a.eval xk) := eval_of (fun t' e => h.tmp R ht (by simp [seesOf, hop, e])) c2
  have hval : VR (plus ρ1 (Aset C ops S T (inBef C ops S i)) pl) vv (a.eval xv) := eval_of (fun t' e => h.tmp R ht (by simp [seesOf, hop, e])) c3
  obtain ⟨ES, ck, k1, k2⟩ : ∃ ES ck, w.heap[(pl (idOf S j)).b]? = some (.map ES ck) ∧ ∀ ρ2, (plus ρ1 (Aset C ops S T (inBnd C ops S j)) pl).le ρ2 → MapRel ρ2 (ents C ops S j T ops.size) ES ck := by
    obtain ⟨ES, ck, k1, _⟩ := q4 _ (Rho.le.refl _) 0 ⟨.nil, 0, 0⟩
    refine ⟨ES, ck, k1, fun ρ2 hρ2 => ?_⟩
    obtain ⟨ES', ck', k3, k4⟩ := q4 ρ2 hρ2 0 ⟨.nil, 0, 0⟩
    rw [k1] at k3; cases k3
    simpa using k4
  have hnew : ∀ kv ∈ ents C ops S j T ops.size, findK.eqKey kk kv.1 = some false := by
    intro kv hmem
    obtain ⟨u, hu1, hu2⟩ := ents_mem hmem
    exact R.keys hkv hu2 (by rintro rfl; exact ht.un hu1)
  have hgive := insert_new (P := C.P) (o := o) (a := a) hop c4 c5 haddr k1 (k2 _ (Rho.le.refl _)) (VR.mono hsub _ _ hkey) hnew
  refine ⟨_, hgive, ?_⟩
  generalize hES' : ES.push { key := a.eval xk, val := a.eval xv, born := ck } = ES' at hgive
  generalize hw' : w.putObj (pl (idOf S j)).b (.map ES' (ck + 1)) = w'
  have hold : ∀ b, b ≠ (pl (idOf S j)).b → w'.heap[b]? = w.heap[b]? := fun b hb => by rw [← hw']; exact World.putObj_heap_other hb
  have hat : w'.heap[(pl (idOf S j)).b]? = some (.map ES' (ck + 1)) := by rw [← hw']; exact World.putObj_heap_same q1
  have hsz : w'.heap.size = w.heap.size := by rw [← hw']; simp
  have hmono : ∀ Bp, (plus ρ1 (Aset C ops S T Bp) pl).le (plus ρ1 (Aset C ops S (also T i) Bp) pl) := plus_mono (Rho.le.refl _) (fun _ => .inl) (fun _ _ _ _ => rfl) (fun j _ _ h0 l hl => by rw [h0] at hl; cases hl)
  obtain ⟨hwk, hst⟩ := h.after R ht.op ht.un ht.bf (pl' := pl) (v := undef) hmono (by rw [hV]; exact VR_undef _) hd
  have hTj' : ∀ {j}, MkJ C ops S j → also T i j → T j := by
    rintro j hj (h1 | rfl)
    · exact h1
    · exact (hmi hj).elim
  have hC : Core C ops S ρ0 w0 a0 (also T i) N ρ1 w' (a.put o.dst undef) pl := by
    refine ⟨?_, h.down_also ht, h.Nle, fun k h1 h2 => .inl (h.Nlt k h1 h2), h.sim.touch (by omega) (fun b hb => hold b (by rintro rfl; exact q3 hb)), h.post.world (by omega) (fun b hb => hold b (by omega)) (by rw [← hw']; exact ⟨rfl, rfl⟩), fun j hj hk u hu => ⟨.inl (h.mkU j hj hk u hu).1, (h.mkU j hj hk u hu).2⟩, h.txt, ?_, ?_, ?_, ?_, hwk, hst⟩
    · rintro k (h1 | rfl)
      · exact h.tn k h1
      · exact op_lt ht.op
    · intro j' ob' sl' mp' hj' hT h0'
      have hT' := hTj' (.of hj') hT
      obtain ⟨p1, p2, p3, p4⟩ := h.side j' ob' sl' mp' hj' hT' h0'
      refine ⟨by omega, p2, p3, fun ρ2 hρ2 ver σ2 => ?_⟩
      by_cases hjj : j' = j
      · subst hjj
        obtain ⟨rfl, _, _⟩ := g5.fn hj'
        have hb2 : (plus ρ1 (Aset C ops S T (inBnd C ops S j')) pl).le ρ2 := (hmono _).trans hρ2
        refine ⟨ES', ck + 1, hat, ?_⟩
        rw [List.nil_append, ← hES']
        refine MapRel.perm (ents_add hkv ht.un (op_lt ht.op)).symm ?_
        exact (k2 ρ2 hb2).push hnew (VR.mono (hsub.trans hb2) _ _ hkey) (VR.mono (hsub.trans hb2) _ _ hval)
      · have hk : kvAt C ops S j' i = none := by
          cases hh : kvAt C ops S j' i with
          | none => rfl
          | some kv =>
            rw [kvAt_of ht.op hw hfl hc] at hh
            split at hh
            · rename_i e; exact (hjj (R.id_inj (.of hj') hmj e.symm)).elim
            · cases hh
        rw [ents_also hk]
        refine or_keep (p4 ρ2 ((hmono _).trans hρ2) ver) (hold _ ?_) σ2
        intro e
        exact hjj (h.apart j' j (.of hj') hmj hT' hTj h0' h0 e)
    · exact fun j j' hj hj' h1 h2 => h.apart j j' hj hj' (hTj' hj h1) (hTj' hj' h2)
    · rw [← h.size]; cases o.dst <;> simp [Act.put]
    · rw [← h.defs]; cases o.dst <;> rfl
  refine hC.inv R ?_
  rcases hf with hf | ⟨hf, hf2⟩
  · exact .inl hf
  · refine .inr ⟨hf, ?_⟩
    rintro (h1 | rfl)
    · exact hf2 h1
    · exact hn hf

/-- An effect, or a call. -/
theorem Core.acts (h : Core C ops S ρ0 w0 a0 T N ρ1 w a pl) (R : Run C E ops S V) {o : Oper} (ht : Turn ops T N o) (ha : ActAt C ops S N) (hm : ¬ MkJ C ops S N) (hk : ∀ j, kvAt C ops S j N = none) (hd : ∀ d, o.dst = some d → d < a.tmps.size)
    {v : Value} {w' : World} {ρ1' : Rho} (hv : VR ρ1' (V N) v) (hs : Sim C.P ρ1' (S (N + 1)).2 w') (hp : Post ρ1 (S N).2 w ρ1' (S (N + 1)).2 w') : Inv C ops S ρ0 w0 a0 (also T N) w' (a.put o.dst v) := by
  have hN := op_lt ht.op
  have hne : ∀ {j}, MkJ C ops S j → j ≠ N := by rintro j hj rfl; exact hm hj
  -- an object of this region is known behind the effect only if it was ahead of it
  have hfar : ∀ j, MkJ C ops S j → ρ1' (idOf S j) ≠ none → ρ1 (idOf S j) ≠ none := by
    intro j hj hk h0
    cases h1 : ρ1' (idOf S j) with
    | none => exact hk h1
    | some l =>
      have hge := hp.new _ _ h1 h0
      have hlt := (hs.obj _ _ h1).1
      rcases Nat.lt_trichotomy j N with hjn | hjn | hjn
      · have := R.id_lt hj hjn h.Nle; omega
      · exact hne hj hjn
      · have := R.id_ge hj (k := N + 1) (by omega); omega
  have hcol : ∀ j, MkJ C ops S j → T j → ρ1 (idOf S j) = none → ∀ l, ρ1' (idOf S j) = some l → l = pl (idOf S j) := fun j hj _ h0 l hl => (hfar j hj (by rw [hl]; simp) h0).elim
  have hmono : ∀ Bp, (plus ρ1 (Aset C ops S T Bp) pl).le (plus ρ1' (Aset C ops S (also T N) Bp) pl) := plus_mono hp.le (fun _ => .inl) (fun _ _ _ _ => rfl) hcol
  obtain ⟨hwk, hst⟩ := h.after R ht.op ht.un ht.bf (pl' := pl) (v := v) hmono (VR.mono le_plus _ _ hv) hd
  have hnone : ∀ {id}, ρ1' id = none → ρ1 id = none := by
    intro id hk
    cases h0 : ρ1 id with
    | none => rfl
    | some l => rw [hp.le _ _ h0] at hk; cases hk
  have hTj : ∀ {j}, MkJ C ops S j → also T N j → T j := by
    rintro j hj (h1 | rfl)
    · exact h1
    · exact (hm hj).elim
  have hC : Core C ops S ρ0 w0 a0 (also T N) (N + 1) ρ1' w' (a.put o.dst v) pl := by
    refine ⟨?_, h.down_also ht, hN, ?_, hs, h.post.trans hp, ?_, ?_, ?_, ?_, ?_, ?_, hwk, hst⟩
    · rintro k (h1 | rfl)
      · exact h.tn k h1
      · exact hN
    · intro k h1 h2
      by_cases e : k = N
      · exact .inr e
      · exact .inl (h.Nlt k (by omega) h2)
    · intro j hj hk u hu
      have := h.mkU j hj (hfar j hj hk) u hu
      exact ⟨.inl this.1, by omega⟩
    · intro j ob sl mp hj hlt h0
      have hjN : j < N := by have := hne (.of hj); omega
      obtain ⟨ver, hver⟩ := h.txt j ob sl mp hj hjN (hnone h0)
      refine ⟨ver, ?_⟩
      rw [ents_succ, hk j, only_pos trivial, hp.kept _ (R.id_lt (.of hj) hjN h.Nle) (hnone h0)]
      simpa using hver
    · intro j ob sl mp hj hT h0
      obtain ⟨g1, g2, g3, g4⟩ := h.side j ob sl mp hj (hTj (.of hj) hT) (hnone h0)
      refine ⟨Nat.lt_of_lt_of_le g1 hp.size, g2, fun ho => g3 (hp.owned _ g1 ho), fun ρ2 hρ2 ver σ2 => ?_⟩
      rw [ents_also (hk j)]
      exact or_keep (g4 ρ2 ((hmono _).trans hρ2) ver) (hp.frame _ g1 g3) σ2
    · exact fun j j' hj hj' h1 h2 k1 k2 => h.apart j j' hj hj' (hTj hj h1) (hTj hj' h2) (hnone k1) (hnone k2)
    · rw [← h.size]; cases o.dst <;> simp [Act.put]
    · rw [← h.defs]; cases o.dst <;> rfl
  obtain ⟨N', h1, h2, h3⟩ := hC.drift R (ops.size - (N + 1)) (by omega)
  refine h2.inv R ?_
  rcases h3 with h3 | h3
  · exact .inl h3
  · refine .inr ⟨h3, ?_⟩
    rintro (h4 | h4)
    · exact ht.un (h.down N' N h4 (R.chain (by omega) ha h3))
    · omega

end
end Pe

namespace Pe
open Go

section
variable {C : Cfg} {E : Evs} {ops : Array Oper} {S : Nat → Fr × AW} {V : Nat → AV}
variable {ρ0 : Rho} {w0 : World} {a0 : Act} {T : Nat → Prop} {N : Nat} {ρ1 : Rho} {w : World} {a : Act} {pl : Nat → Loc}

/-- Of one that is taken at the front, all that its operands may name is known. -/
theorem Core.front_known (_h : Core C ops S ρ0 w0 a0 T N ρ1 w a pl) (R : Run C E ops S V) (hw : Whole C ops S T N ρ1) {i : Nat} {o : Oper} (ht : Turn ops T i o) (hi : i ≤ N) : (plus ρ1 (Aset C ops S T (inBef C ops S i)) pl).le ρ1 := by
  refine plus_le (Rho.le.refl _) ?_
  rintro id h0 ⟨j, hj, hT, rfl, hB⟩
  refine (hw j hj (fun u hu => ?_) h0).elim
  rcases hB u hu with hb | hb
  · have := op_lt ht.op; omega
  · exact ⟨ht.bf u hb, by have := bef_lt R.facts.back i hb; omega⟩

theorem older_VR {n : Nat} {ρ ρ' : Rho} (h : ∀ id l, id < n → ρ id = some l → ρ' id = some l) : ∀ {u : AV} {v : Value}, u.older n = true → VR ρ u v → VR ρ' u v := by
  intro u v ho hv
  cases u <;> simp only [AV.older, Bool.false_eq_true, decide_eq_true_eq] at ho <;> simp only [VR] at hv ⊢ <;> first
    | exact hv
    | (obtain ⟨l, h1, h2⟩ := hv; exact ⟨l, h _ _ ho h1, h2⟩)
    | (obtain ⟨l, c, o', h1, h2, h3⟩ := hv; exact ⟨l, c, o', h _ _ ho h1, h2, h3⟩)

theorem olders_VR {n : Nat} {ρ ρ' : Rho} (h : ∀ id l, id < n → ρ id = some l → ρ' id = some l) : ∀ {us : List AV} {vs : List Value}, us.all (AV.older n) = true → VRs ρ us vs → VRs ρ' us vs
  | [], _, _, hv => by rw [VRs_nil] at hv ⊢; exact hv
  | u :: us, _, ho, hv => by
    obtain ⟨y, ys, rfl, h1, h2⟩ := VRs_cons.1 hv
    simp only [List.all_cons, Bool.and_eq_true] at ho
    exact VRs_cons.2 ⟨y, ys, rfl, older_VR h ho.1 h1, olders_VR h ho.2 h2⟩

theorem oldV_VR {n : Nat} {ρ ρ' : Rho} (h : ∀ id l, id < n → ρ id = some l → ρ' id = some l) {u : AV} {v : Value} (ho : oldV n u = true) (hv : VR ρ u v) : VR ρ' u v := by
  unfold oldV at ho
  split at ho
  · simp only [VR] at hv ⊢
    obtain ⟨cs, h1, h2⟩ := hv
    exact ⟨cs, h1, olders_VR h ho h2⟩
  · exact older_VR h ho hv

theorem step [Globs] {F : Fence} {n : Nat} {Q : Exit → Act → World → Prop} (hE : Sound C E) (R : Run C E ops S V) (hF : FOk F) (hgl : Glob ρ0 (S 0).2 w0) (hinv : Inv C ops S ρ0 w0 a0 T w a) {i : Nat} {o : Oper} (ht : Turn ops T i o) {K : Act → World → Prop}
    (hK : ∀ v w', Inv C ops S ρ0 w0 a0 (also T i) w' (a.put o.dst v) → K (a.put o.dst v) w') : wpOpIn F n C.P ops Q i K a w := by
  obtain ⟨N, ρ1, pl, h, hwh, hfr⟩ := hinv
  obtain ⟨hkind, _⟩ := R.kind ht.op
  have hi := op_lt ht.op
  have nodef : ∀ {act}, cls C.P (S i).1 o = some act → (∀ d, act ≠ .dfr d) → ∀ c, o.op ≠ .defer c := fun hc hh c e => by
    obtain ⟨d, hd⟩ := cls_defer e hc; exact hh d hd
  have goes : ∀ {act}, wantedA (S i).1 ops o = some true → cls C.P (S i).1 o = some act → o.wpIn F n C.P a w K Q → wpOpIn F n C.P ops Q i K a w := by
    intro act hw hc hh
    unfold wpOpIn
    rw [ht.op]
    simp only [(h.wanted R ht hw).1, if_true]
    exact hh
  have noMk : (∀ ob sl mp, wantedA (S i).1 ops o = some true → cls C.P (S i).1 o ≠ some (.mk ob sl mp)) → ¬ MkJ C ops S i := by
    rintro hh ⟨ob, sl, mp, o', h1, h2, h3⟩
    rw [ht.op] at h1; cases h1
    exact hh _ _ _ h2 h3
  have noKv : (wantedA (S i).1 ops o ≠ some true ∨ fills o = none ∨ ∀ m kk vv, cls C.P (S i).1 o ≠ some (.eff (.mapPut m kk vv))) → ∀ j, kvAt C ops S j i = none := by
    intro hh j
    cases hkv : kvAt C ops S j i with
    | none => rfl
    | some kv =>
      obtain ⟨o', t, h1, h2, h3, h4⟩ := kvAt_some hkv
      rw [ht.op] at h1; cases h1
      rcases hh with hh | hh | hh
      · exact (hh h2).elim
      · rw [hh] at h3; cases h3
      · exact (hh _ _ _ h4).elim
  have noAct : (∀ e, cls C.P (S i).1 o = some (.eff e) → fills o ≠ none) → (∀ fv xs, cls C.P (S i).1 o ≠ some (.call fv xs)) → ¬ ActAt C ops S i := by
    rintro h1 h2 ⟨o', e1, _, ⟨e, e2, e3⟩ | ⟨fv, xs, e3⟩⟩
    · rw [ht.op] at e1; cases e1; exact h1 e e3 e2
    · rw [ht.op] at e1; cases e1; exact h2 fv xs e3
  have nofill : ∀ {act}, cls C.P (S i).1 o = some act → (∀ e, act ≠ .eff e) → fills o = none := by
    intro act hc hh
    cases hf : fills o with
    | none => rfl
    | some t =>
      obtain ⟨ty, k, v, hop⟩ := fills_op hf
      unfold cls at hc
      simp only [hop] at hc
      split at hc
      · split at hc
        · cases hc; exact (hh _ rfl).elim
        · cases hc
      · cases hc
  -- one that acts is the front
  have isN : ActAt C ops S i → i = N := by
    intro ha
    rcases hfr with rfl | ⟨hN, hT⟩
    · exact (ht.un (h.Nlt i hi ha)).elim
    · rcases Nat.lt_trichotomy i N with h1 | h1 | h1
      · exact (ht.un (h.Nlt i h1 ha)).elim
      · exact h1
      · exact (hT (ht.bf N (R.chain h1 hN ha))).elim
  generalize hV : V i = V' at hkind
  generalize hS : (S (i + 1)).2 = σ' at hkind
  cases hkind with
  | skip hw =>
    obtain ⟨g1, g2⟩ := h.wanted R ht hw
    unfold wpOpIn
    rw [ht.op]
    simp only [g1, Bool.false_eq_true, if_false]
    refine ⟨fun f _ => hF.fn f, hK _ _ (h.pure R ht hfr ?_ (noMk fun _ _ _ h => by rw [hw] at h; cases h) (noKv (.inl (by rw [hw]; simp))) g2 (by rw [hV]; exact VR_undef _))⟩
    rintro ⟨o', e1, e2, _⟩
    rw [ht.op] at e1; cases e1
    rw [hw] at e2; cases e2
  | val hw hc =>
    obtain ⟨g1, g2⟩ := h.wanted R ht hw
    obtain ⟨v, k1, k2⟩ := val_free (P := C.P) (w := w) (h.bound R) (h.operands R ht (nofill hc (by simp))) hc
    exact goes hw hc (op_gives hF (nodef hc (by simp)) k1 (hK _ _ (h.pure R ht hfr (noAct (fun e he => by rw [hc] at he; cases he) (by rw [hc]; simp)) (noMk fun _ _ _ _ => by rw [hc]; simp) (noKv (.inr (.inr (by rw [hc]; simp)))) g2 (by rw [hV]; exact k2))))
  | rd hw hc hr =>
    rename_i r
    obtain ⟨g1, g2⟩ := h.wanted R ht hw
    have hops := h.operands R ht (nofill hc (by simp))
    have hrd : Reads C ops o (S i).1 r := ⟨hw, hc⟩
    have hna : ¬ ActAt C ops S i := noAct (fun e he => by rw [hc] at he; cases he) (by rw [hc]; simp)
    have key : EvalRel ρ1 (S i).1 a o.op.operands.toList ∧ rdVal C.P (S N).2 r = some V' := by
      rcases Nat.lt_or_ge i N with hlt | hge
      · refine ⟨fun x hx u hu => VR.mono (h.front_known R hwh ht (by omega)) _ _ (hops x hx u hu), ?_⟩
        have hN : N = ops.size ∨ ActAt C ops S N := hfr.imp id fun hh => hh.1
        rcases R.late hN hlt ht.op hrd with ⟨j, h1, h2, h3⟩ | h1
        · exact (ht.un (h.down j i (h.Nlt j h1 h2) h3)).elim
        · rw [← hV]; exact h1
      · rcases hfr with hN | ⟨hN, hT⟩
        · omega
        · have hne : i ≠ N := by rintro rfl; exact hna hN
          rcases R.early (by omega) hN ht.op hrd with h1 | ⟨h1, h2⟩
          · exact (hT (ht.bf N h1)).elim
          · refine ⟨fun x hx u hu => ?_, by rw [← hV]; exact h2⟩
            have h3 := List.all_eq_true.1 h1 x hx
            rw [hu] at h3
            refine oldV_VR (n := (S 0).2.next) (fun id l hlt hl => ?_) h3 (hops x hx u hu)
            rcases plus_some hl with h4 | ⟨_, ⟨j, h5, _, rfl, _⟩, _⟩
            · exact h4
            · have := R.id_ge h5 (Nat.zero_le _); omega
    have hact := cls_ok h.sim key.1 hc
    obtain ⟨v, k1, k2⟩ := hact V' key.2
    exact goes hw hc (op_gives hF (nodef hc (by simp)) k1 (hK _ _ (h.pure R ht hfr hna (noMk fun _ _ _ _ => by rw [hc]; simp) (noKv (.inr (.inr (by rw [hc]; simp)))) g2 (by rw [hV]; exact VR.mono le_plus _ _ k2))))
  | mk hw hc =>
    obtain ⟨g1, g2⟩ := h.wanted R ht hw
    obtain ⟨v, O, l, w', k1, k2, k3, k4, k5, k6⟩ := mk_free (P := C.P) (w := w) (h.bound R) (h.operands R ht (nofill hc (by simp))) hc
    exact goes hw hc (op_gives hF (nodef hc (by simp)) k1 (hK _ _ (h.make R ht hfr ⟨o, ht.op, hw, hc⟩ (noAct (fun e he => by rw [hc] at he; cases he) (by rw [hc]; simp)) (noKv (.inr (.inr (by rw [hc]; simp)))) g2 k2 k6 k3 k4 k5)))
  | ins hw hf hc hm hfk =>
    obtain ⟨g1, g2⟩ := h.wanted R ht hw
    obtain ⟨w', k1, k2⟩ := h.fillIn R ht hfr hw hf hc hV (noAct (fun e he => by rw [hf]; simp) (by rw [hc]; simp)) (noMk fun _ _ _ _ => by rw [hc]; simp) g2
    exact goes hw hc (op_gives hF (nodef hc (by simp)) k1 (hK _ _ k2))
  | eff hw hf hc he hnx =>
    obtain ⟨g1, g2⟩ := h.wanted R ht hw
    have ha : ActAt C ops S i := ⟨o, ht.op, hw, .inl ⟨_, hf, hc⟩⟩
    have e := isN ha
    subst e
    have hops : EvalRel ρ1 (S i).1 a o.op.operands.toList := fun x hx u hu => VR.mono (h.front_known R hwh ht (Nat.le_refl _)) _ _ (h.operands R ht hf x hx u hu)
    obtain ⟨v, w', ρ1', k1, k2, k3, k4⟩ := (cls_ok h.sim hops hc : ActOk _ _ _ _ _ _ _) _ _ he
    rw [← hS] at k3 k4
    exact goes hw hc (op_gives hF (nodef hc (by simp)) k1 (hK _ _ (h.acts R ht ha (noMk fun _ _ _ _ => by rw [hc]; simp) (noKv (.inr (.inl hf))) g2 (by rw [hV]; exact k2) k3 k4)))
  | call hw hc hcl hnx =>
    obtain ⟨g1, g2⟩ := h.wanted R ht hw
    have ha : ActAt C ops S i := ⟨o, ht.op, hw, .inr ⟨_, _, hc⟩⟩
    have e := isN ha
    subst e
    have hops : EvalRel ρ1 (S i).1 a o.op.operands.toList := fun x hx u hu => VR.mono (h.front_known R hwh ht (Nat.le_refl _)) _ _ (h.operands R ht (nofill hc (by simp)) x hx u hu)
    obtain ⟨args, hargs, hm⟩ := (cls_ok h.sim hops hc : ActOk _ _ _ _ _ _ _)
    have next : ∀ v w', RCall C.P ρ1 (S i).2 w [(V', σ')] v w' → K (a.put o.dst v) w' := by
      rintro v w' ⟨r, hr, ρ1', k1, k2, k3⟩
      rw [List.mem_singleton] at hr
      subst hr
      simp only at k1 k2 k3
      rw [← hS] at k2 k3
      exact hK _ _ (h.acts R ht ha (noMk fun _ _ _ _ => by rw [hc]; simp) (noKv (.inr (.inr (by rw [hc]; simp)))) g2 (by rw [hV]; exact k1) k2 k3)
    refine goes hw hc ?_
    rcases hE.other _ _ _ _ hcl with ⟨f, rfl⟩ | ⟨y, rfl⟩
    · exact op_call hF (nodef hc (by simp)) hm (hE.func _ _ _ _ hcl ρ1 w args h.sim (hgl.step h.post) hargs) next
    · obtain ⟨loc, hloc, hrun⟩ := hm
      exact op_call hF (nodef hc (by simp)) hrun (hE.yield _ _ _ _ hcl ρ1 w args loc h.sim (hgl.step h.post) hloc hargs) next

def listedP (listed : Array Bool) : Nat → Prop := fun k => listed.getD k false = true

theorem listedP_set {listed : Array Bool} {i : Nat} (hi : i < listed.size) : listedP (listed.setIfInBounds i true) = also (listedP listed) i := by
  funext k
  simp only [listedP, also]
  rw [Array.getD_eq_getD_getElem?, Array.getD_eq_getD_getElem?]
  by_cases h : k = i
  · subst h; simp [hi]
  · rw [Array.getElem?_setIfInBounds_ne (Ne.symm h)]; simp [h]

def unl (listed : Array Bool) (n : Nat) : Nat := (List.range n).countP fun k => !listed.getD k false

theorem unl_zero {listed : Array Bool} : ∀ {n : Nat}, unl listed n = 0 → ∀ k, k < n → listedP listed k
  | 0, _, k, hk => by omega
  | n + 1, h, k, hk => by
    unfold unl at h
    rw [List.range_succ, List.countP_append] at h
    have h1 : unl listed n = 0 := by unfold unl; omega
    by_cases hkn : k = n
    · subst hkn
      have h2 : (List.countP (fun k => !listed.getD k false) [k]) = 0 := by omega
      simp only [List.countP_singleton] at h2
      unfold listedP
      cases hh : listed.getD k false with
      | true => rfl
      | false => rw [hh] at h2; simp at h2
    · exact unl_zero h1 k (by omega)

theorem unl_set {listed : Array Bool} {i : Nat} (hi : i < listed.size) (hu : listed.getD i false = false) : ∀ {n : Nat}, i < n → unl (listed.setIfInBounds i true) n + 1 = unl listed n
  | 0, h => by omega
  | n + 1, h => by
    have e : ∀ l : Array Bool, unl l (n + 1) = unl l n + if l.getD n false = true then 0 else 1 := by
      intro l
      unfold unl
      rw [List.range_succ, List.countP_append, List.countP_singleton]
      cases l.getD n false <;> simp
    have hget : ∀ k, (listed.setIfInBounds i true).getD k false = if k = i then true else listed.getD k false := by
      intro k
      rw [Array.getD_eq_getD_getElem?, Array.getD_eq_getD_getElem?]
      by_cases hk : k = i
      · subst hk; simp [hi]
      · rw [Array.getElem?_setIfInBounds_ne (Ne.symm hk), if_neg hk]
    rw [e, e, hget]
    by_cases hin : i = n
    · subst hin
      rw [if_pos rfl, hu]
      simp only [if_true, Bool.false_eq_true, if_false]
      have same : ∀ m, m ≤ i → unl (listed.setIfInBounds i true) m = unl listed m := by
        intro m hm
        unfold unl
        apply List.countP_congr
        intro k hk
        rw [List.mem_range] at hk
        rw [hget, if_neg (by omega)]
      rw [same i (Nat.le_refl _)]
    · have hne : ¬ n = i := fun e => hin e.symm
      rw [if_neg hne]
      have := unl_set hi hu (n := n) (by omega)
      omega

theorem Inv.done (R : Run C E ops S V) (hinv : Inv C ops S ρ0 w0 a0 T w a) (hall : ∀ k, k < ops.size → T k) : ∃ ρ1, Sim C.P ρ1 (S ops.size).2 w ∧ Post ρ0 (S 0).2 w0 ρ1 (S ops.size).2 w ∧ a.tmps.size = (S 0).1.nt ∧ a.defers = a0.defers ∧ ∀ t, VR ρ1 ((S ops.size).1.get t) (a.tmps.getD t undef) := by
  obtain ⟨N, ρ1, pl, h, hwh, hfr⟩ := hinv
  have hN : N = ops.size := by
    rcases hfr with hfr | ⟨hfr, hT⟩
    · exact hfr
    · obtain ⟨o, ho, _⟩ := hfr; exact (hT (hall N (op_lt ho))).elim
  subst hN
  refine ⟨ρ1, h.sim, h.post, h.size, h.defs, fun t => ?_⟩
  have hn : ¬ T ops.size := fun hh => by have := h.tn _ hh; omega
  have := h.weak ops.size (Nat.le_refl _) hn t (.inl rfl) (fun j hj _ => hall j hj)
  refine VR.mono (plus_le (Rho.le.refl _) ?_) _ _ this
  rintro id h0 ⟨j, hj, _, rfl, _⟩
  exact (hwh j hj (fun u hu => ⟨hall u (R.us_lt hj hu), R.us_lt hj hu⟩) h0).elim

theorem any_sound [Globs] {F : Fence} {n : Nat} {Q : Exit → Act → World → Prop} (hE : Sound C E) (R : Run C E ops S V) (hF : FOk F) (hgl : Glob ρ0 (S 0).2 w0)
    (hQ : ∀ a w, (∃ T, Inv C ops S ρ0 w0 a0 T w a ∧ ∀ k, k < ops.size → T k) → Q .normal a w) :
    ∀ (fuel : Nat) (listed : Array Bool) (a : Act) (w : World), listed.size = ops.size → unl listed ops.size = fuel → Inv C ops S ρ0 w0 a0 (listedP listed) w a → wpAnyIn F n C.P .any ops Q fuel listed a w
  | 0, listed, a, w, hsz, hu, hinv => by
    have hall := unl_zero hu
    refine ⟨?_, hQ a w ⟨_, hinv, hall⟩⟩
    cases hr : Region.ready .any ops listed with
    | nil => rfl
    | cons i l =>
      have hmem : i ∈ Region.ready .any ops listed := by rw [hr]; simp
      obtain ⟨h1, o, h2, _⟩ := mem_ready.1 hmem
      have := hall i (op_lt h2)
      unfold listedP at this
      rw [Array.getD_eq_getD_getElem?] at this h1
      have hlt : i < listed.size := by rw [hsz]; exact op_lt h2
      simp [hlt] at this h1
      rw [this] at h1; cases h1
  | fuel + 1, listed, a, w, hsz, hu, hinv => by
    refine ⟨fun hr => ?_, fun i hi => ?_⟩
    · -- nothing is ready: all are listed
      refine hQ a w ⟨_, hinv, ?_⟩
      intro k
      induction k using Nat.strongRecOn with
      | _ k ih =>
        intro hk
        obtain ⟨o, ho⟩ := lt_op hk
        cases hl : listed.getD k false with
        | true => exact hl
        | false =>
          have hmem : k ∈ Region.ready .any ops listed := by
            refine mem_ready.2 ⟨?_, o, ho, fun e he hb => ?_⟩
            · have hlt : k < listed.size := by rw [hsz]; exact hk
              rw [Array.getD_eq_getD_getElem?] at hl ⊢
              simp [hlt] at hl ⊢; exact hl
            · have := R.facts.back k o ho e (by simpa using he) hb
              exact ih e.on this (by omega)
          rw [hr] at hmem; cases hmem
    · obtain ⟨h1, o, h2, h3⟩ := mem_ready.1 hi
      have hlt : i < listed.size := by rw [hsz]; exact op_lt h2
      have hun : listed.getD i false = false := by
        rw [Array.getD_eq_getD_getElem?] at h1 ⊢
        simp [hlt] at h1 ⊢; exact h1
      have hd : Down ops (listedP listed) := by
        obtain ⟨_, _, _, hc, _⟩ := hinv; exact hc.down
      have ht : Turn ops (listedP listed) i o := ⟨h2, (by unfold listedP; rw [hun]; simp), fun j hj => bef_listed R.facts.back hd h2 (fun e he hb => h3 e (by simpa using he) hb) hj⟩
      refine step hE R hF hgl hinv ht (K := wpAnyIn F n C.P .any ops Q fuel (listed.setIfInBounds i true)) fun v w' hinv' => ?_
      rw [← listedP_set hlt] at hinv'
      exact any_sound hE R hF hgl hQ fuel _ _ _ (by simp [hsz]) (by have := unl_set hlt hun (n := ops.size) (op_lt h2); omega) hinv'

end

/-- A region that draws its order. -/
theorem draw_sound [Globs] (C : Cfg) (hm : C.P.follows .mixedOrders = true) : DrawSound C := by
  intro E hE ops fr σ l hok hrun B F n id ρ w a hF hs hg hf
  obtain ⟨S, V, h0, hl, hL⟩ := laid _ _ _ _ _ _ hrun
  have hS0 : (S 0).2 = σ := by rw [h0]
  have hS1 : (S 0).1 = fr := by rw [h0]
  have R : Run C E ops S V := ⟨by rw [hS0]; exact hL, drawOk_facts hok⟩
  refine wpIn_region_any hm ?_
  have hs' : Sim C.P ρ (S 0).2 { w with drawn := w.drawn + 1 } := by rw [hS0]; exact (hs.heap (w' := { w with drawn := w.drawn + 1 }) rfl).1
  have hp' : Post ρ (S 0).2 w ρ (S 0).2 { w with drawn := w.drawn + 1 } := by rw [hS0]; exact (hs.heap (w' := { w with drawn := w.drawn + 1 }) rfl).2
  have hT : ∀ k, ¬ listedP (Array.replicate ops.size false) k := by
    intro k hk
    unfold listedP at hk
    rw [Array.getD_eq_getD_getElem?] at hk
    by_cases hlt : k < ops.size <;> simp [hlt] at hk
  have hval : ∀ t, VR ρ ((S 0).1.get t) (a.tmps.getD t undef) := by rw [hS1]; exact hf.val
  have hvals : ∀ i, i ≤ ops.size → ∀ t, (∀ j, j < i → writes ops j t → listedP (Array.replicate ops.size false) j) → (S i).1.get t = (S 0).1.get t :=
    fun i hi t hall => R.keep (Nat.zero_le _) hi (fun j _ hj hw => hT j (hall j hj hw))
  have hcore : Core C ops S ρ w a (listedP (Array.replicate ops.size false)) 0 ρ { w with drawn := w.drawn + 1 } a (fun _ => ⟨0, 0, 0⟩) := by
    refine ⟨fun k hk => (hT k hk).elim, fun k _ hk => (hT k hk).elim, Nat.zero_le _, fun k hk => by omega, hs', hp', ?_, fun j _ _ _ _ hj => by omega, fun j _ _ _ _ hj => (hT j hj).elim, fun j _ _ _ hj => (hT j hj).elim, ?_, rfl, ?_, ?_⟩
    · intro j hj hk
      refine (hk ?_).elim
      cases h : ρ (idOf S j) with
      | none => rfl
      | some l0 =>
        have h1 := (hs'.obj _ _ h).1
        have h2 := R.id_ge hj (Nat.zero_le _)
        omega
    · rw [hS1]; exact hf.size
    · intro i hi _ t _ hall
      rw [hvals i hi t hall]
      exact VR.mono le_plus _ _ (hval t)
    · intro i hi _ t _ hall
      rw [hvals i hi t hall]
      exact VR.mono le_plus _ _ (hval t)
  have hinv : Inv C ops S ρ w a (listedP (Array.replicate ops.size false)) { w with drawn := w.drawn + 1 } a := by
    obtain ⟨N', _, h2, h3⟩ := hcore.drift R ops.size (by omega)
    exact h2.inv R (h3.imp (fun h => h) fun h3 => ⟨h3, hT _⟩)
  have hcount : unl (Array.replicate ops.size false) ops.size = ops.size := by
    unfold unl
    have : ∀ n, (List.range n).countP (fun k => !(Array.replicate ops.size false).getD k false) = n := by
      intro n
      have h1 : ∀ k ∈ List.range n, (!(Array.replicate ops.size false).getD k false) = true := by
        intro k _
        have := hT k
        unfold listedP at this
        simpa using this
      rw [List.countP_eq_length.2 h1, List.length_range]
    exact this _
  refine any_sound hE R hF (by rw [hS0]; exact hg) ?_ ops.size _ a _ (by simp) hcount hinv
  rintro a' w' ⟨T, hi, hall⟩
  obtain ⟨ρ1, k1, k2, k3, k4, k5⟩ := hi.done R hall
  have hend : ops.toList.length = ops.size := by simp
  rw [hend] at hl
  refine ⟨(.norm, (S ops.size).1, (S ops.size).2), by rw [hl]; simp, rfl, ρ1, k1, by rw [← hS0]; exact k2, ?_⟩
  obtain ⟨n1, n2, n3⟩ := R.nt (k := ops.size) (Nat.le_refl _)
  refine ⟨Nat.le_trans hf.base (by have := k2.size; exact this), by rw [k3, n1], k5, ?_, ?_⟩
  · rw [n2, k4, hS1]
    rw [hS0] at k2
    exact hf.defs.step k2
  · rw [n3, hS1]; exact hf.rnd

end Pe

/- The evaluator with fuel enough: what it says from some fuel on. -/
namespace Pe
open Go

section
variable {C : Cfg}

/-- From some fuel on. -/
def Ev (p : Evs → Prop) (C : Cfg) : Prop := ∃ m, ∀ k, m ≤ k → p (evs C k)

theorem Ev.imp {p q : Evs → Prop} (h : Ev p C) (f : ∀ E, p E → q E) : Ev q C := by
  obtain ⟨m, h⟩ := h; exact ⟨m, fun k hk => f _ (h k hk)⟩
theorem Ev.and {p q : Evs → Prop} (h : Ev p C) (h' : Ev q C) : Ev (fun E => p E ∧ q E) C := by
  obtain ⟨m, h⟩ := h
  obtain ⟨m', h'⟩ := h'
  exact ⟨max m m', fun k hk => ⟨h k (by omega), h' k (by omega)⟩⟩
theorem Ev.pure {p : Evs → Prop} (h : ∀ E, p E) : Ev p C := ⟨0, fun _ _ => h _⟩
/-- One level up. -/
theorem Ev.up {p q : Evs → Prop} (h : Ev p C) (f : ∀ E, p E → q ⟨evCode C E, evCall C E⟩) : Ev q C := by
  obtain ⟨m, h⟩ := h
  refine ⟨m + 1, fun k hk => ?_⟩
  cases k with
  | zero => omega
  | succ k => rw [evs_succ]; exact f _ (h k (by omega))

def EvCode (C : Cfg) (c : Code) (fr : Fr) (σ : AW) (r : Out × Fr × AW) : Prop := Ev (fun E => E.code c fr σ = some [r]) C
def EvCall (C : Cfg) (fv : AV) (xs : List AV) (σ : AW) (v : AV) (σ' : AW) : Prop := Ev (fun E => E.call fv xs σ = some [(v, σ')]) C
def EvOps (C : Cfg) (ops : Array Oper) (os : List Oper) (fr : Fr) (σ : AW) (fr' : Fr) (σ' : AW) : Prop := Ev (fun E => runOps C E ops os fr σ = some [(.norm, fr', σ')]) C
def EvS (C : Cfg) (c : Code) (fr : Fr) (σ : AW) (r : Out × Fr × AW) : Prop := Ev (fun E => evS C E c fr σ = some [r]) C

theorem EvCode.skip {fr : Fr} {σ : AW} : EvCode C .skip fr σ (.norm, fr, σ) := (Ev.pure (p := fun _ => True) fun _ => trivial).up fun E _ => by simp [evCode]
theorem EvCode.label {l : Nat} {fr : Fr} {σ : AW} : EvCode C (.label l) fr σ (.norm, fr, σ) := (Ev.pure (p := fun _ => True) fun _ => trivial).up fun E _ => by simp [evCode]
theorem EvCode.exit {id : Nat} {fr : Fr} {σ : AW} : EvCode C (.exit id) fr σ (.jump (.exit id), fr, σ) := (Ev.pure (p := fun _ => True) fun _ => trivial).up fun E _ => by simp [evCode]
theorem EvCode.goto {l : Nat} {fr : Fr} {σ : AW} : EvCode C (.goto l) fr σ (.jump (.goto l), fr, σ) := (Ev.pure (p := fun _ => True) fun _ => trivial).up fun E _ => by simp [evCode]
theorem EvCode.ret {fr : Fr} {σ : AW} : EvCode C .ret fr σ (.jump .ret, fr, σ) := (Ev.pure (p := fun _ => True) fun _ => trivial).up fun E _ => by simp [evCode]
theorem EvCode.region {id : Nat} {ops : Array Oper} {fr fr' : Fr} {σ σ' : AW} (h : EvOps C ops ops.toList fr σ fr' σ') : EvCode C (.region id ops false) fr σ (.norm, fr', σ') := h.up fun E h => by simp [evCode, h]
theorem EvCode.draw {id : Nat} {ops : Array Oper} {fr fr' : Fr} {σ σ' : AW} (hok : drawOk ops = true) (h : Ev (fun E => runOpsD C E ops (Region.before ops) σ.next 0 ops.toList ⟨[], [], []⟩ fr σ = some [(.norm, fr', σ')]) C) : EvCode C (.region id ops true) fr σ (.norm, fr', σ') := h.up fun E h => by simp [evCode, h, hok]

theorem collect_one {α β : Type} {f : α → Option (List β)} {x : α} : collect f [x] = f x := rfl

theorem EvCode.seq {a b : Code} {fr fr' : Fr} {σ σ' : AW} {r : Out × Fr × AW} (h : EvCode C a fr σ (.norm, fr', σ')) (h' : EvCode C b fr' σ' r) : EvCode C (.seq a b) fr σ r :=
  (Ev.and h h').up fun E h => by simp only [evCode, h.1, collect_one, h.2]
theorem EvCode.seqJ {a b : Code} {fr fr' : Fr} {σ σ' : AW} {j : Jump} (h : EvCode C a fr σ (.jump j, fr', σ')) : EvCode C (.seq a b) fr σ (.jump j, fr', σ') :=
  h.up fun E h => by simp only [evCode, h, collect_one]
theorem EvCode.cond {x : Operand} {a b : Code} {fr : Fr} {σ : AW} {t : Bool} {r : Out × Fr × AW} (hx : fr.eval x = some (.bool t)) (h : EvCode C (if t then a else b) fr σ r) : EvCode C (.cond x a b) fr σ r :=
  h.up fun E h => by simp only [evCode, hx, h]
theorem EvCode.block {id : Nat} {b : Code} {fr fr' : Fr} {σ σ' : AW} (h : EvCode C b fr σ (.norm, fr', σ')) : EvCode C (.block id b) fr σ (.norm, fr', σ') :=
  h.up fun E h => by simp only [evCode, h, collect_one]
theorem EvCode.blockX {id id' : Nat} {b : Code} {fr fr' : Fr} {σ σ' : AW} (h : EvCode C b fr σ (.jump (.exit id'), fr', σ')) : EvCode C (.block id b) fr σ (if id' = id then .norm else .jump (.exit id'), fr', σ') :=
  h.up fun E h => by simp only [evCode, h, collect_one]
theorem EvCode.blockG {id l : Nat} {b : Code} {fr fr' : Fr} {σ σ' : AW} (h : EvCode C b fr σ (.jump (.goto l), fr', σ')) : EvCode C (.block id b) fr σ (.jump (.goto l), fr', σ') :=
  h.up fun E h => by simp only [evCode, h, collect_one]
theorem EvCode.blockR {id : Nat} {b : Code} {fr fr' : Fr} {σ σ' : AW} (h : EvCode C b fr σ (.jump .ret, fr', σ')) : EvCode C (.block id b) fr σ (.jump .ret, fr', σ') :=
  h.up fun E h => by simp only [evCode, h, collect_one]
theorem EvCode.loop {b : Code} {fr fr' : Fr} {σ σ' : AW} {r : Out × Fr × AW} (h : EvCode C b fr σ (.norm, fr', σ')) (h' : EvCode C (.loop b) fr' σ' r) : EvCode C (.loop b) fr σ r :=
  (Ev.and h h').up fun E h => by simp only [evCode, h.1, collect_one, h.2]
theorem EvCode.loopJ {b : Code} {fr fr' : Fr} {σ σ' : AW} {j : Jump} (h : EvCode C b fr σ (.jump j, fr', σ')) : EvCode C (.loop b) fr σ (.jump j, fr', σ') :=
  h.up fun E h => by simp only [evCode, h, collect_one]
theorem EvCode.scope {b : Code} {fr fr' : Fr} {σ σ' : AW} {o : Out} (h : EvCode C b fr σ (o, fr', σ')) (hg : ∀ l, o ≠ .jump (.goto l)) : EvCode C (.scope b) fr σ (o, fr', σ') :=
  h.up fun E h => by
    simp only [evCode, h, collect_one]
    rcases o with _ | j
    · rfl
    · cases j with
      | goto l => exact (hg l rfl).elim
      | exit id => rfl
      | ret => rfl

/-- Where a range over a function goes on. -/
def pendOut : Option Jump → Out
  | none => .norm
  | some j => .jump j

theorem EvCode.rangeFunc {f : Operand} {params : Array Tmp} {assign body : Code} {fr : Fr} {σ σ' : AW} {g : FuncId} {a cap : List AV} {v : AV} {st : LoopState} {pend : Option Jump} {nt : Nat} {t : Tr AV} {ps : List Tmp} {asg bd : Code} (hf : fr.eval f = some (.func g a cap)) (hr : fr.rnd = false)
    (hx : C.ext g (a ++ [.yield σ.next] ++ cap) (σ.new (.loop .ready none fr.nt (canonT fr fr.nt) params.toList assign body)) = none)
    (hc : EvCall C (.func g [] []) (a ++ [.yield σ.next] ++ cap) (σ.new (.loop .ready none fr.nt (canonT fr fr.nt) params.toList assign body)) v σ') (hl : σ'.heap.get σ.next = some (.loop st pend nt t ps asg bd)) (hst : st ≠ .busy) :
    EvCode C (.rangeFunc f params assign body) fr σ (pendOut pend, { fr with defers := none :: fr.defers }, σ'.put σ.next (.loop .exhausted pend nt t ps asg bd)) :=
  Ev.up hc fun E h => by
    simp only [evCode, hf, hr, hx, Option.isSome_none, Bool.or_self, Bool.false_eq_true, if_false]
    rw [h]
    simp only [collect_one, hl, if_neg hst]
    cases pend <;> rfl

/-! ### Deferred calls, and calls -/
def EvDefers (C : Cfg) (ds : List (Option ADef)) (σ σ' : AW) : Prop := Ev (fun E => runDefers C E ds σ = some [σ']) C

theorem EvDefers.nil {σ : AW} : EvDefers C [] σ σ := Ev.pure fun _ => rfl
theorem EvDefers.mark {ds : List (Option ADef)} {σ σ' : AW} (h : EvDefers C ds σ σ') : EvDefers C (none :: ds) σ σ' := Ev.imp h fun _ h => by simp only [runDefers, h]

theorem EvDefers.call {f : FuncId} {a cap xs : List AV} {ds : List (Option ADef)} {σ σ1 σ' : AW} {fn : Func} {body : Code} {fr' : Fr} {vs : List AV} {o : Out} (hfn : C.P.funcs[f]? = some fn) (hb : fn.body = some body) (hname : (fn.name == "runtime.NumGoroutine") = false)
    (hS : EvS C body (frame0 fn (a ++ xs ++ cap)) σ (o, fr', σ1)) (ho : o = .norm ∨ o = .jump .ret) (hd : fr'.defers = []) (hr : resVals C.P fr' σ1 fn.results.toList = some vs) (h : EvDefers C ds σ1 σ') : EvDefers C (some ⟨.func f a cap, xs⟩ :: ds) σ σ' :=
  (Ev.and hS h).imp fun E h => by
    obtain ⟨h1, h2⟩ := h
    have : evDefer C E ⟨.func f a cap, xs⟩ σ = some [σ1] := by
      simp only [evDefer, hfn, hb, hname, Bool.false_eq_true, if_false, h1, collect_one]
      rcases ho with rfl | rfl <;> simp [hd, hr]
    simp only [runDefers, this, collect_one, h2]

theorem EvCall.ext {f : FuncId} {xs : List AV} {σ σ' : AW} {v : AV} (h : C.ext f xs σ = some (v, σ')) : EvCall C (.func f [] []) xs σ v σ' :=
  (Ev.pure (p := fun _ => True) fun _ => trivial).up fun E _ => by simp only [evCall, h]

theorem EvCall.func {f : FuncId} {xs : List AV} {σ σ1 σ' : AW} {fn : Func} {body : Code} {fr' : Fr} {vs : List AV} {o : Out} (hx : C.ext f xs σ = none) (hfn : C.P.funcs[f]? = some fn) (hb : fn.body = some body) (hname : (fn.name == "runtime.NumGoroutine") = false) (hm : C.multi f = false)
    (h : EvCode C body (frame0 fn xs) σ (o, fr', σ1)) (ho : o = .norm ∨ o = .jump .ret) (hd : EvDefers C fr'.defers σ1 σ') (hr : resVals C.P fr' σ' fn.results.toList = some vs) : EvCall C (.func f [] []) xs σ (oneOrTup vs) σ' :=
  (Ev.and h hd).up fun E h => by
    obtain ⟨h1, h2⟩ := h
    simp only [evCall, hx, hfn, hb, hname, hm, Bool.false_eq_true, if_false, evBody, h1, collect_one]
    rcases ho with rfl | rfl <;> simp [h2, hr, collect_one]

def roundV : Out → AV
  | .norm => .bool true
  | .jump _ => .bool false
def roundO (nt : Nat) (tm : Tr AV) (ps : List Tmp) (asg bd : Code) : Out → AO
  | .norm => .loop .ready none nt tm ps asg bd
  | .jump j => .loop .done (some j) nt tm ps asg bd

theorem EvCall.yield {l nt : Nat} {xs : List AV} {σ σ1 σ2 : AW} {pend pend1 pend2 : Option Jump} {tm tm1 tm2 t : Tr AV} {ps ps1 ps2 : List Tmp} {asg asg1 asg2 bd bd1 bd2 : Code} {nt1 nt2 : Nat} {st2 : LoopState} {fr1 fr2 : Fr} {o : Out}
    (h0 : σ.heap.get l = some (.loop .ready pend nt tm ps asg bd)) (hp : setParams nt tm ps xs = some t) (ha : EvCode C asg { nt, tmps := t, defers := [], rnd := true } σ (.norm, fr1, σ1)) (h1 : σ1.heap.get l = some (.loop .ready pend1 nt1 tm1 ps1 asg1 bd1))
    (hb : EvCode C bd fr1 (σ1.put l (.loop .busy pend1 nt1 tm1 ps1 asg1 bd1)) (o, fr2, σ2)) (h2 : σ2.heap.get l = some (.loop st2 pend2 nt2 tm2 ps2 asg2 bd2)) :
    EvCall C (.yield l) xs σ (roundV o) (σ2.put l (roundO nt2 tm2 ps2 asg2 bd2 o)) :=
  (Ev.and ha hb).up fun E h => by
    obtain ⟨g1, g2⟩ := h
    simp only [evCall, h0, evRound, hp, g1, collect_one, h1, g2, h2]
    cases o <;> rfl

/-! ### The operations of a region, one by one -/
/-- What one operation that is wanted does (one outcome). -/
inductive Step (C : Cfg) (fr : Fr) (o : Oper) (σ : AW) : AV → AW → List (Option ADef) → Prop
  | val {v} : cls C.P fr o = some (.val v) → Step C fr o σ v σ fr.defers
  | rd {r v} : cls C.P fr o = some (.rd r) → rdVal C.P σ r = some v → Step C fr o σ v σ fr.defers
  | mk {ob sl mp} : cls C.P fr o = some (.mk ob sl mp) → Step C fr o σ (mkVal sl mp σ.next) (σ.new ob) fr.defers
  | eff {e v σ'} : cls C.P fr o = some (.eff e) → effRun C.P σ e = some (v, σ') → Step C fr o σ v σ' fr.defers
  | call {fv xs v σ'} : cls C.P fr o = some (.call fv xs) → EvCall C fv xs σ v σ' → Step C fr o σ v σ' fr.defers
  | dfr {d} : cls C.P fr o = some (.dfr d) → fr.rnd = false → Step C fr o σ (.tup []) σ (some d :: fr.defers)
  | rngM {m es ver} : cls C.P fr o = some (.rngM m) → σ.heap.get m = some (.map es ver) → Step C fr o σ (.ptr σ.next 0) (σ.new (.miter (some (m, ver)) [])) fr.defers
  | nextM {it v σ'} : cls C.P fr o = some (.nextM it) → choicesM σ it = some [(v, σ')] → Step C fr o σ v σ' fr.defers

theorem put_defers (fr : Fr) (dst : Option Tmp) (v : AV) (ds : List (Option ADef)) : ({ fr with defers := ds } : Fr).put dst v = { fr.put dst v with defers := ds } := by cases dst <;> rfl
theorem put_same (fr : Fr) (dst : Option Tmp) (v : AV) : { fr.put dst v with defers := fr.defers } = fr.put dst v := by cases dst <;> rfl

theorem EvOps.nil {ops : Array Oper} {fr : Fr} {σ : AW} : EvOps C ops [] fr σ fr σ := Ev.pure fun _ => rfl
theorem EvOps.skip {ops : Array Oper} {o : Oper} {os : List Oper} {fr fr' : Fr} {σ σ' : AW} (hw : wantedA fr ops o = some false) (h : EvOps C ops os (fr.put o.dst (.tup [])) σ fr' σ') : EvOps C ops (o :: os) fr σ fr' σ' :=
  Ev.imp h fun E h => by simp only [runOps, hw, h]
theorem EvOps.step {ops : Array Oper} {o : Oper} {os : List Oper} {fr fr' : Fr} {σ σ1 σ' : AW} {v : AV} {ds : List (Option ADef)} (hw : wantedA fr ops o = some true) (hs : Step C fr o σ v σ1 ds) (h : EvOps C ops os { fr.put o.dst v with defers := ds } σ1 fr' σ') : EvOps C ops (o :: os) fr σ fr' σ' := by
  cases hs with
  | val hc => exact Ev.imp h fun E h => by rw [put_same] at h; simp only [runOps, hw, hc, h]
  | rd hc hr => exact Ev.imp h fun E h => by rw [put_same] at h; simp only [runOps, hw, hc, hr, h]
  | mk hc => exact Ev.imp h fun E h => by rw [put_same] at h; simp only [runOps, hw, hc, h]
  | eff hc he => exact Ev.imp h fun E h => by rw [put_same] at h; simp only [runOps, hw, hc, he, h]
  | call hc he =>
    refine (Ev.and he h).imp fun E h => ?_
    obtain ⟨h1, h2⟩ := h
    rw [put_same] at h2
    simp only [runOps, hw, hc, h1, collect_one, h2]
  | dfr hc hr =>
    refine Ev.imp h fun E h => ?_
    rw [← put_defers] at h
    rw [hr] at h
    simp only [runOps, hw, hc, hr, Bool.false_eq_true, if_false]
    exact h
  | rngM hc hm => exact Ev.imp h fun E h => by rw [put_same] at h; simp only [runOps, hw, hc, hm, h]
  | nextM hc hm => exact Ev.imp h fun E h => by rw [put_same] at h; simp only [runOps, hw, hc, hm, collect_one, h]

end
end Pe

/- Eliminators of values; frames of 16 x 16 values. PRINTED BY genframe.py. -/
namespace Pe
open Go
noncomputable section
def AV.onInt {β : Type} (d : β) (f : IntKind → Int → β) (v : AV) : β :=
  AV.rec (motive_1 := fun _ => β) (motive_2 := fun _ => Unit) f (fun _ => d) (fun _ => d) (fun _ _ => d) d (fun _ _ _ _ => d) d (fun _ => d) d (fun _ _ _ _ _ => d) (fun _ => d) d (fun _ _ _ => d) d (fun _ _ => d) (fun _ _ => d) d () (fun _ _ _ _ => ()) v
theorem AV.onInt_eq {β : Type} {d : β} {f : IntKind → Int → β} {v : AV} {r : β} (h : AV.onInt d f v = r) : (d = r ∧ ∀ x0 x1, v ≠ .int x0 x1) ∨ ∃ x0 x1, v = .int x0 x1 ∧ f x0 x1 = r := by
  cases v <;> first | exact .inr ⟨_, _, rfl, h⟩ | exact .inl ⟨h, by simp⟩

def AV.onBool {β : Type} (d : β) (f : Bool → β) (v : AV) : β :=
  AV.rec (motive_1 := fun _ => β) (motive_2 := fun _ => Unit) (fun _ _ => d) f (fun _ => d) (fun _ _ => d) d (fun _ _ _ _ => d) d (fun _ => d) d (fun _ _ _ _ _ => d) (fun _ => d) d (fun _ _ _ => d) d (fun _ _ => d) (fun _ _ => d) d () (fun _ _ _ _ => ()) v
theorem AV.onBool_eq {β : Type} {d : β} {f : Bool → β} {v : AV} {r : β} (h : AV.onBool d f v = r) : (d = r ∧ ∀ x0, v ≠ .bool x0) ∨ ∃ x0, v = .bool x0 ∧ f x0 = r := by
  cases v <;> first | exact .inr ⟨_, rfl, h⟩ | exact .inl ⟨h, by simp⟩

def AV.onStr {β : Type} (d : β) (f : List UInt8 → β) (v : AV) : β :=
  AV.rec (motive_1 := fun _ => β) (motive_2 := fun _ => Unit) (fun _ _ => d) (fun _ => d) f (fun _ _ => d) d (fun _ _ _ _ => d) d (fun _ => d) d (fun _ _ _ _ _ => d) (fun _ => d) d (fun _ _ _ => d) d (fun _ _ => d) (fun _ _ => d) d () (fun _ _ _ _ => ()) v
theorem AV.onStr_eq {β : Type} {d : β} {f : List UInt8 → β} {v : AV} {r : β} (h : AV.onStr d f v = r) : (d = r ∧ ∀ x0, v ≠ .str x0) ∨ ∃ x0, v = .str x0 ∧ f x0 = r := by
  cases v <;> first | exact .inr ⟨_, rfl, h⟩ | exact .inl ⟨h, by simp⟩

def AV.onPtr {β : Type} (d : β) (f : Nat → Nat → β) (v : AV) : β :=
  AV.rec (motive_1 := fun _ => β) (motive_2 := fun _ => Unit) (fun _ _ => d) (fun _ => d) (fun _ => d) f d (fun _ _ _ _ => d) d (fun _ => d) d (fun _ _ _ _ _ => d) (fun _ => d) d (fun _ _ _ => d) d (fun _ _ => d) (fun _ _ => d) d () (fun _ _ _ _ => ()) v
theorem AV.onPtr_eq {β : Type} {d : β} {f : Nat → Nat → β} {v : AV} {r : β} (h : AV.onPtr d f v = r) : (d = r ∧ ∀ x0 x1, v ≠ .ptr x0 x1) ∨ ∃ x0 x1, v = .ptr x0 x1 ∧ f x0 x1 = r := by
  cases v <;> first | exact .inr ⟨_, _, rfl, h⟩ | exact .inl ⟨h, by simp⟩

def AV.onSl {β : Type} (d : β) (f : Nat → Nat → Nat → Cap → β) (v : AV) : β :=
  AV.rec (motive_1 := fun _ => β) (motive_2 := fun _ => Unit) (fun _ _ => d) (fun _ => d) (fun _ => d) (fun _ _ => d) d f d (fun _ => d) d (fun _ _ _ _ _ => d) (fun _ => d) d (fun _ _ _ => d) d (fun _ _ => d) (fun _ _ => d) d () (fun _ _ _ _ => ()) v
theorem AV.onSl_eq {β : Type} {d : β} {f : Nat → Nat → Nat → Cap → β} {v : AV} {r : β} (h : AV.onSl d f v = r) : (d = r ∧ ∀ x0 x1 x2 x3, v ≠ .sl x0 x1 x2 x3) ∨ ∃ x0 x1 x2 x3, v = .sl x0 x1 x2 x3 ∧ f x0 x1 x2 x3 = r := by
  cases v <;> first | exact .inr ⟨_, _, _, _, rfl, h⟩ | exact .inl ⟨h, by simp⟩

def AV.onFunc {β : Type} (d : β) (f : FuncId → List AV → List AV → β) (v : AV) : β :=
  AV.rec (motive_1 := fun _ => β) (motive_2 := fun _ => Unit) (fun _ _ => d) (fun _ => d) (fun _ => d) (fun _ _ => d) d (fun _ _ _ _ => d) d (fun _ => d) d (fun x0 x1 x2 _ _ => f x0 x1 x2) (fun _ => d) d (fun _ _ _ => d) d (fun _ _ => d) (fun _ _ => d) d () (fun _ _ _ _ => ()) v
theorem AV.onFunc_eq {β : Type} {d : β} {f : FuncId → List AV → List AV → β} {v : AV} {r : β} (h : AV.onFunc d f v = r) : (d = r ∧ ∀ x0 x1 x2, v ≠ .func x0 x1 x2) ∨ ∃ x0 x1 x2, v = .func x0 x1 x2 ∧ f x0 x1 x2 = r := by
  cases v <;> first | exact .inr ⟨_, _, _, rfl, h⟩ | exact .inl ⟨h, by simp⟩

def AV.onYield {β : Type} (d : β) (f : Nat → β) (v : AV) : β :=
  AV.rec (motive_1 := fun _ => β) (motive_2 := fun _ => Unit) (fun _ _ => d) (fun _ => d) (fun _ => d) (fun _ _ => d) d (fun _ _ _ _ => d) d (fun _ => d) d (fun _ _ _ _ _ => d) f d (fun _ _ _ => d) d (fun _ _ => d) (fun _ _ => d) d () (fun _ _ _ _ => ()) v
theorem AV.onYield_eq {β : Type} {d : β} {f : Nat → β} {v : AV} {r : β} (h : AV.onYield d f v = r) : (d = r ∧ ∀ x0, v ≠ .yield x0) ∨ ∃ x0, v = .yield x0 ∧ f x0 = r := by
  cases v <;> first | exact .inr ⟨_, rfl, h⟩ | exact .inl ⟨h, by simp⟩

def AV.onTup {β : Type} (d : β) (f : List AV → β) (v : AV) : β :=
  AV.rec (motive_1 := fun _ => β) (motive_2 := fun _ => Unit) (fun _ _ => d) (fun _ => d) (fun _ => d) (fun _ _ => d) d (fun _ _ _ _ => d) d (fun _ => d) d (fun _ _ _ _ _ => d) (fun _ => d) d (fun _ _ _ => d) d (fun _ _ => d) (fun x0 _ => f x0) d () (fun _ _ _ _ => ()) v
theorem AV.onTup_eq {β : Type} {d : β} {f : List AV → β} {v : AV} {r : β} (h : AV.onTup d f v = r) : (d = r ∧ ∀ x0, v ≠ .tup x0) ∨ ∃ x0, v = .tup x0 ∧ f x0 = r := by
  cases v <;> first | exact .inr ⟨_, rfl, h⟩ | exact .inl ⟨h, by simp⟩
structure FI where
  a0 : AV
  a1 : AV
  a2 : AV
  a3 : AV
  a4 : AV
  a5 : AV
  a6 : AV
  a7 : AV
  a8 : AV
  a9 : AV
  a10 : AV
  a11 : AV
  a12 : AV
  a13 : AV
  a14 : AV
  a15 : AV
structure FO where
  b0 : FI
  b1 : FI
  b2 : FI
  b3 : FI
  b4 : FI
  b5 : FI
  b6 : FI
  b7 : FI
  b8 : FI
  b9 : FI
  b10 : FI
  b11 : FI
  b12 : FI
  b13 : FI
  b14 : FI
  b15 : FI
structure GI where
  get : FI → AV
def gI : Nat → GI
  | 0 => ⟨fun t => FI.rec (motive := fun _ => AV) (fun x0 _ _ _ _ _ _ _ _ _ _ _ _ _ _ _ => x0) t⟩
  | 1 => ⟨fun t => FI.rec (motive := fun _ => AV) (fun _ x1 _ _ _ _ _ _ _ _ _ _ _ _ _ _ => x1) t⟩
  | 2 => ⟨fun t => FI.rec (motive := fun _ => AV) (fun _ _ x2 _ _ _ _ _ _ _ _ _ _ _ _ _ => x2) t⟩
  | 3 => ⟨fun t => FI.rec (motive := fun _ => AV) (fun _ _ _ x3 _ _ _ _ _ _ _ _ _ _ _ _ => x3) t⟩
  | 4 => ⟨fun t => FI.rec (motive := fun _ => AV) (fun _ _ _ _ x4 _ _ _ _ _ _ _ _ _ _ _ => x4) t⟩
  | 5 => ⟨fun t => FI.rec (motive := fun _ => AV) (fun _ _ _ _ _ x5 _ _ _ _ _ _ _ _ _ _ => x5) t⟩
  | 6 => ⟨fun t => FI.rec (motive := fun _ => AV) (fun _ _ _ _ _ _ x6 _ _ _ _ _ _ _ _ _ => x6) t⟩
  | 7 => ⟨fun t => FI.rec (motive := fun _ => AV) (fun _ _ _ _ _ _ _ x7 _ _ _ _ _ _ _ _ => x7) t⟩
  | 8 => ⟨fun t => FI.rec (motive := fun _ => AV) (fun _ _ _ _ _ _ _ _ x8 _ _ _ _ _ _ _ => x8) t⟩
  | 9 => ⟨fun t => FI.rec (motive := fun _ => AV) (fun _ _ _ _ _ _ _ _ _ x9 _ _ _ _ _ _ => x9) t⟩
  | 10 => ⟨fun t => FI.rec (motive := fun _ => AV) (fun _ _ _ _ _ _ _ _ _ _ x10 _ _ _ _ _ => x10) t⟩
  | 11 => ⟨fun t => FI.rec (motive := fun _ => AV) (fun _ _ _ _ _ _ _ _ _ _ _ x11 _ _ _ _ => x11) t⟩
  | 12 => ⟨fun t => FI.rec (motive := fun _ => AV) (fun _ _ _ _ _ _ _ _ _ _ _ _ x12 _ _ _ => x12) t⟩
  | 13 => ⟨fun t => FI.rec (motive := fun _ => AV) (fun _ _ _ _ _ _ _ _ _ _ _ _ _ x13 _ _ => x13) t⟩
  | 14 => ⟨fun t => FI.rec (motive := fun _ => AV) (fun _ _ _ _ _ _ _ _ _ _ _ _ _ _ x14 _ => x14) t⟩
  | _ => ⟨fun t => FI.rec (motive := fun _ => AV) (fun _ _ _ _ _ _ _ _ _ _ _ _ _ _ _ x15 => x15) t⟩
structure GO where
  get : FO → FI
def gO : Nat → GO
  | 0 => ⟨fun t => FO.rec (motive := fun _ => FI) (fun x0 _ _ _ _ _ _ _ _ _ _ _ _ _ _ _ => x0) t⟩
  | 1 => ⟨fun t => FO.rec (motive := fun _ => FI) (fun _ x1 _ _ _ _ _ _ _ _ _ _ _ _ _ _ => x1) t⟩
  | 2 => ⟨fun t => FO.rec (motive := fun _ => FI) (fun _ _ x2 _ _ _ _ _ _ _ _ _ _ _ _ _ => x2) t⟩
  | 3 => ⟨fun t => FO.rec (motive := fun _ => FI) (fun _ _ _ x3 _ _ _ _ _ _ _ _ _ _ _ _ => x3) t⟩
  | 4 => ⟨fun t => FO.rec (motive := fun _ => FI) (fun _ _ _ _ x4 _ _ _ _ _ _ _ _ _ _ _ => x4) t⟩
  | 5 => ⟨fun t => FO.rec (motive := fun _ => FI) (fun _ _ _ _ _ x5 _ _ _ _ _ _ _ _ _ _ => x5) t⟩
  | 6 => ⟨fun t => FO.rec (motive := fun _ => FI) (fun _ _ _ _ _ _ x6 _ _ _ _ _ _ _ _ _ => x6) t⟩
  | 7 => ⟨fun t => FO.rec (motive := fun _ => FI) (fun _ _ _ _ _ _ _ x7 _ _ _ _ _ _ _ _ => x7) t⟩
  | 8 => ⟨fun t => FO.rec (motive := fun _ => FI) (fun _ _ _ _ _ _ _ _ x8 _ _ _ _ _ _ _ => x8) t⟩
  | 9 => ⟨fun t => FO.rec (motive := fun _ => FI) (fun _ _ _ _ _ _ _ _ _ x9 _ _ _ _ _ _ => x9) t⟩
  | 10 => ⟨fun t => FO.rec (motive := fun _ => FI) (fun _ _ _ _ _ _ _ _ _ _ x10 _ _ _ _ _ => x10) t⟩
  | 11 => ⟨fun t => FO.rec (motive := fun _ => FI) (fun _ _ _ _ _ _ _ _ _ _ _ x11 _ _ _ _ => x11) t⟩
  | 12 => ⟨fun t => FO.rec (motive := fun _ => FI) (fun _ _ _ _ _ _ _ _ _ _ _ _ x12 _ _ _ => x12) t⟩
  | 13 => ⟨fun t => FO.rec (motive := fun _ => FI) (fun _ _ _ _ _ _ _ _ _ _ _ _ _ x13 _ _ => x13) t⟩
  | 14 => ⟨fun t => FO.rec (motive := fun _ => FI) (fun _ _ _ _ _ _ _ _ _ _ _ _ _ _ x14 _ => x14) t⟩
  | _ => ⟨fun t => FO.rec (motive := fun _ => FI) (fun _ _ _ _ _ _ _ _ _ _ _ _ _ _ _ x15 => x15) t⟩
structure PI where
  put : AV → FI → FI
def pI : Nat → PI
  | 0 => ⟨fun v t => FI.rec (motive := fun _ => FI) (fun _ x1 x2 x3 x4 x5 x6 x7 x8 x9 x10 x11 x12 x13 x14 x15 => FI.mk v x1 x2 x3 x4 x5 x6 x7 x8 x9 x10 x11 x12 x13 x14 x15) t⟩
  | 1 => ⟨fun v t => FI.rec (motive := fun _ => FI) (fun x0 _ x2 x3 x4 x5 x6 x7 x8 x9 x10 x11 x12 x13 x14 x15 => FI.mk x0 v x2 x3 x4 x5 x6 x7 x8 x9 x10 x11 x12 x13 x14 x15) t⟩
  | 2 => ⟨fun v t => FI.rec (motive := fun _ => FI) (fun x0 x1 _ x3 x4 x5 x6 x7 x8 x9 x10 x11 x12 x13 x14 x15 => FI.mk x0 x1 v x3 x4 x5 x6 x7 x8 x9 x10 x11 x12 x13 x14 x15) t⟩
  | 3 => ⟨fun v t => FI.rec (motive := fun _ => FI) (fun x0 x1 x2 _ x4 x5 x6 x7 x8 x9 x10 x11 x12 x13 x14 x15 => FI.mk x0 x1 x2 v x4 x5 x6 x7 x8 x9 x10 x11 x12 x13 x14 x15) t⟩
  | 4 => ⟨fun v t => FI.rec (motive := fun _ => FI) (fun x0 x1 x2 x3 _ x5 x6 x7 x8 x9 x10 x11 x12 x13 x14 x15 => FI.mk x0 x1 x2 x3 v x5 x6 x7 x8 x9 x10 x11 x12 x13 x14 x15) t⟩
  | 5 => ⟨fun v t => FI.rec (motive := fun _ => FI) (fun x0 x1 x2 x3 x4 _ x6 x7 x8 x9 x10 x11 x12 x13 x14 x15 => FI.mk x0 x1 x2 x3 x4 v x6 x7 x8 x9 x10 x11 x12 x13 x14 x15) t⟩
  | 6 => ⟨fun v t => FI.rec (motive := fun _ => FI) (fun x0 x1 x2 x3 x4 x5 _ x7 x8 x9 x10 x11 x12 x13 x14 x15 => FI.mk x0 x1 x2 x3 x4 x5 v x7 x8 x9 x10 x11 x12 x13 x14 x15) t⟩
  | 7 => ⟨fun v t => FI.rec (motive := fun _ => FI) (fun x0 x1 x2 x3 x4 x5 x6 _ x8 x9 x10 x11 x12 x13 x14 x15 => FI.mk x0 x1 x2 x3 x4 x5 x6 v x8 x9 x10 x11 x12 x13 x14 x15) t⟩
  | 8 => ⟨fun v t => FI.rec (motive := fun _ => FI) (fun x0 x1 x2 x3 x4 x5 x6 x7 _ x9 x10 x11 x12 x13 x14 x15 => FI.mk x0 x1 x2 x3 x4 x5 x6 x7 v x9 x10 x11 x12 x13 x14 x15) t⟩
  | 9 => ⟨fun v t => FI.rec (motive := fun _ => FI) (fun x0 x1 x2 x3 x4 x5 x6 x7 x8 _ x10 x11 x12 x13 x14 x15 => FI.mk x0 x1 x2 x3 x4 x5 x6 x7 x8 v x10 x11 x12 x13 x14 x15) t⟩
  | 10 => ⟨fun v t => FI.rec (motive := fun _ => FI) (fun x0 x1 x2 x3 x4 x5 x6 x7 x8 x9 _ x11 x12 x13 x14 x15 => FI.mk x0 x1 x2 x3 x4 x5 x6 x7 x8 x9 v x11 x12 x13 x14 x15) t⟩
  | 11 => ⟨fun v t => FI.rec (motive := fun _ => FI) (fun x0 x1 x2 x3 x4 x5 x6 x7 x8 x9 x10 _ x12 x13 x14 x15 => FI.mk x0 x1 x2 x3 x4 x5 x6 x7 x8 x9 x10 v x12 x13 x14 x15) t⟩
  | 12 => ⟨fun v t => FI.rec (motive := fun _ => FI) (fun x0 x1 x2 x3 x4 x5 x6 x7 x8 x9 x10 x11 _ x13 x14 x15 => FI.mk x0 x1 x2 x3 x4 x5 x6 x7 x8 x9 x10 x11 v x13 x14 x15) t⟩
  | 13 => ⟨fun v t => FI.rec (motive := fun _ => FI) (fun x0 x1 x2 x3 x4 x5 x6 x7 x8 x9 x10 x11 x12 _ x14 x15 => FI.mk x0 x1 x2 x3 x4 x5 x6 x7 x8 x9 x10 x11 x12 v x14 x15) t⟩
  | 14 => ⟨fun v t => FI.rec (motive := fun _ => FI) (fun x0 x1 x2 x3 x4 x5 x6 x7 x8 x9 x10 x11 x12 x13 _ x15 => FI.mk x0 x1 x2 x3 x4 x5 x6 x7 x8 x9 x10 x11 x12 x13 v x15) t⟩
  | _ => ⟨fun v t => FI.rec (motive := fun _ => FI) (fun x0 x1 x2 x3 x4 x5 x6 x7 x8 x9 x10 x11 x12 x13 x14 _ => FI.mk x0 x1 x2 x3 x4 x5 x6 x7 x8 x9 x10 x11 x12 x13 x14 v) t⟩
structure UO where
  upd : (FI → FI) → FO → FO
def uO : Nat → UO
  | 0 => ⟨fun f t => FO.rec (motive := fun _ => FO) (fun x0 x1 x2 x3 x4 x5 x6 x7 x8 x9 x10 x11 x12 x13 x14 x15 => FO.mk (f x0) x1 x2 x3 x4 x5 x6 x7 x8 x9 x10 x11 x12 x13 x14 x15) t⟩
  | 1 => ⟨fun f t => FO.rec (motive := fun _ => FO) (fun x0 x1 x2 x3 x4 x5 x6 x7 x8 x9 x10 x11 x12 x13 x14 x15 => FO.mk x0 (f x1) x2 x3 x4 x5 x6 x7 x8 x9 x10 x11 x12 x13 x14 x15) t⟩
  | 2 => ⟨fun f t => FO.rec (motive := fun _ => FO) (fun x0 x1 x2 x3 x4 x5 x6 x7 x8 x9 x10 x11 x12 x13 x14 x15 => FO.mk x0 x1 (f x2) x3 x4 x5 x6 x7 x8 x9 x10 x11 x12 x13 x14 x15) t⟩
  | 3 => ⟨fun f t => FO.rec (motive := fun _ => FO) (fun x0 x1 x2 x3 x4 x5 x6 x7 x8 x9 x10 x11 x12 x13 x14 x15 => FO.mk x0 x1 x2 (f x3) x4 x5 x6 x7 x8 x9 x10 x11 x12 x13 x14 x15) t⟩
  | 4 => ⟨fun f t => FO.rec (motive := fun _ => FO) (fun x0 x1 x2 x3 x4 x5 x6 x7 x8 x9 x10 x11 x12 x13 x14 x15 => FO.mk x0 x1 x2 x3 (f x4) x5 x6 x7 x8 x9 x10 x11 x12 x13 x14 x15) t⟩
  | 5 => ⟨fun f t => FO.rec (motive := fun _ => FO) (fun x0 x1 x2 x3 x4 x5 x6 x7 x8 x9 x10 x11 x12 x13 x14 x15 => FO.mk x0 x1 x2 x3 x4 (f x5) x6 x7 x8 x9 x10 x11 x12 x13 x14 x15) t⟩
  | 6 => ⟨fun f t => FO.rec (motive := fun _ => FO) (fun x0 x1 x2 x3 x4 x5 x6 x7 x8 x9 x10 x11 x12 x13 x14 x15 => FO.mk x0 x1 x2 x3 x4 x5 (f x6) x7 x8 x9 x10 x11 x12 x13 x14 x15) t⟩
  | 7 => ⟨fun f t => FO.rec (motive := fun _ => FO) (fun x0 x1 x2 x3 x4 x5 x6 x7 x8 x9 x10 x11 x12 x13 x14 x15 => FO.mk x0 x1 x2 x3 x4 x5 x6 (f x7) x8 x9 x10 x11 x12 x13 x14 x15) t⟩
  | 8 => ⟨fun f t => FO.rec (motive := fun _ => FO) (fun x0 x1 x2 x3 x4 x5 x6 x7 x8 x9 x10 x11 x12 x13 x14 x15 => FO.mk x0 x1 x2 x3 x4 x5 x6 x7 (f x8) x9 x10 x11 x12 x13 x14 x15) t⟩
  | 9 => ⟨fun f t => FO.rec (motive := fun _ => FO) (fun x0 x1 x2 x3 x4 x5 x6 x7 x8 x9 x10 x11 x12 x13 x14 x15 => FO.mk x0 x1 x2 x3 x4 x5 x6 x7 x8 (f x9) x10 x11 x12 x13 x14 x15) t⟩
  | 10 => ⟨fun f t => FO.rec (motive := fun _ => FO) (fun x0 x1 x2 x3 x4 x5 x6 x7 x8 x9 x10 x11 x12 x13 x14 x15 => FO.mk x0 x1 x2 x3 x4 x5 x6 x7 x8 x9 (f x10) x11 x12 x13 x14 x15) t⟩
  | 11 => ⟨fun f t => FO.rec (motive := fun _ => FO) (fun x0 x1 x2 x3 x4 x5 x6 x7 x8 x9 x10 x11 x12 x13 x14 x15 => FO.mk x0 x1 x2 x3 x4 x5 x6 x7 x8 x9 x10 (f x11) x12 x13 x14 x15) t⟩
  | 12 => ⟨fun f t => FO.rec (motive := fun _ => FO) (fun x0 x1 x2 x3 x4 x5 x6 x7 x8 x9 x10 x11 x12 x13 x14 x15 => FO.mk x0 x1 x2 x3 x4 x5 x6 x7 x8 x9 x10 x11 (f x12) x13 x14 x15) t⟩
  | 13 => ⟨fun f t => FO.rec (motive := fun _ => FO) (fun x0 x1 x2 x3 x4 x5 x6 x7 x8 x9 x10 x11 x12 x13 x14 x15 => FO.mk x0 x1 x2 x3 x4 x5 x6 x7 x8 x9 x10 x11 x12 (f x13) x14 x15) t⟩
  | 14 => ⟨fun f t => FO.rec (motive := fun _ => FO) (fun x0 x1 x2 x3 x4 x5 x6 x7 x8 x9 x10 x11 x12 x13 x14 x15 => FO.mk x0 x1 x2 x3 x4 x5 x6 x7 x8 x9 x10 x11 x12 x13 (f x14) x15) t⟩
  | _ => ⟨fun f t => FO.rec (motive := fun _ => FO) (fun x0 x1 x2 x3 x4 x5 x6 x7 x8 x9 x10 x11 x12 x13 x14 x15 => FO.mk x0 x1 x2 x3 x4 x5 x6 x7 x8 x9 x10 x11 x12 x13 x14 (f x15)) t⟩

theorem lt16 {a : Nat} (h : a < 16) : a = 0 ∨ a = 1 ∨ a = 2 ∨ a = 3 ∨ a = 4 ∨ a = 5 ∨ a = 6 ∨ a = 7 ∨ a = 8 ∨ a = 9 ∨ a = 10 ∨ a = 11 ∨ a = 12 ∨ a = 13 ∨ a = 14 ∨ a = 15 := by omega
theorem gI_pI {a b : Nat} (ha : a < 16) (hb : b < 16) (v : AV) (x : FI) : GI.get (gI a) (PI.put (pI b) v x) = if a = b then v else GI.get (gI a) x := by
  cases x
  rcases lt16 ha with rfl | rfl | rfl | rfl | rfl | rfl | rfl | rfl | rfl | rfl | rfl | rfl | rfl | rfl | rfl | rfl <;> rcases lt16 hb with rfl | rfl | rfl | rfl | rfl | rfl | rfl | rfl | rfl | rfl | rfl | rfl | rfl | rfl | rfl | rfl <;> rfl
theorem gO_uO {a b : Nat} (ha : a < 16) (hb : b < 16) (f : FI → FI) (x : FO) : GO.get (gO a) (UO.upd (uO b) f x) = if a = b then f (GO.get (gO a) x) else GO.get (gO a) x := by
  cases x
  rcases lt16 ha with rfl | rfl | rfl | rfl | rfl | rfl | rfl | rfl | rfl | rfl | rfl | rfl | rfl | rfl | rfl | rfl <;> rcases lt16 hb with rfl | rfl | rfl | rfl | rfl | rfl | rfl | rfl | rfl | rfl | rfl | rfl | rfl | rfl | rfl | rfl <;> rfl

def FI.top : FI := ⟨.top,.top,.top,.top,.top,.top,.top,.top,.top,.top,.top,.top,.top,.top,.top,.top⟩
def FO.top : FO := ⟨FI.top,FI.top,FI.top,FI.top,FI.top,FI.top,FI.top,FI.top,FI.top,FI.top,FI.top,FI.top,FI.top,FI.top,FI.top,FI.top⟩
structure GF where
  get : FO → AV
structure SF where
  set : AV → FO → FO
/-- How a temporary is read. -/
def getF (t : Tmp) : GF := let i := gI (t % 16); let o := gO (t / 16); ⟨fun t => GI.get i (GO.get o t)⟩
/-- How a temporary is written. -/
def putF (dst : Option Tmp) : SF :=
  match dst with
  | none => ⟨fun _ t => t⟩
  | some d => let i := pI (d % 16); let o := uO (d / 16); ⟨fun v t => UO.upd o (PI.put i v) t⟩
theorem get_put_F {i d : Nat} (hi : i < 256) (hd : d < 256) (v : AV) (t : FO) : GF.get (getF i) (SF.set (putF (some d)) v t) = if i = d then v else GF.get (getF i) t := by
  show GI.get (gI (i % 16)) (GO.get (gO (i / 16)) (UO.upd (uO (d / 16)) (PI.put (pI (d % 16)) v) t)) = if i = d then v else GI.get (gI (i % 16)) (GO.get (gO (i / 16)) t)
  rw [gO_uO (by omega) (by omega)]
  by_cases h1 : i / 16 = d / 16
  · rw [if_pos h1, gI_pI (by omega) (by omega)]
    by_cases h2 : i % 16 = d % 16
    · rw [if_pos h2, if_pos (by omega)]
    · rw [if_neg h2, if_neg (by omega)]
  · rw [if_neg h1, if_neg (by omega)]
theorem get_top_F {i : Nat} (hi : i < 256) : GF.get (getF i) FO.top = .top := by
  show GI.get (gI (i % 16)) (GO.get (gO (i / 16)) FO.top) = .top
  have h1 : i % 16 < 16 := by omega
  have h2 : i / 16 < 16 := by omega
  generalize i % 16 = a at h1
  generalize i / 16 = b at h2
  have : GO.get (gO b) FO.top = FI.top := by rcases lt16 h2 with rfl | rfl | rfl | rfl | rfl | rfl | rfl | rfl | rfl | rfl | rfl | rfl | rfl | rfl | rfl | rfl <;> rfl
  rw [this]
  rcases lt16 h1 with rfl | rfl | rfl | rfl | rfl | rfl | rfl | rfl | rfl | rfl | rfl | rfl | rfl | rfl | rfl | rfl <;> rfl
end
end Pe
