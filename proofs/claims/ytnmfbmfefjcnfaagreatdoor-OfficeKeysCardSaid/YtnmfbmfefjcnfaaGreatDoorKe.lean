/- Codes and calls. -/
import Derived.Test.YtnmfbmfefjcnfaaGreatDoorKd
import Derived.RangeFuncLeaves
import Derived.Scope
import Derived.RecoverIn
set_option linter.unusedSectionVars false
namespace Pe
open Go
variable {P : Program} {B : Nat} {ρ : Rho} {fr : Fr} {a : Act} {w : World} {σ : AW} {o : Oper}

/-! ### Frames -/
def DefsRel (B : Nat) (ρ : Rho) (σ : AW) (w : World) : List (Option ADef) → List Deferred → Prop
  | [], Ds => Ds = []
  | some d :: ds, Ds => ∃ D Ds', Ds = D :: Ds' ∧ DefRel ρ d D ∧ DefsRel B ρ σ w ds Ds'
  | none :: ds, Ds => ∃ r Ds', Ds = { target := .collected r, args := #[] } :: Ds' ∧ (B ≤ r ∧ r < w.heap.size) ∧ w.heap[r]? = some (.deferred (some [])) ∧ ¬ Owned ρ σ r ∧ (∀ D ∈ Ds', D.target ≠ .collected r) ∧ DefsRel B ρ σ w ds Ds'

theorem DefRel.mono {ρ' : Rho} (h : ρ.le ρ') {d : ADef} {D : Deferred} (k : DefRel ρ d D) : DefRel ρ' d D := by
  unfold DefRel at *
  split at k
  · obtain ⟨a', c', h1, h2, h3⟩ := k
    exact ⟨a', c', h1, VRs.mono h _ _ h2, VRs.mono h _ _ h3⟩
  · exact k

theorem DefsRel.step {ρ' : Rho} {σ' : AW} {w' : World} (p : Post ρ σ w ρ' σ' w') : ∀ {ds : List (Option ADef)} {Ds : List Deferred}, DefsRel B ρ σ w ds Ds → DefsRel B ρ' σ' w' ds Ds
  | [], _, h => h
  | some d :: ds, _, ⟨D, Ds', h1, h2, h3⟩ => ⟨D, Ds', h1, h2.mono p.le, h3.step p⟩
  | none :: ds, _, ⟨r, Ds', h1, h2, h3, h4, h5, h6⟩ =>
    ⟨r, Ds', h1, ⟨h2.1, Nat.lt_of_lt_of_le h2.2 p.size⟩, by rw [p.frame r h2.2 h4]; exact h3, fun ho => h4 (p.owned r h2.2 ho), h5, h6.step p⟩

structure FrRel (B : Nat) (ρ : Rho) (σ : AW) (w : World) (F : Fence) (fr : Fr) (a : Act) : Prop where
  base : B ≤ w.heap.size
  size : a.tmps.size = fr.nt
  val : ∀ t, VR ρ (fr.get t) (a.tmps.getD t undef)
  defs : DefsRel B ρ σ w fr.defers a.defers
  rnd : fr.rnd = F.round.isSome

theorem FrRel.step {F : Fence} {ρ' : Rho} {σ' : AW} {w' : World} (h : FrRel B ρ σ w F fr a) (p : Post ρ σ w ρ' σ' w') : FrRel B ρ' σ' w' F fr a :=
  ⟨Nat.le_trans h.base p.size, h.size, fun t => VR.mono p.le _ _ (h.val t), h.defs.step p, h.rnd⟩

theorem FrRel.evalRel {F : Fence} (h : FrRel B ρ σ w F fr a) (xs : List Operand) : EvalRel ρ fr a xs := by
  intro x _ u hu
  cases x with
  | tmp t => simp only [Fr.eval, Option.some.injEq] at hu; subst hu; exact h.val t
  | const v => simp only [Fr.eval] at hu; exact emb_VR hu ρ
  | global g => simp [Fr.eval] at hu
  | func f => simp only [Fr.eval, Option.some.injEq] at hu; subst hu; simp only [VR, Act.eval]; exact ⟨#[], #[], rfl, rfl, rfl⟩

theorem get_set (fr : Fr) (d : Tmp) (v : AV) (t : Tmp) : ({ fr with tmps := fr.tmps.set v d } : Fr).get t = if t = d then v else fr.get t := by
  simp only [Fr.get, Tr.get_set]
  by_cases h : t = d
  · rw [if_pos h, if_pos h]
  · rw [if_neg h, if_neg h]

theorem getD_set {xs : Array Value} {d t : Nat} {v u : Value} (hd : d < xs.size) : (xs.setIfInBounds d v).getD t u = if t = d then v else xs.getD t u := by
  simp only [Array.getD_eq_getD_getElem?]
  by_cases h : t = d
  · subst h; simp [hd]
  · rw [if_neg h, Array.getElem?_setIfInBounds_ne (Ne.symm h)]

theorem FrRel.put {F : Fence} (h : FrRel B ρ σ w F fr a) (hd : dstOk fr o = true) {u : AV} {v : Value} (hv : VR ρ u v) : FrRel B ρ σ w F (fr.put o.dst u) (a.put o.dst v) := by
  unfold dstOk at hd
  cases ho : o.dst with
  | none => exact h
  | some d =>
    rw [ho] at hd
    have hlt : d < a.tmps.size := by rw [h.size]; exact Nat.le_of_ble_eq_true hd
    refine ⟨h.base, by simp [Act.put, Fr.put, h.size], fun t => ?_, h.defs, h.rnd⟩
    simp only [Fr.put, Act.put]
    rw [get_set, getD_set hlt]
    split
    · exact hv
    · exact h.val t

theorem VR_undef (ρ : Rho) : VR ρ (.tup []) undef := by simp [VR, undef, VRs]

theorem wanted_ok {F : Fence} (h : FrRel B ρ σ w F fr a) {ops : Array Oper} {b : Bool} (hw : wantedA fr ops o = some b) : Region.wanted o (yielded ops a.tmps) = b ∧ dstOk fr o = true := by
  unfold wantedA at hw
  split at hw
  · cases hw
  · rename_i hd
    refine ⟨?_, by simpa using hd⟩
    unfold Region.wanted
    cases hg : o.guard with
    | none => rw [hg] at hw; simpa using hw
    | some jb =>
      obtain ⟨j, want⟩ := jb
      rw [hg] at hw
      simp only at hw ⊢
      unfold yielded
      cases hj : (ops[j]?).bind (·.dst) with
      | none => rw [hj] at hw; cases hw; simp
      | some d =>
        rw [hj] at hw
        simp only [Option.bind_some] at hw ⊢
        have hv := h.val d
        split at hw
        · rename_i c hc
          cases hw
          rw [hc] at hv
          simp only [VR] at hv
          have : a.tmps[d]? = some (.bool c) := by
            rw [Array.getD_eq_getD_getElem?] at hv
            cases hx : a.tmps[d]? with
            | none => rw [hx] at hv; simp [undef] at hv
            | some y => rw [hx] at hv; simpa using hv
          rw [this]
          simp only
          cases c <;> cases want <;> rfl
        · rename_i hc
          cases hw
          rw [hc] at hv
          simp only [VR] at hv
          obtain ⟨vs, hv, _⟩ := hv
          have : ∀ b, a.tmps[d]? ≠ some (.bool b) := by
            intro b hx
            rw [Array.getD_eq_getD_getElem?, hx] at hv
            simp at hv
          cases hx : a.tmps[d]? with
          | none => simp
          | some y =>
            cases y <;> simp
            exact (this _ hx).elim
        · cases hw

/-! ### Many results -/
theorem collect_mem {α β : Type} {f : α → Option (List β)} : ∀ {l : List α} {m : List β}, collect f l = some m → ∀ x ∈ l, ∃ y, f x = some y ∧ ∀ z ∈ y, z ∈ m
  | [], _, _, x, hx => by cases hx
  | [x], m, h, y, hy => by
    simp only [collect] at h
    rw [List.mem_singleton] at hy; subst hy
    exact ⟨m, h, fun z hz => hz⟩
  | x :: x' :: xs, m, h, y, hy => by
    simp only [collect] at h
    split at h
    · rename_i p q hp hq
      cases h
      rcases List.mem_cons.1 hy with rfl | hy
      · exact ⟨p, hp, fun z hz => List.mem_append_left _ hz⟩
      · obtain ⟨y', h1, h2⟩ := collect_mem hq y hy
        exact ⟨y', h1, fun z hz => List.mem_append_right _ (h2 z hz)⟩
    · cases h

/-! ### What is claimed -/
def ExitOf : Out → Exit → Prop
  | .norm, e => e = .normal
  | .jump (.exit id), e => e = .exit id
  | .jump (.goto l), e => e = .goto l
  | .jump .ret, e => e = .ret

/-- What a code's walk ends in. -/
def QCode (P : Program) (B : Nat) (F : Fence) (ρ : Rho) (σ : AW) (w : World) (l : List (Out × Fr × AW)) : Exit → Act → World → Prop := fun e a' w' =>
  ∃ r ∈ l, ExitOf r.1 e ∧ ∃ ρ', Sim P ρ' r.2.2 w' ∧ Post ρ σ w ρ' r.2.2 w' ∧ FrRel B ρ' r.2.2 w' F r.2.1 a'

/-- What a call ends in. -/
def RCall (P : Program) (ρ : Rho) (σ : AW) (w : World) (l : List (AV × AW)) (v : Value) (w' : World) : Prop :=
  ∃ r ∈ l, ∃ ρ', VR ρ' r.1 v ∧ Sim P ρ' r.2 w' ∧ Post ρ σ w ρ' r.2 w'

def REnd (P : Program) (ρ : Rho) (σ : AW) (w : World) (l : List (AV × AW)) : Ending → World → Prop
  | .returned v, w' => RCall P ρ σ w l v w'
  | _, _ => False

/-- How a call goes: it gives a value at once; or it enters a function; or a round. -/
def CallRes (P : Program) (ρ : Rho) (σ : AW) (w : World) (s : Sem Next) (l : List (AV × AW)) : Prop :=
  (∃ v w', s.run P w = .ok (.value v) w' ∧ RCall P ρ σ w l v w') ∨
  (∃ f args w₁, s.run P w = .ok (.enter f args) w₁ ∧ ∀ n, CallsIn Fence.wide n P f args w₁ (REnd P ρ σ w l)) ∨
  (∃ k f tmps asg body w₁, s.run P w = .ok (.round k f tmps asg body) w₁ ∧ ∀ n, RoundIn Fence.wide n P k f tmps asg body w₁ (REnd P ρ σ w l))

def FOk (F : Fence) : Prop := F = Fence.wide ∨ ∃ l, F = Fence.wide.inRound l

/-- Blocks that are asked to lie as they lay (those of package-level variables). -/
class Globs where
  blk : Nat → Option Obj
def Glob [Globs] (ρ : Rho) (σ : AW) (w : World) : Prop := ∀ b O, Globs.blk b = some O → w.heap[b]? = some O ∧ ¬ Owned ρ σ b
theorem glob_lt {w : World} {b : Nat} {O : Obj} (h : w.heap[b]? = some O) : b < w.heap.size := by
  rcases Nat.lt_or_ge b w.heap.size with h1 | h1
  · exact h1
  · rw [Array.getElem?_eq_none h1] at h; cases h
theorem Glob.step [Globs] {ρ' : Rho} {σ' : AW} {w' : World} (h : Glob ρ σ w) (p : Post ρ σ w ρ' σ' w') : Glob ρ' σ' w' := by
  intro b O hb
  obtain ⟨h1, h2⟩ := h b O hb
  have hlt := glob_lt h1
  exact ⟨by rw [p.frame b hlt h2, h1], fun ho => h2 (p.owned b hlt ho)⟩

structure Sound [Globs] (C : Cfg) (E : Evs) : Prop where
  code : ∀ c fr σ l, E.code c fr σ = some l → ∀ B F n ρ w a, FOk F → Sim C.P ρ σ w → Glob ρ σ w → FrRel B ρ σ w F fr a → c.wpIn F n C.P (QCode C.P B F ρ σ w l) a w
  func : ∀ f xs σ l, E.call (.func f [] []) xs σ = some l → ∀ ρ w (args : Array Value), Sim C.P ρ σ w → Glob ρ σ w → VRs ρ xs args.toList → CallRes C.P ρ σ w (callFunc f args) l
  yield : ∀ y xs σ l, E.call (.yield y) xs σ = some l → ∀ ρ w (args : Array Value) loc, Sim C.P ρ σ w → Glob ρ σ w → ρ y = some loc → VRs ρ xs args.toList → CallRes C.P ρ σ w (Instr.yield loc.b args) l
  enter : ∀ f xs σ l, E.call (.func f [] []) xs σ = some l → C.ext f xs σ = none → ∀ ρ w (args : Array Value), Sim C.P ρ σ w → Glob ρ σ w → VRs ρ xs args.toList → (callFunc f args).run C.P w = .ok (.enter f args) w ∧ ∀ n, CallsIn Fence.wide n C.P f args w (REnd C.P ρ σ w l)
  other : ∀ fv xs σ l, E.call fv xs σ = some l → (∃ f, fv = .func f [] []) ∨ ∃ y, fv = .yield y

theorem FOk.fn {F : Fence} (h : FOk F) (f : FuncId) : F.fn f := by
  rcases h with rfl | ⟨l, rfl⟩ <;> trivial

theorem FOk.depth {F : Fence} (h : FOk F) (p : Prop) : F.depth.isSome = true → p := by
  rcases h with rfl | ⟨l, rfl⟩ <;> (intro hh; simp [Fence.wide, Fence.inRound] at hh)

theorem callsIn_F {F : Fence} (h : FOk F) {n : Nat} {f : FuncId} {args : Array Value} {R : Ending → World → Prop} (k : CallsIn Fence.wide n P f args w R) : CallsIn F n P f args w R := by
  rcases h with rfl | ⟨l, rfl⟩
  · exact k
  · exact k

theorem roundIn_F {F : Fence} (h : FOk F) {n k : Nat} {f : FuncId} {tmps : Array Value} {asg body : Code} {R : Ending → World → Prop} (q : RoundIn Fence.wide n P k f tmps asg body w R) : RoundIn F n P k f tmps asg body w R := by
  rcases h with rfl | ⟨l, rfl⟩
  · exact q
  · exact q


/-! ### One operation -/
theorem cls_defer {c : Call} (ho : o.op = .defer c) {act : Act1} (h : cls P fr o = some act) : ∃ d, act = .dfr d := by
  unfold cls at h
  simp only [ho] at h
  split at h
  · split at h
    · cases h; exact ⟨_, rfl⟩
    · cases h
  · cases h

theorem op_gives {F : Fence} (hF : FOk F) {n : Nat} {next : Act → World → Prop} {Q : Exit → Act → World → Prop} (hd : ∀ c, o.op ≠ .defer c) {v : Value} {w' : World} (h : Gives P a o w v w') (hn : next (a.put o.dst v) w') : o.wpIn F n P a w next Q := by
  refine ⟨fun f _ => hF.fn f, ?_⟩
  rw [Oper.semAt_eq _ _ _ hd]
  rcases h with h | ⟨h, rfl⟩
  · rw [h]; exact hn
  · rw [h]; exact hn

theorem op_call {F : Fence} (hF : FOk F) {n : Nat} {next : Act → World → Prop} {Q : Exit → Act → World → Prop} (hd : ∀ c, o.op ≠ .defer c) {s : Sem Next} (hs : (execOp a.eval o).run P w = s.run P w) {l : List (AV × AW)} (h : CallRes P ρ σ w s l)
    (hn : ∀ v w', RCall P ρ σ w l v w' → next (a.put o.dst v) w') : o.wpIn F n P a w next Q := by
  refine ⟨fun f _ => hF.fn f, ?_⟩
  rw [Oper.semAt_eq _ _ _ hd, hs]
  rcases h with ⟨v, w', h1, h2⟩ | ⟨f, args, w₁, h1, h2⟩ | ⟨k, f, tmps, asg, body, w₁, h1, h2⟩
  · rw [h1]; exact hn _ _ h2
  · rw [h1, Oper.uponIn_enter]
    refine ⟨hF.depth _, (callsIn_F hF (h2 _)).mono fun e w' he => ?_⟩
    cases e with
    | returned v => exact hn _ _ he
    | panicked c => exact he.elim
    | outgrown => exact he.elim
  · rw [h1, Oper.uponIn_round]
    refine ⟨hF.depth _, (roundIn_F hF (h2 _)).mono fun e w' he => ?_⟩
    cases e with
    | returned v => exact hn _ _ he
    | panicked c => exact he.elim
    | outgrown => exact he.elim

theorem QCode.trans {F : Fence} {ρ' : Rho} {σ' : AW} {w' : World} {l l' : List (Out × Fr × AW)} (p : Post ρ σ w ρ' σ' w') (hl : ∀ z ∈ l', z ∈ l) {e : Exit} {a' : Act} {w'' : World} (h : QCode P B F ρ' σ' w' l' e a' w'') : QCode P B F ρ σ w l e a' w'' := by
  obtain ⟨r, hr, h1, ρ'', h2, h3, h4⟩ := h
  exact ⟨r, hl r hr, h1, ρ'', h2, p.trans h3, h4⟩

theorem wpOpsIn_mono {F : Fence} {n : Nat} {ops : Array Oper} {Q Q' : Exit → Act → World → Prop} (hq : ∀ e a w, Q e a w → Q' e a w) : ∀ (l : List Nat) (a : Act) (w : World), wpOpsIn F n P ops Q l a w → wpOpsIn F n P ops Q' l a w
  | [], a, w, h => hq _ _ _ h
  | i :: rest, a, w, h => by
    simp only [wpOpsIn] at h ⊢
    cases ho : ops[i]? with
    | none => rw [ho] at h; exact wpOpsIn_mono hq rest a w h
    | some o =>
      rw [ho] at h
      simp only at h ⊢
      have hL : LetsOut Q → LetsOut Q' := fun ⟨a, w, h⟩ => ⟨a, w, hq _ _ _ h⟩
      split
      · rename_i hw
        rw [if_pos hw] at h
        refine ⟨h.1, ?_⟩
        have h2 := h.2
        generalize (o.semAt F.round a.eval).run P w = r at h2 ⊢
        cases r with
        | ok x w' =>
          cases x <;> simp only [Oper.uponIn] at h2 ⊢ <;>
            first
              | exact wpOpsIn_mono hq rest _ _ h2
              | exact ⟨h2.1, CallsIn.mono h2.2 (fun e w'' he => by cases e <;> first | exact wpOpsIn_mono hq rest _ _ he | exact hq _ _ _ he | exact hL he)⟩
              | exact ⟨h2.1, RowsIn.mono h2.2 (fun _ _ he => wpOpsIn_mono hq rest _ _ he)⟩
              | exact ⟨h2.1, RoundIn.mono h2.2 (fun e w'' he => by cases e <;> first | exact wpOpsIn_mono hq rest _ _ he | exact hq _ _ _ he | exact hL he)⟩
              | exact h2
        | halt x w' => cases x <;> simp only [Oper.uponIn] at h2 ⊢ <;> first | exact hq _ _ _ h2 | exact h2
      · rename_i hw
        rw [if_neg hw] at h
        exact ⟨h.1, wpOpsIn_mono hq rest _ _ h.2⟩

/-- A region in the order of its text. -/
theorem runOps_sound [Globs] {C : Cfg} {E : Evs} (hE : Sound C E) {ops : Array Oper} {F : Fence} (hF : FOk F) {n : Nat} : ∀ (os : List Oper) (k : Nat), ops.toList.drop k = os → ∀ (fr : Fr) (σ : AW) (l : List (Out × Fr × AW)), runOps C E ops os fr σ = some l →
    ∀ (ρ : Rho) (w : World) (a : Act), Sim C.P ρ σ w → Glob ρ σ w → FrRel B ρ σ w F fr a → wpOpsIn F n C.P ops (QCode C.P B F ρ σ w l) (List.range' k os.length) a w
  | [], k, _, fr, σ, l, h, ρ, w, a, hs, hg, hf => by
    simp only [runOps, Option.some.injEq] at h
    subst h
    exact ⟨_, List.mem_singleton.2 rfl, rfl, ρ, hs, Post.refl _ _ _, hf⟩
  | o :: os, k, hk, fr, σ, l, h, ρ, w, a, hs, hg, hf => by
    have hko : ops[k]? = some o := by
      have h1 := congrArg (·[0]?) hk
      simp only [List.getElem?_drop, Nat.add_zero, List.getElem?_cons_zero, Array.getElem?_toList] at h1
      exact h1
    have hk' : ops.toList.drop (k + 1) = os := by
      rw [← List.drop_drop, hk]; rfl
    have cont : ∀ {fr' : Fr} {σ' : AW} {l' : List (Out × Fr × AW)}, runOps C E ops os fr' σ' = some l' → (∀ z ∈ l', z ∈ l) → ∀ {ρ' : Rho} {w' : World} {a' : Act}, Sim C.P ρ' σ' w' → Post ρ σ w ρ' σ' w' → FrRel B ρ' σ' w' F fr' a' →
        wpOpsIn F n C.P ops (QCode C.P B F ρ σ w l) (List.range' (k + 1) os.length) a' w' := by
      intro fr' σ' l' h1 h2 ρ' w' a' h3 h4 h5
      exact wpOpsIn_mono (fun e a w hq => hq.trans h4 h2) _ _ _ (runOps_sound hE hF os (k + 1) hk' fr' σ' l' h1 ρ' w' a' h3 (hg.step h4) h5)
    simp only [List.length_cons, List.range'_succ, wpOpsIn, hko]
    simp only [runOps] at h
    cases hw : wantedA fr ops o with
    | none => rw [hw] at h; cases h
    | some b =>
      obtain ⟨hw1, hw2⟩ := wanted_ok hf hw
      rw [hw] at h
      rw [hw1]
      cases b with
      | false =>
        simp only [Bool.false_eq_true, if_false] at h ⊢
        exact ⟨fun f _ => hF.fn f, cont h (fun _ hz => hz) hs (Post.refl _ _ _) (hf.put hw2 (VR_undef ρ))⟩
      | true =>
        simp only [if_true] at h ⊢
        cases hc : cls C.P fr o with
        | none => rw [hc] at h; cases h
        | some act =>
          rw [hc] at h
          simp only at h
          have hact := cls_ok hs (hf.evalRel _) hc
          have hnd : (∀ d, act ≠ .dfr d) → ∀ c, o.op ≠ .defer c := fun hh c e => by
            obtain ⟨d, hd⟩ := cls_defer e hc; exact hh d hd
          have effs : ∀ {u : AV} {σ' : AW}, (∀ d, act ≠ .dfr d) → EffGives C.P ρ σ w a o u σ' → runOps C E ops os (fr.put o.dst u) σ' = some l → o.wpIn F n C.P a w (wpOpsIn F n C.P ops (QCode C.P B F ρ σ w l) (List.range' (k + 1) os.length)) (QCode C.P B F ρ σ w l) := by
            intro u σ' hh hgv hr
            obtain ⟨v, w', ρ', g1, g2, g3, g4⟩ := hgv
            exact op_gives hF (hnd hh) g1 (cont hr (fun _ hz => hz) g3 g4 ((hf.step g4).put hw2 g2))
          cases act with
          | val v =>
            obtain ⟨v', g1, g2⟩ := hact
            exact op_gives hF (hnd (by simp)) g1 (cont h (fun _ hz => hz) hs (Post.refl _ _ _) (hf.put hw2 g2))
          | rd r =>
            simp only at h
            split at h
            · rename_i u hu
              obtain ⟨v', g1, g2⟩ := hact u hu
              exact op_gives hF (hnd (by simp)) g1 (cont h (fun _ hz => hz) hs (Post.refl _ _ _) (hf.put hw2 g2))
            · cases h
          | mk ob sl mp => exact effs (by simp) (hact.eff hs) h
          | eff e =>
            simp only at h
            split at h
            · rename_i u σ' hu
              exact effs (by simp) (hact u σ' hu) h
            · cases h
          | call fv xs =>
            simp only at h
            split at h
            · rename_i res hres
              obtain ⟨args, hargs, hm⟩ := hact
              have next : ∀ v w', RCall C.P ρ σ w res v w' → wpOpsIn F n C.P ops (QCode C.P B F ρ σ w l) (List.range' (k + 1) os.length) (a.put o.dst v) w' := by
                intro v w' ⟨r, hr, ρ', g1, g2, g3⟩
                obtain ⟨y, hy1, hy2⟩ := collect_mem h r hr
                exact cont hy1 hy2 g2 g3 ((hf.step g3).put hw2 g1)
              rcases hE.other _ _ _ _ hres with ⟨f, rfl⟩ | ⟨y, rfl⟩
              · exact op_call hF (hnd (by simp)) hm (hE.func _ _ _ _ hres ρ w args hs hg hargs) next
              · obtain ⟨loc, hloc, hrun⟩ := hm
                exact op_call hF (hnd (by simp)) hrun (hE.yield _ _ _ _ hres ρ w args loc hs hg hloc hargs) next
            · cases h
          | pan v => cases h
          | dfr d =>
            simp only at h
            split at h
            · cases h
            · rename_i hr
              obtain ⟨D, c, ho, hrun, hD⟩ := hact
              have hro : F.round = none := by
                have := hf.rnd
                cases hx : F.round with
                | none => rfl
                | some l => rw [hx] at this; exact absurd this hr
              refine ⟨fun f _ => hF.fn f, ?_⟩
              rw [hro, Oper.semAt_none]
              have : (execOp a.eval o).run C.P w = .ok (.defer D) w := by simp [execOp, ho, hrun]
              rw [this, Oper.uponIn_defer]
              refine cont h (fun _ hz => hz) hs (Post.refl _ _ _) ?_
              have hf' : FrRel B ρ σ w F { fr with defers := some d :: fr.defers } { a with defers := D :: a.defers } := ⟨hf.base, hf.size, hf.val, ⟨D, a.defers, rfl, hD, hf.defs⟩, hf.rnd⟩
              exact hf'.put hw2 (VR_undef ρ)
          | rcv => cases h
          | nextM it =>
            simp only at h
            split at h
            · rename_i cs hcs
              obtain ⟨x, loc, ho, hl, hx⟩ := hact
              obtain ⟨r, hr, v, w', g1, g2, g3, g4⟩ := nextM_ok hs ho hl hx hcs
              obtain ⟨y, hy1, hy2⟩ := collect_mem h r hr
              exact op_gives hF (hnd (by simp)) g1 (cont hy1 hy2 g3 g4 ((hf.step g4).put hw2 g2))
            · cases h
          | rngM m =>
            simp only at h
            split at h
            · rename_i es ver hm
              exact effs (by simp) (hact es ver hm) h
            · cases h

end Pe

namespace Pe
open Go
variable {P : Program} {B : Nat} {ρ : Rho} {fr : Fr} {a : Act} {w : World} {σ : AW} {o : Oper}

/-! ### The scope of a label that no goto looks for -/
section
variable {b : Frame} {k : List Item} {cs : List Frame}
theorem stepR_scope {c : Code} : step P (lone (b.atR a (.code (.scope c) :: k)) cs w) = .next (lone (b.atR a (.code c :: .inScope c :: k)) cs w) :=
  step_lone_go (by simp [stepG, stepG.exec, Frame.atR])
theorem stepR_inScope {c : Code} : step P (lone (b.atR a (.inScope c :: k)) cs w) = .next (lone (b.atR a k) cs w) :=
  step_lone_go (by simp [stepG, stepG.exec, Frame.atR])
end

theorem wpIn_scope_straight {F : Fence} {n : Nat} {Q : Exit → Act → World → Prop} {c : Code} (h : c.wpIn F n P (Exit.noGoto Q) a w) : (Code.scope c).wpIn F n P Q a w := by
  intro b k cs hro hb hr
  have h0 : (lone (b.atR a (.code (.scope c) :: k)) cs w).fenced P F := fenced_calm hb hr rfl
  obtain ⟨e, a₁, w₁, hq, harr⟩ := h b (.inScope c :: k) cs hro hb hr
  cases e with
  | normal => exact ⟨.normal, a₁, w₁, hq, .head h0 stepR_scope (StepsIn.trans harr (.one (fenced_calm hb hr rfl) stepR_inScope))⟩
  | exit id =>
    have hx : exitTo id (.inScope c :: k) = exitTo id k := by simp [exitTo]
    exact ⟨.exit id, a₁, w₁, hq, fun k' hk => .head h0 stepR_scope (harr.1 k' (by rw [hx]; exact hk)),
      fun hr' hk => let ⟨k₁, h1, h2⟩ := harr.2 hr' (by rw [hx]; exact hk); ⟨k₁, h1, .head h0 stepR_scope h2⟩⟩
  | goto l => exact hq.elim
  | ret => exact ⟨_, a₁, w₁, hq, .of_steps (.one h0 stepR_scope) harr⟩
  | panic ch => exact ⟨_, a₁, w₁, hq, .of_steps (.one h0 stepR_scope) harr⟩
  | outgrown => exact ⟨_, a₁, w₁, hq, .of_steps (.one h0 stepR_scope) harr⟩

theorem least {p : Nat → Prop} (h : ∃ n, p n) : ∃ m, p m ∧ ∀ k, p k → m ≤ k := by
  obtain ⟨n, hn⟩ := h
  induction n using Nat.strongRecOn with
  | _ n ih =>
    by_cases hx : ∃ k, k < n ∧ p k
    · obtain ⟨k, hk, hp⟩ := hx; exact ih k hk hp
    · exact ⟨n, hn, fun k hk => Nat.le_of_not_lt fun hlt => hx ⟨k, hlt, hk⟩⟩

open Classical in
noncomputable def leastOf (p : Nat → Prop) : Nat := if h : ∃ n, p n then Classical.choose (least h) else 0

theorem leastOf_spec {p : Nat → Prop} {n : Nat} (h : p n) : p (leastOf p) ∧ leastOf p ≤ n := by
  have hx : ∃ n, p n := ⟨n, h⟩
  unfold leastOf
  rw [dif_pos hx]
  exact ⟨(Classical.choose_spec (least hx)).1, (Classical.choose_spec (least hx)).2 n h⟩

theorem evs_succ (C : Cfg) (n : Nat) : evs C (n + 1) = ⟨evCode C (evs C n), evCall C (evs C n)⟩ := rfl
theorem evs_zero (C : Cfg) : evs C 0 = evs0 := rfl

theorem canonT_get (fr : Fr) : ∀ (n i : Nat), (canonT fr n).get i = if i < n then some (fr.get i) else none
  | 0, i => by rw [if_neg (by omega)]; exact Tr.get_nil i
  | n + 1, i => by
    show ((canonT fr n).set (fr.get n) n).get i = _
    rw [Tr.get_set, canonT_get fr n i]
    by_cases h : i = n
    · rw [if_pos h, if_pos (by omega), h]
    · rw [if_neg h]
      by_cases h2 : i < n
      · rw [if_pos h2, if_pos (by omega)]
      · rw [if_neg h2, if_neg (by omega)]

theorem canon_VR {ρ : Rho} {fr : Fr} {x : Array Value} (h : ∀ t, VR ρ (fr.get t) (x.getD t undef)) {n : Nat} (t : Tmp) : VR ρ (match (canonT fr n).get t with | some v => v | none => .top) (x.getD t undef) := by
  rw [canonT_get]
  split
  · rename_i v hv
    split at hv
    · cases hv; exact h t
    · cases hv
  · simp [VR]

/-- A region that draws its order. -/
def DrawSound [Globs] (C : Cfg) : Prop := ∀ E, Sound C E → ∀ (ops : Array Oper) (fr : Fr) (σ : AW) (l : List (Out × Fr × AW)), drawOk ops = true → runOpsD C E ops (Region.before ops) σ.next 0 ops.toList ⟨[], [], []⟩ fr σ = some l →
  ∀ B F n id ρ w a, FOk F → Sim C.P ρ σ w → Glob ρ σ w → FrRel B ρ σ w F fr a → (Code.region id ops true).wpIn F n C.P (QCode C.P B F ρ σ w l) a w

/-- A block more, that no object lies in. -/
theorem Sim.extra (hs : Sim P ρ σ w) (O : Obj) : Sim P ρ σ (w.alloc O) ∧ Post ρ σ w ρ σ (w.alloc O) := by
  have hold : ∀ b, b < w.heap.size → (w.alloc O).heap[b]? = w.heap[b]? := by
    intro b hb
    show (w.heap.push O)[b]? = _
    rw [Array.getElem?_push, if_neg (by omega)]
  refine ⟨hs.change (fun _ => False) (Rho.le.refl ρ) (Nat.le_refl _) (by simp) (fun i l he h0 => (by rw [he] at h0; cases h0)) (fun _ _ _ ht => ht.elim) (fun id l hl _ => ⟨rfl, fun o ho hv => hold _ ?_⟩)
    (fun _ _ _ _ _ ht _ => ht.elim) (fun _ _ _ _ _ _ ht => ht.elim), ?_⟩
  · obtain ⟨_, o2, h1, h2, _⟩ := hs.obj id l hl
    rw [ho] at h1; cases h1; exact h2 hv
  · exact ⟨Rho.le.refl ρ, fun i l he h0 => (by rw [he] at h0; cases h0), Nat.le_refl _, fun _ _ _ => rfl, ⟨Nat.le_refl _, fun _ _ _ => rfl⟩, by simp, fun b hb _ => hold b hb, fun _ _ ho => ho, rfl, rfl⟩

theorem DefsRel.marks : ∀ {ds : List (Option ADef)} {Ds : List Deferred}, DefsRel B ρ σ w ds Ds → ∀ D ∈ Ds, ∀ r, D.target = .collected r → r < w.heap.size
  | [], _, h, D, hD, _, _ => by simp only [DefsRel] at h; subst h; cases hD
  | some d :: ds, _, ⟨D0, Ds', h1, h2, h3⟩, D, hD, r, hr => by
    subst h1
    rcases List.mem_cons.1 hD with rfl | hD
    · unfold DefRel at h2
      split at h2
      · obtain ⟨_, _, rfl, _, _⟩ := h2; cases hr
      · exact h2.elim
    · exact h3.marks D hD r hr
  | none :: ds, _, ⟨r0, Ds', h1, h2, h3, h4, h5, h6⟩, D, hD, r, hr => by
    subst h1
    rcases List.mem_cons.1 hD with rfl | hD
    · cases hr; exact h2.2
    · exact h6.marks D hD r hr

theorem owned_lt (hs : Sim P ρ σ w) {b : Nat} (h : Owned ρ σ b) : b < w.heap.size := by
  obtain ⟨id, l, o, h1, h2, h3, rfl⟩ := h
  obtain ⟨_, o2, g1, g2, _⟩ := hs.obj id l h1
  rw [h2] at g1; cases g1; exact g2 h3

section
variable {C : Cfg} {n0 : Nat}

theorem mono_Q {F : Fence} {n : Nat} {c : Code} {l l' : List (Out × Fr × AW)} {ρ' : Rho} {σ' : AW} {w' : World} (p : Post ρ σ w ρ' σ' w') (hl : ∀ z ∈ l', z ∈ l) (h : c.wpIn F n P (QCode P B F ρ' σ' w' l') a w') : c.wpIn F n P (QCode P B F ρ σ w l) a w' :=
  wpIn_mono h fun _ _ _ hq => hq.trans p hl

theorem QCode.here {F : Fence} {l : List (Out × Fr × AW)} {out : Out} {e : Exit} (hl : (out, fr, σ) ∈ l) (he : ExitOf out e) (hs : Sim P ρ σ w) (hf : FrRel B ρ σ w F fr a) : QCode P B F ρ σ w l e a w :=
  ⟨_, hl, he, ρ, hs, Post.refl _ _ _, hf⟩

theorem evCode_sound [Globs] (hD : DrawSound C) (H : ∀ m, m ≤ n0 → Sound C (evs C m)) (c : Code) (fr : Fr) (σ : AW) (l : List (Out × Fr × AW)) (h : evCode C (evs C n0) c fr σ = some l) (B : Nat) (F : Fence) (n : Nat) (ρ : Rho) (w : World) (a : Act) (hF : FOk F) (hs : Sim C.P ρ σ w) (hg : Glob ρ σ w) (hf : FrRel B ρ σ w F fr a) :
    c.wpIn F n C.P (QCode C.P B F ρ σ w l) a w := by
  have hE := H n0 (Nat.le_refl _)
  unfold evCode at h
  split at h
  · cases h; exact wpIn_skip (QCode.here (List.mem_singleton.2 rfl) rfl hs hf)
  · cases h; exact wpIn_label (QCode.here (List.mem_singleton.2 rfl) rfl hs hf)
  · -- region
    rename_i id ops draw
    split at h
    · rename_i hdr
      subst hdr
      split at h
      · rename_i hok
        exact hD _ hE ops fr σ l hok h B F n id ρ w a hF hs hg hf
      · cases h
    · rename_i hdr
      have : draw = false := by simpa using hdr
      subst this
      have := runOps_sound hE hF (n := n) ops.toList 0 (by simp) fr σ l h ρ w a hs hg hf
      refine wpIn_region ?_
      rw [List.range_eq_range']
      simpa using this
  · -- seq
    rename_i x y
    split at h
    · rename_i l1 hl1
      refine wpIn_seq (wpIn_mono (hE.code _ _ _ _ hl1 B F n ρ w a hF hs hg hf) fun e a' w' hq => ?_)
      obtain ⟨⟨out, fr', σ'⟩, hr, he, ρ', k1, k2, k3⟩ := hq
      obtain ⟨l2, h1, h2⟩ := collect_mem h _ hr
      cases out with
      | norm =>
        simp only [ExitOf] at he; subst he
        exact mono_Q k2 h2 (hE.code _ _ _ _ h1 B F n ρ' w' a' hF k1 (hg.step k2) k3)
      | jump j =>
        simp only [Option.some.injEq] at h1; subst h1
        cases j <;> (simp only [ExitOf] at he; subst he; exact ⟨_, h2 _ (List.mem_singleton.2 rfl), rfl, ρ', k1, k2, k3⟩)
    · cases h
  · -- cond
    rename_i x y z
    split at h
    · rename_i t ht
      have hv := hf.evalRel [x] x (by simp) _ ht
      simp only [VR] at hv
      exact wpIn_cond hv (hE.code _ _ _ _ h B F n ρ w a hF hs hg hf)
    · cases h
  · -- block
    rename_i id b
    split at h
    · rename_i l1 hl1
      refine wpIn_block (wpIn_mono (hE.code _ _ _ _ hl1 B F n ρ w a hF hs hg hf) fun e a' w' hq => ?_)
      obtain ⟨⟨out, fr', σ'⟩, hr, he, ρ', k1, k2, k3⟩ := hq
      obtain ⟨l2, h1, h2⟩ := collect_mem h _ hr
      cases out with
      | norm =>
        simp only [ExitOf] at he; subst he
        simp only [Option.some.injEq] at h1; subst h1
        exact ⟨_, h2 _ (List.mem_singleton.2 rfl), rfl, ρ', k1, k2, k3⟩
      | jump j =>
        cases j with
        | exit id' =>
          simp only [ExitOf] at he; subst he
          simp only [Option.some.injEq] at h1; subst h1
          have hm := h2 _ (List.mem_singleton.2 rfl)
          simp only [Exit.inBlock]
          by_cases hid : id' = id
          · rw [if_pos hid] at hm ⊢; exact ⟨_, hm, rfl, ρ', k1, k2, k3⟩
          · rw [if_neg hid] at hm ⊢; exact ⟨_, hm, rfl, ρ', k1, k2, k3⟩
        | goto t =>
          simp only [ExitOf] at he; subst he
          simp only [Option.some.injEq] at h1; subst h1
          exact ⟨_, h2 _ (List.mem_singleton.2 rfl), rfl, ρ', k1, k2, k3⟩
        | ret =>
          simp only [ExitOf] at he; subst he
          simp only [Option.some.injEq] at h1; subst h1
          exact ⟨_, h2 _ (List.mem_singleton.2 rfl), rfl, ρ', k1, k2, k3⟩
    · cases h
  · -- loop
    rename_i b
    let I : Nat → Act → World → Prop := fun m a' w' => m ≤ n0 + 1 ∧ ∃ fr' σ' l' ρ', (evs C m).code (.loop b) fr' σ' = some l' ∧ (∀ z ∈ l', z ∈ l) ∧ Sim C.P ρ' σ' w' ∧ Post ρ σ w ρ' σ' w' ∧ FrRel B ρ' σ' w' F fr' a'
    refine wpIn_loop (fun a' w' => ∃ m, I m a' w') (fun a' w' => leastOf fun m => I m a' w') ⟨n0 + 1, Nat.le_refl _, fr, σ, l, ρ, ?_, fun _ hz => hz, hs, Post.refl _ _ _, hf⟩ ?_
    · show evCode C (evs C n0) (.loop b) fr σ = some l
      simp only [evCode]; exact h
    · intro a1 w1 ⟨m, hm⟩
      obtain ⟨hI, _⟩ := leastOf_spec (p := fun m => I m a1 w1) hm
      generalize hmu : leastOf (fun m => I m a1 w1) = mu at hI ⊢
      obtain ⟨hle, fr1, σ1, l1, ρ1, hev, hsub, s1, s2, s3⟩ := hI
      cases mu with
      | zero => rw [evs_zero] at hev; cases hev
      | succ m' =>
        have hev' : evCode C (evs C m') (.loop b) fr1 σ1 = some l1 := hev
        simp only [evCode] at hev'
        split at hev'
        · rename_i l2 hl2
          refine wpIn_mono ((H m' (by omega)).code _ _ _ _ hl2 B F n ρ1 w1 a1 hF s1 (hg.step s2) s3) fun e a' w' hq => ?_
          obtain ⟨⟨out, fr', σ'⟩, hr, he, ρ', k1, k2, k3⟩ := hq
          obtain ⟨l3, h1, h2⟩ := collect_mem hev' _ hr
          cases out with
          | norm =>
            simp only [ExitOf] at he; subst he
            have hIm : I m' a' w' := ⟨by omega, fr', σ', l3, ρ', h1, fun z hz => hsub z (h2 z hz), k1, s2.trans k2, k3⟩
            refine ⟨⟨m', hIm⟩, ?_⟩
            have := (leastOf_spec (p := fun m => I m a' w') hIm).2
            show leastOf (fun m => I m a' w') < m' + 1
            omega
          | jump j =>
            simp only [Option.some.injEq] at h1; subst h1
            cases j <;> (simp only [ExitOf] at he; subst he; exact ⟨_, hsub _ (h2 _ (List.mem_singleton.2 rfl)), rfl, ρ', k1, s2.trans k2, k3⟩)
        · cases hev'
  · cases h; exact wpIn_exit (QCode.here (List.mem_singleton.2 rfl) rfl hs hf)
  · cases h; exact wpIn_goto (QCode.here (List.mem_singleton.2 rfl) rfl hs hf)
  · cases h; exact wpIn_ret (QCode.here (List.mem_singleton.2 rfl) rfl hs hf)
  · -- range over a function
    rename_i f params assign body
    split at h
    · rename_i g b cap hv0
      split at h
      · cases h
      rename_i hcond
      simp only [Bool.or_eq_true, not_or, Bool.not_eq_true, Option.isSome_eq_false_iff, Option.isNone_iff_eq_none] at hcond
      obtain ⟨hrnd, hext⟩ := hcond
      split at h
      · rename_i l1 hl1
        have hro : F.round = none := by
          have := hf.rnd
          cases hx : F.round with
          | none => rfl
          | some l => rw [hx, hrnd] at this; cases this
        have hFw : F = Fence.wide := by
          rcases hF with rfl | ⟨l, rfl⟩
          · rfl
          · simp [Fence.inRound] at hro
        subst hFw
        have hv := hf.evalRel [f] f (by simp) _ hv0
        simp only [VR] at hv
        obtain ⟨b', c', e1, g1, g2⟩ := hv
        refine wpIn_rangeFunc fun fn _ => ?_
        -- the two blocks
        let w0 := w.alloc (.deferred (some []))
        let L : Loop := { state := .ready, pending := none, fn, tmps := a.tmps, params, assign, body, defers := w.heap.size }
        obtain ⟨s0, p0⟩ := hs.extra (.deferred (some []))
        have hsz0 : w0.heap.size = w.heap.size + 1 := by simp [w0]
        have key := s0.new (w' := w0.alloc (.loop L)) (.loop .ready none fr.nt (canonT fr fr.nt) params.toList assign body) (.loop L) ⟨w.heap.size + 1, 0, 0⟩ (by simp) rfl
          ⟨L, by show (w0.heap.push _)[w.heap.size + 1]? = _; rw [← hsz0]; simp, rfl, rfl, rfl, rfl, rfl, hf.size, canon_VR fun t => VR.mono (s0.le_upd _) _ _ (hf.val t)⟩
        obtain ⟨s1, p1⟩ := key
        let args : Array Value := b' ++ #[.func (.yield (w.heap.size + 1)) #[] #[]] ++ c'
        have hargs : VRs (ρ.upd σ.next ⟨w.heap.size + 1, 0, 0⟩) (b ++ [.yield σ.next] ++ cap) args.toList := by
          simp only [args, Array.toList_append]
          refine ((VRs.mono (s0.le_upd _) _ _ g1).append ((VRs_cons (x := .yield σ.next) (xs := [])).2 ⟨_, [], rfl, ?_, by simp [VRs]⟩)).append (VRs.mono (s0.le_upd _) _ _ g2)
          simp only [VR]
          exact ⟨⟨w.heap.size + 1, 0, 0⟩, by simp [Rho.upd], rfl⟩
        obtain ⟨hcall, hin⟩ := hE.enter _ _ _ _ hl1 hext _ _ args s1 (hg.step (p0.trans p1)) hargs
        refine ⟨w.heap.size + 1, [{ target := .collected w.heap.size, args := #[] }], w0.alloc (.loop L), { target := .fn (.func g) c', args := b' ++ #[.func (.yield (w.heap.size + 1)) #[] #[]] }, w0.alloc (.loop L), g, args, w0.alloc (.loop L), ?_, ?_, fun _ _ => trivial, ?_, hF.depth _, (hin _).mono fun e w' he => ?_⟩
        · rw [hro]
          simp [Instr.enterLoop, w0, L]
        · have hc : a.eval (.const (.func (.yield (w.heap.size + 1)) #[] #[])) = .func (.yield (w.heap.size + 1)) #[] #[] := rfl
          simp [resolve, e1, Deferred.ofValue, hc]
        · simp only [invoke]; exact hcall
        · cases e with
          | panicked c => exact he.elim
          | outgrown => exact he.elim
          | returned v =>
            obtain ⟨⟨rv, σ'⟩, hr, ρ', k1, k2, k3⟩ := he
            obtain ⟨y, hy1, hy2⟩ := collect_mem h _ hr
            simp only at hy1 k1 k2 k3
            split at hy1
            · rename_i st pend nt t ps asg bd hlp
              split at hy1
              · cases hy1
              rename_i hst
              cases hy1
              have hmem := hy2 _ (List.mem_singleton.2 rfl)
              have hloc : ρ' σ.next = some ⟨w.heap.size + 1, 0, 0⟩ := k3.le _ _ (by simp [Rho.upd])
              obtain ⟨_, ob, hob, hblt, hor⟩ := k2.obj _ _ hloc
              rw [hlp] at hob; cases hob
              obtain ⟨L', m1, m2, m3, m4, m5, m6, m7, m8⟩ := hor
              simp only at m1
              have key2 := k2.put (w' := w'.putObj (w.heap.size + 1) (.loop { L' with state := .exhausted })) (.loop .exhausted pend nt t ps asg bd) hloc hlp rfl (fun _ _ hh => by cases hh) (by simp) (fun b hbb => World.putObj_heap_other hbb)
                ⟨{ L' with state := .exhausted }, World.putObj_heap_same (hblt rfl), rfl, m3, m4, m5, m6, m7, m8⟩
              obtain ⟨s2, p2⟩ := key2
              have pAll := p1.trans (k3.trans p2)
              have hnow : ¬ Owned ρ σ w.heap.size := fun ho => by have := owned_lt hs ho; omega
              have hblk : (w'.putObj (w.heap.size + 1) (.loop { L' with state := .exhausted })).heap[w.heap.size]? = some (.deferred (some [])) := by
                rw [pAll.frame _ (by rw [hsz0]; omega) hnow]
                show (w.heap.push _)[w.heap.size]? = _
                simp
              have hfr : FrRel B ρ' (σ'.put σ.next (.loop .exhausted pend nt t ps asg bd)) (w'.putObj (w.heap.size + 1) (.loop { L' with state := .exhausted })) Fence.wide { fr with defers := none :: fr.defers } { a with defers := [{ target := .collected w.heap.size, args := #[] }] ++ a.defers } := by
                refine ⟨Nat.le_trans hf.base (p0.trans pAll).size, hf.size, fun t => VR.mono pAll.le _ _ (hf.val t), ⟨w.heap.size, a.defers, rfl, ⟨hf.base, ?_⟩, hblk, fun ho => hnow (pAll.owned _ (by rw [hsz0]; omega) ho), ?_, hf.defs.step (p0.trans pAll)⟩, hf.rnd⟩
                · have := pAll.size; rw [hsz0] at this; omega
                · intro D hD hh
                  have := hf.defs.marks D hD _ hh; omega
              refine ⟨pend.map Jump.code, w'.putObj (w.heap.size + 1) (.loop { L' with state := .exhausted }), ?_, ?_⟩
              · have hbusy : (L'.state == LoopState.busy) = false := by
                  rw [m2]; cases st <;> first | rfl | exact absurd rfl hst
                have hbusy' : L'.state ≠ LoopState.busy := by rw [m2]; exact hst
                simp [Instr.endLoop, Instr.getLoop, run_getObj_loop m1, hbusy', run_setObj_loop _ m1, m3]
              · cases pend with
                | none => exact ⟨_, hmem, rfl, ρ', s2, p0.trans pAll, hfr⟩
                | some j =>
                  cases j with
                  | exit id => exact wpIn_exit ⟨_, hmem, rfl, ρ', s2, p0.trans pAll, hfr⟩
                  | goto t => exact wpIn_goto ⟨_, hmem, rfl, ρ', s2, p0.trans pAll, hfr⟩
                  | ret => exact wpIn_ret ⟨_, hmem, rfl, ρ', s2, p0.trans pAll, hfr⟩
            · cases hy1
      · cases h
    · cases h
  · -- scope
    rename_i b
    split at h
    · rename_i l1 hl1
      refine wpIn_scope_straight (wpIn_mono (hE.code _ _ _ _ hl1 B F n ρ w a hF hs hg hf) fun e a' w' hq => ?_)
      obtain ⟨⟨out, fr', σ'⟩, hr, he, ρ', k1, k2, k3⟩ := hq
      obtain ⟨l2, h1, h2⟩ := collect_mem h _ hr
      cases out with
      | norm =>
        simp only [ExitOf] at he; subst he
        simp only [Option.some.injEq] at h1; subst h1
        exact ⟨_, h2 _ (List.mem_singleton.2 rfl), rfl, ρ', k1, k2, k3⟩
      | jump j =>
        cases j with
        | goto t => cases h1
        | exit id' =>
          simp only [ExitOf] at he; subst he
          simp only [Option.some.injEq] at h1; subst h1
          exact ⟨_, h2 _ (List.mem_singleton.2 rfl), rfl, ρ', k1, k2, k3⟩
        | ret =>
          simp only [ExitOf] at he; subst he
          simp only [Option.some.injEq] at h1; subst h1
          exact ⟨_, h2 _ (List.mem_singleton.2 rfl), rfl, ρ', k1, k2, k3⟩
    · cases h
  · cases h
end
end Pe

namespace Pe
open Go
variable {P : Program} {B : Nat} {ρ : Rho} {fr : Fr} {a : Act} {w : World} {σ : AW} {o : Oper}

theorem setArgs_eq : ∀ (xs : List AV) (t : Tr AV) (i : Nat), setArgs t i xs = setFrom t i xs
  | [], _, _ => rfl
  | x :: xs, t, i => by simp only [setArgs, setFrom]; exact setArgs_eq xs _ _

/-- A function's frame at its head. -/
theorem frame0_ok {fn : Func} {xs : List AV} {args : Array Value} (hx : VRs ρ xs args.toList) : FrRel w.heap.size ρ σ w Fence.wide (frame0 fn xs) { tmps := args ++ Array.replicate (fn.ntmps - args.size) undef, defers := [] } := by
  have hl : args.size = xs.length := by rw [← Array.length_toList, hx.length]
  refine ⟨Nat.le_refl _, ?_, fun t => ?_, rfl, rfl⟩
  · simp only [frame0, Array.size_append, Array.size_replicate, hl]
    split <;> omega
  · simp only [frame0, Fr.get, setArgs_eq, setFrom_get, Nat.zero_le, Nat.zero_add, true_and, Nat.sub_zero, get_nil]
    by_cases h : t < xs.length
    · rw [if_pos h]
      obtain ⟨v, h1, h2⟩ := hx.get (List.getElem?_eq_getElem h)
      rw [List.getElem?_eq_getElem h]
      simp only [Array.getD_eq_getD_getElem?]
      rw [Array.getElem?_append_left (Nat.lt_of_lt_of_eq h hl.symm)]
      rw [Array.getElem?_toList] at h1
      rw [h1]; exact h2
    · rw [if_neg h]; trivial

def resOne (tmps : Array Value) : ResultVar → Sem Value
  | .tmp t => pure (tmps.getD t undef)
  | .cell a t => do loadVar t (← asAddr (tmps.getD a undef))

theorem resVals_ok (hs : Sim P ρ σ w) (hf : ∀ t, VR ρ (fr.get t) (a.tmps.getD t undef)) : ∀ {rs : List ResultVar} {us : List AV}, resVals P fr σ rs = some us → ∃ vs : List Value, (rs.mapM (resOne a.tmps)).run P w = .ok vs w ∧ VRs ρ us vs
  | [], us, h => by
    simp only [resVals, Option.some.injEq] at h; subst h
    exact ⟨[], by simp, by simp [VRs]⟩
  | .tmp t :: rs, us, h => by
    simp only [resVals, Option.map_eq_some_iff] at h
    obtain ⟨us', h1, rfl⟩ := h
    obtain ⟨vs, g1, g2⟩ := resVals_ok hs hf h1
    exact ⟨a.tmps.getD t undef :: vs, by simp [List.mapM_cons, resOne, g1], VRs_cons.2 ⟨_, _, rfl, hf t, g2⟩⟩
  | .cell b t :: rs, us, h => by
    simp only [resVals] at h
    split at h
    · rename_i v vs0 h1 h2
      cases h
      obtain ⟨vs, g1, g2⟩ := resVals_ok hs hf h2
      have hv := hf b
      obtain ⟨r, k1, k2⟩ := loadV_ok hs hv h1
      have hp : ∃ i j, fr.get b = .ptr i j := by
        cases hx : fr.get b <;> rw [hx] at h1 <;> simp only [loadV, reduceCtorEq] at h1
        exact ⟨_, _, rfl⟩
      obtain ⟨i, j, hp⟩ := hp
      rw [hp] at hv
      simp only [VR] at hv
      obtain ⟨l, hl, e1⟩ := hv
      rw [e1] at k1
      have k1' : (loadVar t ⟨l.b, l.base + j, none⟩).run P w = .ok r w := by
        simpa [Instr.loadAt, Instr.sureAddr] using k1
      refine ⟨r :: vs, ?_, VRs_cons.2 ⟨_, _, rfl, k2, g2⟩⟩
      have hone : (resOne a.tmps (.cell b t)).run P w = .ok r w := by simp [resOne, e1, asAddr, k1']
      simp [List.mapM_cons, hone, g1]
    · cases h

theorem results_ok (hs : Sim P ρ σ w) (hf : ∀ t, VR ρ (fr.get t) (a.tmps.getD t undef)) {fn : Func} {us : List AV} (h : resVals P fr σ fn.results.toList = some us) : ∃ v, (results fn a.tmps).run P w = .ok v w ∧ VR ρ (oneOrTup us) v := by
  obtain ⟨vs, h1, h2⟩ := resVals_ok hs hf h
  have hm : (fn.results.mapM (resOne a.tmps)).run P w = .ok vs.toArray w := by
    rw [Array.mapM_eq_mapM_toList]
    simp [h1]
  have hres : (results fn a.tmps).run P w = .ok (if h : vs.toArray.size = 1 then vs.toArray[0] else .tuple vs.toArray) w := by
    have : results fn a.tmps = (do let vs ← fn.results.mapM (resOne a.tmps); pure (if h : vs.size = 1 then vs[0] else .tuple vs)) := by
      unfold results
      congr 1
    rw [this, Sem.run_bind, hm]
    simp
  refine ⟨_, hres, ?_⟩
  match us, vs, h2 with
  | [], vs, h2 => rw [VRs_nil.1 h2]; simp [oneOrTup, VR, VRs]
  | [u], vs, h2 =>
    obtain ⟨y, ys, rfl, g1, g2⟩ := VRs_cons.1 h2
    rw [VRs_nil.1 g2]
    simpa [oneOrTup] using g1
  | u :: u' :: us, vs, h2 =>
    have hlen := h2.length
    rw [dif_neg (by simp [hlen])]
    simp only [oneOrTup, VR]
    exact ⟨_, rfl, by simpa using h2⟩


/-! ### A deferred call: its function's body, that may look for a panic and finds none -/
def QDef (P : Program) (B : Nat) (ρ : Rho) (σ : AW) (w : World) (l : List (Out × Fr × AW)) (cs : List Frame) : Exit → Act → List Frame → World → Prop := fun e a' cs' w' => cs' = cs ∧ QCode P B Fence.wide ρ σ w l e a' w'

theorem wpSIn_mono {F : Fence} {n : Nat} {c : Code} {Q Q' : Exit → Act → List Frame → World → Prop} {cs : List Frame} (h : c.wpSIn F n P Q a cs w) (hq : ∀ e a cs w, Q e a cs w → Q' e a cs w) : c.wpSIn F n P Q' a cs w :=
  fun b k hb hr hF hroom => let ⟨e, a', cs', w', l, q, r⟩ := h b k hb hr hF hroom; ⟨e, a', cs', w', l, hq _ _ _ _ q, r⟩

theorem recover_none {c₀ : Frame} {cs : List Frame} (h : c₀.mode = .returning) : recoverD (c₀ :: cs) = none := by
  simp [recoverD, h]

theorem evS_sound [Globs] {C : Cfg} {E : Evs} (hE : Sound C E) {B : Nat} : ∀ (c : Code) (fr : Fr) (σ : AW) (l : List (Out × Fr × AW)), evS C E c fr σ = some l → ∀ (n : Nat) (ρ : Rho) (w : World) (a : Act) (c₀ : Frame) (cs : List Frame), c₀.mode = .returning →
    Sim C.P ρ σ w → Glob ρ σ w → FrRel B ρ σ w Fence.wide fr a → c.wpSIn Fence.wide n C.P (QDef C.P B ρ σ w l (c₀ :: cs)) a (c₀ :: cs) w := by
  intro c
  have plain : ∀ (c : Code) (fr : Fr) (σ : AW) (l : List (Out × Fr × AW)), E.code c fr σ = some l → ∀ (n : Nat) (ρ : Rho) (w : World) (a : Act) (c₀ : Frame) (cs : List Frame),
      Sim C.P ρ σ w → Glob ρ σ w → FrRel B ρ σ w Fence.wide fr a → c.wpSIn Fence.wide n C.P (QDef C.P B ρ σ w l (c₀ :: cs)) a (c₀ :: cs) w := by
    intro c fr σ l h n ρ w a c₀ cs hs hg hf
    exact wpSIn_of_wpIn rfl (wpIn_mono (hE.code _ _ _ _ h _ _ n ρ w a (.inl rfl) hs hg hf) fun e a' w' hq => ⟨rfl, hq⟩)
  have reg : ∀ (id : Nat) (ops : Array Oper) (os : List Oper) (k : Nat), ops.toList.drop k = os → ∀ (fr : Fr) (σ : AW) (l : List (Out × Fr × AW)), runOps C E ops os fr σ = some l →
      ∀ (n : Nat) (ρ : Rho) (w : World) (a : Act), Sim C.P ρ σ w → Glob ρ σ w → FrRel B ρ σ w Fence.wide fr a → wpOpsIn Fence.wide n C.P ops (QCode C.P B Fence.wide ρ σ w l) (List.range' k os.length) a w := by
    intro _ ops os k hk fr σ l h n ρ w a hs hg hf
    exact runOps_sound hE (.inl rfl) os k hk fr σ l h ρ w a hs hg hf
  induction c with
  | seq x y ihx ihy =>
    intro fr σ l h n ρ w a c₀ cs hm hs hg hf
    simp only [evS] at h
    split at h
    · rename_i l1 hl1
      refine wpSIn_seq (wpSIn_mono (ihx _ _ _ hl1 n ρ w a c₀ cs hm hs hg hf) fun e a' cs' w' hq => ?_)
      obtain ⟨rfl, ⟨out, fr', σ'⟩, hr, he, ρ', k1, k2, k3⟩ := hq
      obtain ⟨l2, h1, h2⟩ := collect_mem h _ hr
      cases out with
      | norm =>
        simp only [ExitOf] at he; subst he
        exact wpSIn_mono (plain _ _ _ _ h1 n ρ' w' a' c₀ cs k1 (hg.step k2) k3) fun e a'' cs'' w'' hq => ⟨hq.1, hq.2.trans k2 h2⟩
      | jump j =>
        simp only [Option.some.injEq] at h1; subst h1
        cases j <;> (simp only [ExitOf] at he; subst he; exact ⟨rfl, _, h2 _ (List.mem_singleton.2 rfl), rfl, ρ', k1, k2, k3⟩)
    · cases h
  | region id ops draw =>
    intro fr σ l h n ρ w a c₀ cs hm hs hg hf
    cases draw with
    | true => exact plain _ _ _ _ (by simpa only [evS] using h) n ρ w a c₀ cs hs hg hf
    | false =>
      simp only [evS] at h
      split at h
      · rename_i o rest hops
        split at h
        · -- it looks for a panic
          rename_i hc
          simp only [Bool.and_eq_true, Option.isNone_iff_eq_none] at hc
          obtain ⟨⟨hrec, hgd⟩, hd⟩ := hc
          have h0 : ops[0]? = some o := by rw [← Array.getElem?_toList, hops]; rfl
          have hsz : ops.size = rest.length + 1 := by rw [← Array.length_toList, hops]; rfl
          have hwp := reg id ops rest 1 (by rw [hops]; rfl) _ _ _ h n ρ w (a.put o.dst .nilIface) hs hg (hf.put hd (by simp [VR]))
          have hrun : (execOp a.eval o).run C.P w = .ok .recover w := by
            unfold isRecover at hrec
            split at hrec
            · rename_i args ts ho
              simp [execOp, ho, resolve, invoke, builtin]
            · cases hrec
          intro b k hb hr hF hroom
          have hw : Region.wanted o (yielded ops a.tmps) = true := by simp [Region.wanted, hgd]
          have hstep := stepGR_op (P := C.P) (b := b) (k := k) (cs := c₀ :: cs) (w := w) (rest := List.range' 1 rest.length) h0 hw
          rw [hr, Oper.semAt_none] at hstep
          have hfin : (b.atR a (.inRegion ops (0 :: List.range' 1 rest.length) :: k)).finish .nilIface = b.atR (a.put o.dst .nilIface) (.inRegion ops (List.range' 1 rest.length) :: k) := by
            rw [Frame.finish_atR, h0]; rfl
          have hk : (b.atR a (.inRegion ops (0 :: List.range' 1 rest.length) :: k)).kind = .deferred := hb
          have htr := tryRecover_deferred hk (c₀ :: cs)
          rw [recover_none hm] at htr
          obtain ⟨e, a', w', hq, harr⟩ := wp_opsIn _ _ _ hwp b k (c₀ :: cs) hr hF hroom
          have hrange : List.range ops.size = 0 :: List.range' 1 rest.length := by
            rw [List.range_eq_range', hsz, List.range'_succ]
          have st1 := stepR_region (P := C.P) (b := b) (a := a) (k := k) (cs := c₀ :: cs) (w := w) (id := id) (ops := ops)
          rw [hrange] at st1
          refine ⟨e, a', c₀ :: cs, w', rfl, ⟨rfl, hq⟩, .of_steps (.one (fenced_calm hF hroom rfl) st1) (.of_steps (.one (fenced_oper hF hroom h0 (fun f _ => trivial)) (step_lone_go ?_)) harr)⟩
          rw [hstep, ← hfin]
          simp only [Frame.atR, hr] at htr ⊢
          simp [stepG.apply, hrun, htr]
        · have := reg id ops (o :: rest) 0 (by rw [hops]; rfl) _ _ _ h n ρ w a hs hg hf
          refine wpSIn_of_wpIn rfl (wpIn_mono (wpIn_region (Q := QCode C.P B Fence.wide ρ σ w l) ?_) fun e a' w' hq => ⟨rfl, hq⟩)
          rw [List.range_eq_range']
          have hsz : ops.size = (o :: rest).length := by rw [← Array.length_toList, hops]
          rw [hsz]; exact this
      · rename_i hops
        cases h
        have hsz : ops.size = 0 := by rw [← Array.length_toList, hops]; rfl
        refine wpSIn_of_wpIn rfl (wpIn_mono (wpIn_region (Q := QCode C.P B Fence.wide ρ σ w _) ?_) fun e a' w' hq => ⟨rfl, hq⟩)
        rw [hsz]
        exact QCode.here (List.mem_singleton.2 rfl) rfl hs hf
  | _ => 
    intro fr σ l h n ρ w a c₀ cs hm hs hg hf
    exact plain _ _ _ _ (by simpa only [evS] using h) n ρ w a c₀ cs hs hg hf

end Pe

namespace Pe
open Go
variable {P : Program} {B : Nat} {ρ : Rho} {fr : Fr} {a : Act} {w : World} {σ : AW} {o : Oper}

theorem callFunc_enter {f : FuncId} {fn : Func} {body : Code} {args : Array Value} (hf : P.funcs[f]? = some fn) (hb : fn.body = some body) (hn : (fn.name == "runtime.NumGoroutine") = false) : (callFunc f args).run P w = .ok (.enter f args) w := by
  simp [callFunc, hf, hb, beq_eq_false_iff_ne.1 hn]

/-- A block that no object lies in is turned. -/
theorem Sim.aside (hs : Sim P ρ σ w) {r : Nat} (hr : ¬ Owned ρ σ r) {w' : World} (hsz : w'.heap.size = w.heap.size) (hw : ∀ b, b ≠ r → w'.heap[b]? = w.heap[b]?) : Sim P ρ σ w' :=
  hs.change (fun _ => False) (Rho.le.refl ρ) (Nat.le_refl _) (by omega) (fun i l he h0 => (by rw [he] at h0; cases h0)) (fun _ _ _ ht => ht.elim)
    (fun id l hl _ => ⟨rfl, fun o ho hv => hw _ fun e => hr ⟨id, l, o, hl, ho, hv, e⟩⟩) (fun _ _ _ _ _ ht _ => ht.elim) (fun _ _ _ _ _ _ ht => ht.elim)

theorem Post.aside {ρ0 : Rho} {σ0 : AW} {w0 : World} (p : Post ρ0 σ0 w0 ρ σ w) {r : Nat} (hr : w0.heap.size ≤ r) {w' : World} (hsz : w'.heap.size = w.heap.size) (hw : ∀ b, b ≠ r → w'.heap[b]? = w.heap[b]?) (hio : SameIO w w' := by exact ⟨rfl, rfl⟩) : Post ρ0 σ0 w0 ρ σ w' :=
  ⟨p.le, p.new, p.next, p.kept, p.low, by have := p.size; omega, fun b hb hn => by rw [hw b (by omega)]; exact p.frame b hb hn, p.owned, hio.1.trans p.io.1, hio.2.trans p.io.2⟩

theorem DefsRel.aside {r : Nat} {w' : World} (hsz : w'.heap.size = w.heap.size) (hw : ∀ b, b ≠ r → w'.heap[b]? = w.heap[b]?) : ∀ {ds : List (Option ADef)} {Ds : List Deferred}, DefsRel B ρ σ w ds Ds → (∀ D ∈ Ds, D.target ≠ .collected r) → DefsRel B ρ σ w' ds Ds
  | [], _, h, _ => h
  | some d :: ds, _, ⟨D, Ds', h1, h2, h3⟩, hn => ⟨D, Ds', h1, h2, h3.aside hsz hw fun D hD => hn D (by rw [h1]; simp [hD])⟩
  | none :: ds, _, ⟨r', Ds', h1, h2, h3, h4, h5, h6⟩, hn => by
    have hne : r' ≠ r := fun e => hn { target := .collected r', args := #[] } (by rw [h1]; simp) (by rw [e])
    exact ⟨r', Ds', h1, ⟨h2.1, by omega⟩, by rw [hw r' hne]; exact h3, h4, h5, h6.aside hsz hw fun D hD => hn D (by rw [h1]; simp [hD])⟩

section
variable [Globs] {C : Cfg} {E : Evs}

/-- A deferred call. -/
theorem evDefer_sound (hE : Sound C E) {d : ADef} {D : Deferred} {l : List AW} (h : evDefer C E d σ = some l) (hD : DefRel ρ d D) (hs : Sim C.P ρ σ w) (hg : Glob ρ σ w) (n : Nat) :
    ∃ f cap args, D.target = .fn (.func f) cap ∧ (invoke D.target D.args).run C.P w = .ok (.enter f args) w ∧
      CallsDIn Fence.wide n C.P f args .returning w fun e u' w' => (∃ v, e = .returned v) ∧ u' = .returning ∧ ∃ σ' ∈ l, ∃ ρ', Sim C.P ρ' σ' w' ∧ Post ρ σ w ρ' σ' w' := by
  unfold evDefer at h
  unfold DefRel at hD
  split at h
  · rename_i f b cap hfv
    rw [hfv] at hD
    obtain ⟨a', c', rfl, g1, g2⟩ := hD
    split at h
    · cases h
    rename_i fn hfn
    split at h
    · cases h
    rename_i body hbody
    split at h
    · cases h
    rename_i hname
    have hname' : (fn.name == "runtime.NumGoroutine") = false := by simpa using hname
    split at h
    · cases h
    rename_i l1 hl1
    have hargs : VRs ρ (b ++ d.args ++ cap) (a' ++ c').toList := by
      simp only [Array.toList_append]; exact g1.append g2
    refine ⟨f, c', a' ++ c', rfl, by simp only [invoke]; exact callFunc_enter hfn hbody hname', callsDIn_of_wpSIn hfn hbody trivial fun c₀ cs hm => ?_⟩
    refine wpSIn_mono (evS_sound hE _ _ _ _ hl1 n ρ w _ c₀ cs hm hs hg (frame0_ok hargs)) fun e a1 cs1 w1 hq => ?_
    obtain ⟨rfl, ⟨out, fr', σ'⟩, hr, he, ρ', k1, k2, k3⟩ := hq
    obtain ⟨l2, h1, h2⟩ := collect_mem h _ hr
    have fin : (if fr'.defers.isEmpty then match resVals C.P fr' σ' fn.results.toList with | some _ => some [σ'] | none => none else none) = some l2 →
        a1.defers = [] ∧ ∃ u', c₀ :: cs = { c₀ with mode := u' } :: cs ∧ ∃ v, (results fn a1.tmps).run C.P w1 = .ok v w1 ∧ (∃ v', Ending.returned v = .returned v') ∧ u' = .returning ∧ ∃ σ' ∈ l, ∃ ρ', Sim C.P ρ' σ' w1 ∧ Post ρ σ w ρ' σ' w1 := by
      intro hh
      split at hh
      · rename_i hde
        split at hh
        · rename_i us hus
          cases hh
          obtain ⟨v, g3, _⟩ := results_ok k1 k3.val hus
          have hd0 : fr'.defers = [] := by simpa using hde
          have hdefs := k3.defs
          rw [hd0] at hdefs
          exact ⟨hdefs, .returning, by rw [← hm], v, g3, ⟨v, rfl⟩, rfl, σ', h2 _ (by simp), ρ', k1, k2⟩
        · cases hh
      · cases hh
    cases out with
    | norm => simp only [ExitOf] at he; subst he; exact fin h1
    | jump j =>
      cases j with
      | ret => simp only [ExitOf] at he; subst he; exact fin h1
      | exit id => cases h1
      | goto t => cases h1
  · cases h

theorem runDefers_sound (hE : Sound C E) {ρ0 : Rho} {σ0 : AW} {w0 : World} {fn : Func} {tmps : Array Value} {R : Ending → World → Prop} {n : Nat} : ∀ (ds : List (Option ADef)) (σ : AW) (l : List AW), runDefers C E ds σ = some l → ∀ (Ds : List Deferred) (ρ : Rho) (w : World),
    DefsRel w0.heap.size ρ σ w ds Ds → Sim C.P ρ σ w → Glob ρ0 σ0 w0 → Post ρ0 σ0 w0 ρ σ w →
    (∀ σ' ∈ l, ∀ ρ' w', Sim C.P ρ' σ' w' → Post ρ0 σ0 w0 ρ' σ' w' → ρ.le ρ' → ∃ v, (results fn tmps).run C.P w' = .ok v w' ∧ R (.returned v) w') → LeavesInM Fence.wide n C.P fn tmps R Ds .returning w
  | [], σ, l, h, Ds, ρ, w, hd, hs, hg, hp, K => by
    simp only [runDefers, Option.some.injEq] at h; subst h
    simp only [DefsRel] at hd; subst hd
    exact K σ (by simp) ρ w hs hp (Rho.le.refl ρ)
  | none :: ds, σ, l, h, Ds, ρ, w, hd, hs, hg, hp, K => by
    simp only [runDefers] at h
    obtain ⟨r, Ds', rfl, h2, h3, h4, h5, h6⟩ := hd
    have hsz : (w.putObj r (.deferred none)).heap.size = w.heap.size := by simp
    have hw : ∀ b, b ≠ r → (w.putObj r (.deferred none)).heap[b]? = w.heap[b]? := fun b hb => World.putObj_heap_other hb
    refine ⟨by simp, .inl ⟨r, w.putObj r (.deferred none), rfl, ?_, runDefers_sound hE ds σ l h Ds' ρ _ (h6.aside hsz hw h5) (hs.aside h4 hsz hw) hg (hp.aside h2.1 hsz hw) K⟩⟩
    have hgo : (getObj r).run C.P w = .ok (.deferred (some [])) w := by simp [getObj, Sem.run, h3]
    have hset : (setObj r (.deferred none)).run C.P w = .ok () (w.putObj r (.deferred none)) := by simp [setObj, Sem.run, h3, World.putObj]
    simp [Instr.takeDeferred, hgo, hset]
  | some d :: ds, σ, l, h, Ds, ρ, w, hd, hs, hg, hp, K => by
    simp only [runDefers] at h
    obtain ⟨D, Ds', rfl, h2, h3⟩ := hd
    split at h
    · rename_i l1 hl1
      obtain ⟨f, cap, args, g1, g2, g3⟩ := evDefer_sound hE hl1 h2 hs (hg.step hp) (n - 1)
      refine ⟨by simp, .inr ⟨(FOk.depth (.inl rfl) _), .func f, cap, f, args, g1, g2, fun _ _ => trivial, g3.mono fun e u' w' he => ?_⟩⟩
      obtain ⟨⟨v, rfl⟩, rfl, σ', hσ', ρ', k1, k2⟩ := he
      obtain ⟨y, hy1, hy2⟩ := collect_mem h σ' hσ'
      exact runDefers_sound hE ds σ' y hy1 Ds' ρ' w' (h3.step k2) k1 hg (hp.trans k2) fun σ'' hs'' ρ'' w'' q1 q2 q3 => K σ'' (hy2 _ hs'') ρ'' w'' q1 q2 (k2.le.trans q3)
    · cases h

/-- A function's body, its deferred calls, its results. -/
theorem evBody_sound (hE : Sound C E) {f : FuncId} {fn : Func} {body : Code} {xs : List AV} {l : List (AV × AW)} (h : evBody C E fn body xs σ = some l) (hfn : C.P.funcs[f]? = some fn) (hbody : fn.body = some body) {args : Array Value} (hs : Sim C.P ρ σ w) (hg : Glob ρ σ w) (hx : VRs ρ xs args.toList) (n : Nat) :
    CallsIn Fence.wide n C.P f args w (REnd C.P ρ σ w l) := by
  unfold evBody at h
  split at h
  · cases h
  rename_i l1 hl1
  refine callsIn_of_wp_marks hfn hbody trivial (wpIn_mono (hE.code _ _ _ _ hl1 w.heap.size Fence.wide n ρ w _ (.inl rfl) hs hg (frame0_ok hx)) fun e a1 w1 hq => ?_)
  obtain ⟨⟨out, fr', σ'⟩, hr, he, ρ', k1, k2, k3⟩ := hq
  obtain ⟨l2, h1, h2⟩ := collect_mem h _ hr
  have fin : (match runDefers C E fr'.defers σ' with
      | none => none
      | some l => collect (fun σ => match resVals C.P fr' σ fn.results.toList with
        | some vs => some [(oneOrTup vs, σ)]
        | none => none) l) = some l2 → LeavesInM Fence.wide n C.P fn a1.tmps (REnd C.P ρ σ w l) a1.defers .returning w1 := by
    intro hh
    split at hh
    · cases hh
    rename_i l3 hl3
    refine runDefers_sound hE _ _ _ hl3 _ ρ' w1 k3.defs k1 hg k2 fun σ'' hs'' ρ'' w'' q1 q2 q3 => ?_
    obtain ⟨y, hy1, hy2⟩ := collect_mem hh σ'' hs''
    split at hy1
    · rename_i us hus
      cases hy1
      obtain ⟨v, g1, g2⟩ := results_ok q1 (fun t => VR.mono q3 _ _ (k3.val t)) hus
      exact ⟨v, g1, _, h2 _ (hy2 _ (List.mem_singleton.2 rfl)), ρ'', g2, q1, q2⟩
    · cases hy1
  cases out with
  | norm => simp only [ExitOf] at he; subst he; exact fin h1
  | jump j =>
    cases j with
    | ret => simp only [ExitOf] at he; subst he; exact fin h1
    | exit id => cases h1
    | goto t => cases h1
end
end Pe

namespace Pe
open Go
variable {P : Program} {B : Nat} {ρ : Rho} {fr : Fr} {a : Act} {w : World} {σ : AW} {o : Oper}

theorem setParams_ok {nt : Nat} : ∀ {ps : List Tmp} {us : List AV} {t t' : Tr AV} {vs : List Value} {T : Array Value}, setParams nt t ps us = some t' → VRs ρ us vs → T.size = nt → (∀ i, VR ρ (match t.get i with | some v => v | none => .top) (T.getD i undef)) →
    ps.length = vs.length ∧ ((ps.zip vs).foldl (fun T (x : Tmp × Value) => T.setIfInBounds x.1 x.2) T).size = nt ∧ ∀ i, VR ρ (match t'.get i with | some v => v | none => .top) (((ps.zip vs).foldl (fun T (x : Tmp × Value) => T.setIfInBounds x.1 x.2) T).getD i undef)
  | [], [], t, t', vs, T, h, hv, hs, ht => by
    simp only [setParams, Option.some.injEq] at h; subst h
    rw [VRs_nil.1 hv]
    exact ⟨rfl, hs, ht⟩
  | [], _ :: _, _, _, _, _, h, _, _, _ => by simp [setParams] at h
  | _ :: _, [], _, _, _, _, h, _, _, _ => by simp [setParams] at h
  | p :: ps, u :: us, t, t', vs, T, h, hv, hs, ht => by
    simp only [setParams] at h
    split at h
    · rename_i hp
      obtain ⟨v, vs, rfl, h1, h2⟩ := VRs_cons.1 hv
      have hlt : p < T.size := by rw [hs]; exact Nat.le_of_ble_eq_true hp
      obtain ⟨g1, g2, g3⟩ := setParams_ok (T := T.setIfInBounds p v) h h2 (by simp [hs]) (fun i => by
        rw [getD_set hlt, Tr.get_set]
        by_cases hi : i = p
        · rw [if_pos hi, if_pos hi]; exact h1
        · rw [if_neg hi, if_neg hi]; exact ht i)
      exact ⟨by simp [g1], g2, g3⟩
    · cases h

theorem loop_at (hs : Sim P ρ σ w) {y : Nat} {loc : Loc} (hl : ρ y = some loc) {st : LoopState} {pend : Option Jump} {nt : Nat} {tm : Tr AV} {ps : List Tmp} {asg bd : Code} (ho : σ.heap.get y = some (.loop st pend nt tm ps asg bd)) :
    loc.b < w.heap.size ∧ OR P ρ σ loc w (.loop st pend nt tm ps asg bd) := by
  obtain ⟨_, ob, h1, h2, h3⟩ := hs.obj y loc hl
  rw [ho] at h1; cases h1
  exact ⟨h2 rfl, h3⟩

section
variable [Globs] {C : Cfg} {E : Evs}

theorem evRound_sound (hE : Sound C E) {y : Nat} {loc : Loc} {pend : Option Jump} {nt : Nat} {tm : Tr AV} {ps : List Tmp} {asg bd : Code} (hs : Sim C.P ρ σ w) (hgl : Glob ρ σ w) (hl : ρ y = some loc) (ho : σ.heap.get y = some (.loop .ready pend nt tm ps asg bd))
    {xs : List AV} {args : Array Value} (hx : VRs ρ xs args.toList) {l : List (AV × AW)} (h : evRound E y nt ps asg bd xs σ tm = some l) : CallRes C.P ρ σ w (Instr.yield loc.b args) l := by
  obtain ⟨_, L, m1, m2, m3, m4, m5, m6, m7, m8⟩ := loop_at hs hl ho
  unfold evRound at h
  split at h
  · cases h
  rename_i t ht
  split at h
  · cases h
  rename_i rs hrs
  obtain ⟨q1, q2, q3⟩ := setParams_ok ht hx m7 m8
  have hsize : args.size = L.params.size := by rw [← Array.length_toList, ← Array.length_toList, m4, q1]
  right; right
  let T := (L.params.zip args).foldl (fun tmps (x : Tmp × Value) => tmps.setIfInBounds x.1 x.2) L.tmps
  have hT : T = (ps.zip args.toList).foldl (fun T (x : Tmp × Value) => T.setIfInBounds x.1 x.2) L.tmps := by
    simp only [T]
    rw [← Array.foldl_toList, Array.toList_zip, m4]
  refine ⟨loc.b, L.fn, T, L.assign, L.body, w, ?_, fun n => roundIn_of_wpIn trivial ?_⟩
  · have hg : (getObj loc.b).run C.P w = .ok (.loop L) w := run_getObj_loop m1
    simp [Instr.yield, Instr.getLoop, hg, hsize, T]
  · rw [m5, m6]
    have hfr : FrRel w.heap.size ρ σ w (Fence.wide.inRound loc.b) { nt, tmps := t, defers := [], rnd := true } { tmps := T, defers := [] } :=
      ⟨Nat.le_refl _, by rw [hT]; exact q2, fun i => by rw [hT]; exact q3 i, rfl, rfl⟩
    refine wpIn_mono (hE.code _ _ _ _ hrs w.heap.size _ n ρ w _ (.inr ⟨loc.b, rfl⟩) hs hgl hfr) fun e a1 w1 hq => ?_
    obtain ⟨⟨out, fr1, σ1⟩, hr, he, ρ1, k1, k2, k3⟩ := hq
    obtain ⟨l2, h1, h2⟩ := collect_mem h _ hr
    cases out with
    | jump j => cases h1
    | norm =>
      simp only [ExitOf] at he; subst he
      simp only at h1
      split at h1
      · rename_i pend1 nt1 tm1 ps1 asg1 bd1 ho1
        split at h1
        · cases h1
        rename_i rs2 hrs2
        have hl1 := k2.le _ _ hl
        obtain ⟨hb1, L1, n1, n2, n3, n4, n5, n6, n7, n8⟩ := loop_at k1 hl1 ho1
        have key := k1.put (w' := w1.putObj loc.b (.loop { L1 with state := .busy })) (.loop .busy pend1 nt1 tm1 ps1 asg1 bd1) hl1 ho1 rfl (fun _ _ hh => by cases hh) (by simp) (fun b hbb => World.putObj_heap_other hbb)
          ⟨{ L1 with state := .busy }, World.putObj_heap_same hb1, rfl, n3, n4, n5, n6, n7, n8⟩
        refine ⟨w1.putObj loc.b (.loop { L1 with state := .busy }), ?_, ?_⟩
        · simp [Instr.beginRound, Instr.getLoop, run_getObj_loop n1, run_setObj_loop _ n1, n2]
        · refine wpIn_mono (hE.code _ _ _ _ hrs2 w.heap.size _ n ρ1 _ a1 (.inr ⟨loc.b, rfl⟩) key.1 ((hgl.step k2).step key.2) (k3.step key.2)) fun e a2 w2 hq2 => ?_
          obtain ⟨⟨out2, fr2, σ2⟩, hr2, he2, ρ2, j1, j2, j3⟩ := hq2
          obtain ⟨l3, g1, g2⟩ := collect_mem h1 _ hr2
          simp only at g1
          split at g1
          · rename_i st2 pend2 nt2 tm2 ps2 asg2 bd2 ho2
            have hl2 := j2.le _ _ (key.2.le _ _ hl1)
            obtain ⟨hb2, L2, p1, p2, p3, p4, p5, p6, p7, p8⟩ := loop_at j1 hl2 ho2
            have fin : ∀ (jmp : Option Jump), (.bool jmp.isNone, σ2.put y (.loop (if jmp.isNone then .ready else .done) jmp nt2 tm2 ps2 asg2 bd2)) ∈ l →
                ∃ v w', (Instr.endRound loc.b (jmp.map Jump.code)).run C.P w2 = .ok v w' ∧ REnd C.P ρ σ w l (.returned v) w' := by
              intro jmp hmem
              have key2 := j1.put (w' := w2.putObj loc.b (.loop { L2 with state := if jmp.isNone then .ready else .done, pending := jmp.map Jump.code })) (.loop (if jmp.isNone then .ready else .done) jmp nt2 tm2 ps2 asg2 bd2) hl2 ho2 rfl (fun _ _ hh => by cases hh) (by simp) (fun b hbb => World.putObj_heap_other hbb)
                ⟨{ L2 with state := if jmp.isNone then .ready else .done, pending := jmp.map Jump.code }, World.putObj_heap_same hb2, rfl, rfl, p4, p5, p6, p7, p8⟩
              refine ⟨.bool jmp.isNone, _, ?_, _, hmem, ρ2, by simp [VR], key2.1, k2.trans (key.2.trans (j2.trans key2.2))⟩
              simp [Instr.endRound, Instr.getLoop, run_getObj_loop p1, run_setObj_loop _ p1]
            cases out2 with
            | norm =>
              simp only [ExitOf] at he2; subst he2
              simp only [Option.some.injEq] at g1; subst g1
              exact fin none (h2 _ (g2 _ (by simp)))
            | jump j =>
              simp only [Option.some.injEq] at g1; subst g1
              have := fin (some j) (h2 _ (g2 _ (by simp)))
              cases j <;> (simp only [ExitOf] at he2; subst he2; exact this)
          · cases g1
      · cases h1
end
end Pe

namespace Pe
open Go
variable {P : Program} {B : Nat} {ρ : Rho} {fr : Fr} {a : Act} {w : World} {σ : AW} {o : Oper}

/-- The contracts that are taken from elsewhere. -/
def ExtOk [Globs] (C : Cfg) : Prop := ∀ f xs σ r, C.ext f xs σ = some r → ∀ ρ w (args : Array Value), Sim C.P ρ σ w → Glob ρ σ w → VRs ρ xs args.toList → CallRes C.P ρ σ w (callFunc f args) [r]

/-- What calls come to that do not depend on an order. -/
def MergeSound (P : Program) : Prop := ∀ ρ σ w (l l' : List (AV × AW)), Sim P ρ σ w → merge P σ l = some l' → ∀ v w', RCall P ρ { σ with low := σ.next } w l v w' → RCall P ρ σ w l' v w'

theorem evCall_sound [Globs] {C : Cfg} {E : Evs} (hX : ExtOk C) (hM : MergeSound C.P) (hE : Sound C E) :
    (∀ f xs σ l, evCall C E (.func f [] []) xs σ = some l → ∀ ρ w (args : Array Value), Sim C.P ρ σ w → Glob ρ σ w → VRs ρ xs args.toList →
      CallRes C.P ρ σ w (callFunc f args) l ∧ (C.ext f xs σ = none → (callFunc f args).run C.P w = .ok (.enter f args) w ∧ ∀ n, CallsIn Fence.wide n C.P f args w (REnd C.P ρ σ w l))) := by
  intro f xs σ l h ρ w args hs hg hx
  simp only [evCall] at h
  split at h
  · rename_i v hv
    cases h
    exact ⟨hX f xs σ v hv ρ w args hs hg hx, fun hn => by rw [hn] at hv; cases hv⟩
  · split at h
    · cases h
    rename_i fn hfn
    split at h
    · cases h
    rename_i body hbody
    split at h
    · cases h
    rename_i hname
    have hname' : (fn.name == "runtime.NumGoroutine") = false := by simpa using hname
    have henter := callFunc_enter (P := C.P) (w := w) (args := args) hfn hbody hname'
    have key : ∀ n, CallsIn Fence.wide n C.P f args w (REnd C.P ρ σ w l) := by
      intro n
      split at h
      · split at h
        · rename_i l1 hl1
          have hs' : Sim C.P ρ { σ with low := σ.next } w := ⟨hs.obj, hs.inj⟩
          refine (evBody_sound hE hl1 hfn hbody hs' (fun b O hb => hg b O hb) hx n).mono fun e w' he => ?_
          cases e with
          | returned v => exact hM _ _ _ _ _ hs h _ _ he
          | panicked c => exact he
          | outgrown => exact he
        · cases h
      · exact evBody_sound hE h hfn hbody hs hg hx n
    exact ⟨.inr (.inl ⟨f, args, w, henter, key⟩), fun _ => ⟨henter, key⟩⟩

theorem evs_sound [Globs] {C : Cfg} (hX : ExtOk C) (hM : MergeSound C.P) (hD : DrawSound C) : ∀ n, Sound C (evs C n) := by
  intro n
  induction n using Nat.strongRecOn with
  | _ n ih =>
    cases n with
    | zero =>
      rw [evs_zero]
      exact ⟨fun _ _ _ _ h => (by cases h), fun _ _ _ _ h => (by cases h), fun _ _ _ _ h => (by cases h), fun _ _ _ _ h => (by cases h), fun _ _ _ _ h => by cases h⟩
    | succ m =>
      rw [evs_succ]
      have hE := ih m (by omega)
      refine ⟨fun c fr σ l h B F n ρ w a hF hs hg hf => evCode_sound hD (fun k hk => ih k (by omega)) c fr σ l h B F n ρ w a hF hs hg hf, fun f xs σ l h ρ w args hs hg hx => (evCall_sound hX hM hE f xs σ l h ρ w args hs hg hx).1, ?_, fun f xs σ l h hn ρ w args hs hg hx => (evCall_sound hX hM hE f xs σ l h ρ w args hs hg hx).2 hn, ?_⟩
      · intro y xs σ l h ρ w args loc hs hg hl hx
        have h' : evCall C (evs C m) (.yield y) xs σ = some l := h
        simp only [evCall] at h'
        split at h'
        · rename_i pend nt tm ps asg bd ho
          exact evRound_sound hE hs hg hl ho hx h'
        · cases h'
      · intro fv xs σ l h
        have h' : evCall C (evs C m) fv xs σ = some l := h
        unfold evCall at h'
        split at h'
        · exact .inl ⟨_, rfl⟩
        · exact .inr ⟨_, rfl⟩
        · cases h'

end Pe

namespace Pe
open Go
variable {P : Program} {B : Nat} {ρ ρ' : Rho} {fr : Fr} {a : Act} {w : World} {σ : AW} {o : Oper}

mutual
theorem VR_down (h : ρ.le ρ') : ∀ (x : AV) (v0 v : Value), VR ρ x v0 → VR ρ' x v → VR ρ x v
  | .int .., _, _, _, hv => by simpa [VR] using hv
  | .bool _, _, _, _, hv => by simpa [VR] using hv
  | .str _, _, _, _, hv => by simpa [VR] using hv
  | .ptr .., _, _, h0, hv => by
    simp only [VR] at h0 hv ⊢
    obtain ⟨l, hl, _⟩ := h0
    obtain ⟨l', hl', rfl⟩ := hv
    have := h _ _ hl; rw [hl'] at this; cases this
    exact ⟨_, hl, rfl⟩
  | .nilptr, _, _, _, hv => by simpa [VR] using hv
  | .sl .., _, _, h0, hv => by
    simp only [VR] at h0 hv ⊢
    obtain ⟨l, _, _, hl, _⟩ := h0
    obtain ⟨l', c, o', hl', rfl, hc⟩ := hv
    have := h _ _ hl; rw [hl'] at this; cases this
    exact ⟨_, c, o', hl, rfl, hc⟩
  | .nilsl, _, _, _, hv => by simpa [VR] using hv
  | .map _, _, _, h0, hv => by
    simp only [VR] at h0 hv ⊢
    obtain ⟨l, hl, _⟩ := h0
    obtain ⟨l', hl', rfl⟩ := hv
    have := h _ _ hl; rw [hl'] at this; cases this
    exact ⟨_, hl, rfl⟩
  | .nilmap, _, _, _, hv => by simpa [VR] using hv
  | .func f xs c, _, _, h0, hv => by
    simp only [VR] at h0 hv ⊢
    obtain ⟨a0, c0, _, h1, h2⟩ := h0
    obtain ⟨a', c', rfl, h3, h4⟩ := hv
    exact ⟨a', c', rfl, VRs_down h xs _ _ h1 h3, VRs_down h c _ _ h2 h4⟩
  | .yield _, _, _, h0, hv => by
    simp only [VR] at h0 hv ⊢
    obtain ⟨l, hl, _⟩ := h0
    obtain ⟨l', hl', rfl⟩ := hv
    have := h _ _ hl; rw [hl'] at this; cases this
    exact ⟨_, hl, rfl⟩
  | .nilfunc, _, _, _, hv => by simpa [VR] using hv
  | .iface t x, _, _, h0, hv => by
    simp only [VR] at h0 hv ⊢
    obtain ⟨y0, _, h1⟩ := h0
    obtain ⟨y, rfl, h2⟩ := hv
    exact ⟨y, rfl, VR_down h x _ _ h1 h2⟩
  | .niliface, _, _, _, hv => by simpa [VR] using hv
  | .agg cs, _, _, h0, hv => by
    simp only [VR] at h0 hv ⊢
    obtain ⟨y0, _, h1⟩ := h0
    obtain ⟨y, rfl, h2⟩ := hv
    exact ⟨y, rfl, VRs_down h cs _ _ h1 h2⟩
  | .tup cs, _, _, h0, hv => by
    simp only [VR] at h0 hv ⊢
    obtain ⟨y0, _, h1⟩ := h0
    obtain ⟨y, rfl, h2⟩ := hv
    exact ⟨y, rfl, VRs_down h cs _ _ h1 h2⟩
  | .top, _, _, _, _ => by simp [VR]
theorem VRs_down (h : ρ.le ρ') : ∀ (xs : List AV) (vs0 vs : List Value), VRs ρ xs vs0 → VRs ρ' xs vs → VRs ρ xs vs
  | [], _, _, _, hv => by simpa [VRs] using hv
  | x :: xs, _, _, h0, hv => by
    obtain ⟨y0, ys0, rfl, h1, h2⟩ := VRs_cons.1 h0
    obtain ⟨y, ys, rfl, h3, h4⟩ := VRs_cons.1 hv
    exact VRs_cons.2 ⟨y, ys, rfl, VR_down h x _ _ h1 h3, VRs_down h xs _ _ h2 h4⟩
end

theorem ERs_down (h : ρ.le ρ') : ∀ {es : List (AV × AV)} {L0 L : List MapEntry}, ERs ρ es L0 → ERs ρ' es L → ERs ρ es L
  | [], _, _, _, k => k
  | _ :: _, _, _, ⟨_, _, _, h1, h2, h3⟩, ⟨e, l', hl, k1, k2, k3⟩ => ⟨e, l', hl, VR_down h _ _ _ h1 k1, VR_down h _ _ _ h2 k2, ERs_down h h3 k3⟩

theorem SeenRel_down (h : ρ.le ρ') {ES0 ES : Array MapEntry} : ∀ {ks : List AV} {l0 l : List Nat}, SeenRel ρ ES0 ks l0 → SeenRel ρ' ES ks l → SeenRel ρ ES ks l
  | [], _, _, _, k => k
  | _ :: _, _, _, ⟨_, _, _, ⟨_, _, _, h1⟩, h3⟩, ⟨b, l', hl, ⟨e, he, k1, k2⟩, k3⟩ => ⟨b, l', hl, ⟨e, he, k1, VR_down h _ _ _ h1 k2⟩, SeenRel_down h h3 k3⟩

/-- An object that was there before, and has not been turned. -/
theorem OR_down {σ' : AW} {l : Loc} {w' : World} (h : ρ.le ρ') (hget : ∀ m lm, ρ m = some lm → σ'.heap.get m = σ.heap.get m) : ∀ (o : AO), OR P ρ σ l w o → OR P ρ' σ' l w' o → OR P ρ σ l w' o
  | .cells .., h0, hv => by
    refine ⟨hv.size, hv.le, fun i hi => ?_, hv.top⟩
    obtain ⟨x0, v0, a1, _, _, a4⟩ := h0.cell i hi
    obtain ⟨x, v, b1, b2, b3, b4⟩ := hv.cell i hi
    rw [a1] at b1; cases b1
    exact ⟨x0, v, a1, b2, b3, VR_down h _ _ _ a4 b4⟩
  | .dead, _, _ => trivial
  | .map es _, h0, hv => by
    obtain ⟨_, _, _, _, ⟨L0, _, h1⟩, _⟩ := h0
    obtain ⟨ES, c, k1, k2, ⟨L, k3, k4⟩, k5⟩ := hv
    exact ⟨ES, c, k1, k2, ⟨L, k3, ERs_down h h1 k4⟩, k5⟩
  | .siter .., _, hv => hv
  | .miter none _, _, hv => hv
  | .miter (some (m, ver)) ks, h0, hv => by
    obtain ⟨hb, lm0, _, _, _, es0, v0, a1, _, a3, a4, a5⟩ := h0
    obtain ⟨_, lm, since, seen, st, es, v, b1, b2, b3, b4, b5⟩ := hv
    have := h _ _ a1; rw [b1] at this; cases this
    rw [hget m _ a1, a3] at b3; cases b3
    refine ⟨hb, lm0, since, seen, st, es0, v0, a1, b2, a3, a4, fun hver => ?_⟩
    obtain ⟨_, _, _, s0⟩ := a5 hver
    obtain ⟨ES, c1, c2, c3⟩ := b5 hver
    exact ⟨ES, c1, c2, SeenRel_down h s0 c3⟩
  | .loop .., h0, hv => by
    obtain ⟨_, _, _, _, _, _, _, _, h8⟩ := h0
    obtain ⟨L, k1, k2, k3, k4, k5, k6, k7, k8⟩ := hv
    exact ⟨L, k1, k2, k3, k4, k5, k6, k7, fun t => VR_down h _ _ _ (h8 t) (k8 t)⟩

mutual
theorem same_eq : ∀ (x y : AV), AV.same x y = true → x = y
  | .int k a, y, h => by
    cases y <;> simp only [AV.same, Bool.and_eq_true, beq_iff_eq, decide_eq_true_eq, Bool.false_eq_true] at h
    rw [h.1, h.2]
  | .bool a, y, h => by
    cases y <;> simp only [AV.same, beq_iff_eq, Bool.false_eq_true] at h
    rw [h]
  | .str a, y, h => by
    cases y <;> simp only [AV.same, Bool.false_eq_true] at h
    rw [beqBytes_eq] at h; rw [eq_of_beq h]
  | .ptr i a, y, h => by
    cases y <;> simp only [AV.same, Bool.and_eq_true, Bool.false_eq_true] at h
    rw [Nat.eq_of_beq_eq_true h.1, Nat.eq_of_beq_eq_true h.2]
  | .sl i a n c, y, h => by
    cases y <;> simp only [AV.same, Bool.and_eq_true, Bool.false_eq_true] at h
    rename_i j b m d
    have hc : c = d := by
      cases c <;> cases d <;> simp only [Cap.beq, Bool.false_eq_true, and_false] at h
      · rw [Nat.eq_of_beq_eq_true h.2]
      · rw [Nat.eq_of_beq_eq_true h.2]
    rw [Nat.eq_of_beq_eq_true h.1.1.1, Nat.eq_of_beq_eq_true h.1.1.2, Nat.eq_of_beq_eq_true h.1.2, hc]
  | .map i, y, h => by
    cases y <;> simp only [AV.same, Bool.false_eq_true] at h
    rw [Nat.eq_of_beq_eq_true h]
  | .nilptr, y, h => by cases y <;> simp only [AV.same, Bool.false_eq_true] at h; rfl
  | .nilsl, y, h => by cases y <;> simp only [AV.same, Bool.false_eq_true] at h; rfl
  | .nilmap, y, h => by cases y <;> simp only [AV.same, Bool.false_eq_true] at h; rfl
  | .nilfunc, y, h => by cases y <;> simp only [AV.same, Bool.false_eq_true] at h; rfl
  | .niliface, y, h => by cases y <;> simp only [AV.same, Bool.false_eq_true] at h; rfl
  | .tup a, y, h => by
    cases y <;> simp only [AV.same, Bool.false_eq_true] at h
    rw [sames_eq _ _ h]
  | .func f a c, y, h => by
    cases y <;> simp only [AV.same, Bool.and_eq_true, Bool.false_eq_true] at h
    rw [Nat.eq_of_beq_eq_true h.1, sames_eq _ _ h.2.1, sames_eq _ _ h.2.2]
  | .iface t v, y, h => by
    cases y <;> simp only [AV.same, Bool.and_eq_true, Bool.false_eq_true] at h
    rw [Nat.eq_of_beq_eq_true h.1, same_eq _ _ h.2]
  | .agg a, y, h => by
    cases y <;> simp only [AV.same, Bool.false_eq_true] at h
    rw [sames_eq _ _ h]
  | .yield _, y, h => by cases y <;> simp [AV.same] at h
  | .top, y, h => by cases y <;> simp [AV.same] at h
theorem sames_eq : ∀ (x y : List AV), AV.sames x y = true → x = y
  | [], y, h => by cases y <;> simp only [AV.sames, Bool.false_eq_true] at h; rfl
  | a :: x, y, h => by
    cases y <;> simp only [AV.sames, Bool.and_eq_true, Bool.false_eq_true] at h
    rw [same_eq _ _ h.1, sames_eq _ _ h.2]
end


/-- A value that names only what was there. -/
theorem older_down (hp : ∀ id l, ρ' id = some l → id < σ.next → ρ id = some l) : ∀ {x : AV} {v : Value}, AV.older σ.next x = true → VR ρ' x v → VR ρ x v := by
  intro x v ho hv
  cases x <;> simp only [AV.older, decide_eq_true_eq, Bool.false_eq_true] at ho <;> simp only [VR] at hv ⊢
  · exact hv
  · exact hv
  · exact hv
  · obtain ⟨l, hl, rfl⟩ := hv; exact ⟨l, hp _ _ hl ho, rfl⟩
  · exact hv
  · obtain ⟨l, c, o', hl, rfl, hc⟩ := hv; exact ⟨l, c, o', hp _ _ hl ho, rfl, hc⟩
  · exact hv
  · obtain ⟨l, hl, rfl⟩ := hv; exact ⟨l, hp _ _ hl ho, rfl⟩
  · exact hv
  · exact hv
  · exact hv

/-- A block that no object lies in is taken by a new one. -/
theorem Sim.adopt (hs : Sim P ρ σ w) {o : AO} {l : Loc} (hb : l.b < w.heap.size) (hn : ¬ Owned ρ σ l.b) (ho : OR P (ρ.upd σ.next l) (σ.new o) l w o) : Sim P (ρ.upd σ.next l) (σ.new o) w := by
  have hup : ∀ id l', (ρ.upd σ.next l) id = some l' → id ≠ σ.next → ρ id = some l' := by
    intro id l' he hne; simp only [Rho.upd] at he; rwa [if_neg hne] at he
  refine hs.change (fun id => id = σ.next) (hs.le_upd l) (by simp [AW.new]) (Nat.le_refl _) ?_ ?_ ?_ ?_ ?_
  · intro id l' he h0
    by_cases hne : id = σ.next
    · exact hne
    · rw [hup id l' he hne] at h0; cases h0
  · intro id l' he ht
    have ht' : id = σ.next := ht
    subst ht'
    simp only [Rho.upd, if_true] at he; cases he
    exact ⟨by simp [AW.new], o, by rw [get_new, if_pos rfl], fun _ => hb, ho⟩
  · intro id l' he ht
    exact ⟨by rw [get_new, if_neg ht], fun _ _ _ => rfl⟩
  · intro id l' es v he ht _
    have ht' : id = σ.next := ht
    subst ht'
    rw [hs.fresh (Nat.le_refl _)] at he; cases he
  · intro id id' l1 l2 o1 o2 ht he he' h1 h2 hv hv' hbb
    have ht' : id = σ.next := ht
    subst ht'
    by_cases hne : id' = σ.next
    · exact hne.symm
    · simp only [Rho.upd, if_true] at he; cases he
      have e2 := hup id' l2 he' hne
      rw [get_new, if_neg hne] at h2
      exact (hn ⟨id', l2, o2, e2, h2, hv', hbb.symm⟩).elim

theorem frozen_eq : ∀ {x y : Frozen}, Frozen.same x y = true → x = y
  | .val a, .val b, h => by rw [same_eq a b h]
  | .slice n a e, .slice m b e', h => by
    simp only [Frozen.same, Bool.and_eq_true] at h
    rw [Nat.eq_of_beq_eq_true h.1.1, sames_eq a b h.1.2, Nat.eq_of_beq_eq_true h.2]
  | .val _, .slice .., h => by simp [Frozen.same] at h
  | .slice .., .val _, h => by simp [Frozen.same] at h

/-- What one frozen result says. -/
theorem freeze_ok (hs : Sim P ρ σ w) {r : AV × AW} {v : Value} {w' : World} (hv : VR ρ' r.1 v) (hs' : Sim P ρ' r.2 w') (hp : Post ρ { σ with low := σ.next } w ρ' r.2 w') {z : Frozen} (hz : freeze1 P σ.next r = some z) :
    (∀ u, z = .val u → ∃ ρ'', VR ρ'' u v ∧ Sim P ρ'' σ w' ∧ Post ρ σ w ρ'' σ w') ∧
    ∀ len cs e, z = .slice len cs e → ∃ ρ'', VR ρ'' (.sl σ.next 0 len (.up (P.cellsOf e))) v ∧ Sim P ρ'' (σ.new (.cells (len * P.cellsOf e) cs .nil e 0 false)) w' ∧ Post ρ σ w ρ'' (σ.new (.cells (len * P.cellsOf e) cs .nil e 0 false)) w' := by
  obtain ⟨x, σ'⟩ := r
  simp only at hv hs' hp
  simp only [freeze1] at hz
  split at hz
  · cases hz
  rename_i hlow
  have hlow' : σ.next ≤ σ'.low := by omega
  have hget : ∀ m, m < σ.next → σ'.heap.get m = σ.heap.get m := fun m hm => hp.low.2 m hm (by omega)
  have hback : ∀ id l, ρ' id = some l → id < σ.next → ρ id = some l := by
    intro id l hl hid
    cases h0 : ρ id with
    | none => have := hp.new id l hl h0; simp only at this; omega
    | some l0 => have := hp.le _ _ h0; rw [hl] at this; rw [this]
  have hsr : Sim P ρ σ w' := by
    refine ⟨fun id l hl => ?_, fun id id' l l' o o' hl hl' ho ho' hv1 hv2 hb => ?_⟩
    · obtain ⟨h1, o, h2, h3, h4⟩ := hs.obj id l hl
      obtain ⟨_, o', k2, k3, k4⟩ := hs'.obj id l (hp.le _ _ hl)
      rw [hget id h1, h2] at k2; cases k2
      exact ⟨h1, o, h2, k3, OR_down hp.le (fun m lm hm => hget m (hs.obj m lm hm).1) o h4 k4⟩
    · exact hs'.inj id id' l l' o o' (hp.le _ _ hl) (hp.le _ _ hl') (by rw [hget id (hs.obj id l hl).1]; exact ho) (by rw [hget id' (hs.obj id' l' hl').1]; exact ho') hv1 hv2 hb
  have hpost : Post ρ σ w ρ σ w' := ⟨Rho.le.refl ρ, fun _ _ h h' => (by rw [h'] at h; cases h), Nat.le_refl _, fun _ _ _ => rfl, ⟨Nat.le_refl _, fun _ _ _ => rfl⟩, hp.size, hp.frame, fun _ _ h => h, hp.io⟩
  have flat : AV.older σ.next x = true → z = .val x → ((∀ u, z = .val u → ∃ ρ'', VR ρ'' u v ∧ Sim P ρ'' σ w' ∧ Post ρ σ w ρ'' σ w') ∧
      ∀ len cs e, z = .slice len cs e → ∃ ρ'', VR ρ'' (.sl σ.next 0 len (.up (P.cellsOf e))) v ∧ Sim P ρ'' (σ.new (.cells (len * P.cellsOf e) cs .nil e 0 false)) w' ∧ Post ρ σ w ρ'' (σ.new (.cells (len * P.cellsOf e) cs .nil e 0 false)) w') := by
    rintro ho rfl
    refine ⟨fun u hu => ?_, fun _ _ _ hu => by cases hu⟩
    cases hu
    exact ⟨ρ, older_down (σ := σ) hback ho hv, hsr, hpost⟩
  split at hz
  · rename_i id len es
    split at hz
    · rename_i hid
      cases hz
      exact flat (by simpa [AV.older] using hid) rfl
    · rename_i hid
      split at hz
      · rename_i m zz t e wh hob
        split at hz
        · rename_i hm
          obtain ⟨rfl, rfl⟩ := hm
          split at hz
          · rename_i cs hcs
            split at hz
            · rename_i hall
              cases hz
              refine ⟨fun _ hu => (by cases hu), fun len' cs' e' hu => ?_⟩
              cases hu
              simp only [VR] at hv
              obtain ⟨l, c, off', hl, rfl, hc⟩ := hv
              have hCA := obj_cells hs' hl hob
              have hbl : l.b < w'.heap.size := by
                obtain ⟨_, o2, k1, k2, _⟩ := hs'.obj id l hl
                rw [hob] at k1; cases k1; exact k2 rfl
              have hno : ¬ Owned ρ σ l.b := by
                rintro ⟨id', l', o', h1, h2, h3, h4⟩
                have hid' := (hs.obj id' l' h1).1
                have := hs'.inj id' id l' l o' _ (hp.le _ _ h1) hl (by rw [hget id' hid']; exact h2) hob h3 rfl h4
                omega
              have hclen := cellsFrom_len hcs
              have hor : OR P (ρ.upd σ.next l) (σ.new (.cells (len * P.cellsOf e) cs .nil e 0 false)) l w' (.cells (len * P.cellsOf e) cs .nil e 0 false) := by
                obtain ⟨⟨N, q1, q2, _⟩, q4, q5, q6⟩ := hCA
                refine ⟨⟨N, q1, q2, fun h => by cases h⟩, q4, fun i hi => ?_, fun h0 => q6 h0⟩
                obtain ⟨y, u, a1, a2, a3, a4⟩ := q5 i hi
                obtain ⟨y', b1, b2⟩ := cellsFrom_get hcs i hi
                rw [Nat.zero_add, a1] at b1; cases b1
                have hold := List.all_eq_true.1 hall y (List.mem_of_getElem? b2)
                exact ⟨y, u, by rw [cellAt_nil, Nat.mod_eq_of_lt (by omega)]; exact b2, a2, a3, VR.mono (hs.le_upd l) _ _ (older_down (σ := σ) hback hold a4)⟩
              refine ⟨ρ.upd σ.next l, ?_, hsr.adopt hbl hno hor, ?_⟩
              · simp only [VR]
                exact ⟨l, c, off', by simp [Rho.upd], rfl, hc⟩
              · refine ⟨hs.le_upd l, fun id' l' h1 h2 => ?_, by simp [AW.new], fun id' h1 _ => by rw [get_new, if_neg (by omega)], ⟨Nat.le_refl _, fun id' h1 _ => by rw [get_new, if_neg (by omega)]⟩, hp.size, hp.frame, ?_, hp.io⟩
                · simp only [Rho.upd] at h1
                  by_cases hne : id' = σ.next
                  · omega
                  · rw [if_neg hne, h2] at h1; cases h1
                · rintro b hb ⟨id', l', o', h1, h2, h3, rfl⟩
                  by_cases hne : id' = σ.next
                  · subst hne
                    simp only [Rho.upd, if_true] at h1; cases h1
                    exact hp.owned _ hb ⟨id, l, _, hl, hob, rfl, rfl⟩
                  · simp only [Rho.upd] at h1
                    rw [if_neg hne] at h1
                    rw [get_new, if_neg hne] at h2
                    exact ⟨id', l', o', h1, h2, h3, rfl⟩
            · cases hz
          · cases hz
        · cases hz
      · cases hz
  · split at hz
    · rename_i ho
      cases hz
      exact flat ho rfl
    · cases hz

theorem merge_sound (P : Program) : MergeSound P := by
  intro ρ σ w l l' hs hm v w' ⟨r, hr, ρ', h1, h2, h3⟩
  unfold merge at hm
  split at hm
  · cases hr
  rename_i r0 rs
  split at hm
  · cases hm
  rename_i z hz
  split at hm
  · rename_i hall
    have hzr : freeze1 P σ.next r = some z := by
      rcases List.mem_cons.1 hr with rfl | hr
      · exact hz
      · have := List.all_eq_true.1 hall r hr
        split at this
        · rename_i z' hz'
          rw [hz', frozen_eq this]
        · cases this
    obtain ⟨k1, k2⟩ := freeze_ok hs h1 h2 h3 hzr
    split at hm
    · cases hm
      obtain ⟨ρ'', g1, g2, g3⟩ := k1 _ rfl
      exact ⟨_, List.mem_singleton.2 rfl, ρ'', g1, g2, g3⟩
    · cases hm
      obtain ⟨ρ'', g1, g2, g3⟩ := k2 _ _ _ rfl
      exact ⟨_, List.mem_singleton.2 rfl, ρ'', g1, g2, g3⟩
  · cases hm

end Pe
