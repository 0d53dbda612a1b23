/- The quick evaluator is right; what a call leaves as it was. -/
import Derived.Test.YtnmfbmfefjcnfaaGreatDoorKh
import Derived.LoopNIn
set_option linter.unusedSectionVars false
/- The quicker evaluator, second part: codes, calls. -/
namespace Pe
open Go
noncomputable section

/-- The calls of a guarded list of operations: right. -/
def goOn (k : FO → List (Option ADef) → AW → R1) (r : R1) : R1 := R1.rec (motive := fun _ => R1) .fail k .exit .goto .ret r
def outOf (id : Nat) (r : R1) : R1 := R1.rec (motive := fun _ => R1) .fail .norm (fun i t ds σ => Bool.rec (motive := fun _ => R1) (.exit i t ds σ) (.norm t ds σ) (Nat.beq i id)) .goto .ret r
def noGoto (r : R1) : R1 := R1.rec (motive := fun _ => R1) .fail .norm .exit (fun _ _ _ _ => .fail) .ret r
def loopN : Nat := 1000000
def canonF (t : FO) (n : Nat) : Tr AV := Nat.rec (motive := fun _ => Tr AV) .nil (fun i ih => ih.set (GF.get (getF i) t) i) n
def loopF (f : FO → List (Option ADef) → AW → R1) (n : Nat) : FO → List (Option ADef) → AW → R1 :=
  Nat.rec (motive := fun _ => FO → List (Option ADef) → AW → R1) (fun _ _ _ => .fail) (fun _ ih t ds σ => goOn ih (f t ds σ)) n

/-- A range over a function, once it has come back. -/
def rangeEnd (l : Nat) (t : FO) (ds : List (Option ADef)) (σ : AW) : R1 :=
  match σ.heap.get l with
  | some (.loop st pend nt t' ps asg bd) =>
    match st with
    | .busy => .fail
    | _ =>
      let σ2 := normW (σ.put l (.loop .exhausted pend nt t' ps asg bd))
      match pend with
      | none => .norm t (none :: ds) σ2
      | some (.exit id) => .exit id t (none :: ds) σ2
      | some (.goto g) => .goto g t (none :: ds) σ2
      | some .ret => .ret t (none :: ds) σ2
  | _ => .fail

/-- A region that draws its order: handed in. -/
abbrev DrawF := Array Oper → K

def stC (C : Cfg) (D : DrawF) (N nt : Nat) (rnd : Bool) (c : Code) : K :=
  Code.rec (motive := fun _ => K)
    ⟨fun _ t ds σ => .norm t ds σ⟩
    (fun _ ops draw => Bool.rec (motive := fun _ => K) (stOps C nt rnd ops ops.toList) (D ops) draw)
    (fun _ _ ka kb => ⟨fun cal t ds σ => goOn (K.run kb cal) (K.run ka cal t ds σ)⟩)
    (fun x _ _ ka kb => match opF nt x with
      | some f => ⟨fun cal t ds σ => AV.onBool .fail (fun b => Bool.rec (motive := fun _ => R1) (K.run kb cal t ds σ) (K.run ka cal t ds σ) b) (GF.get f t)⟩
      | none => ⟨fun _ _ _ _ => .fail⟩)
    (fun id _ ka => ⟨fun cal t ds σ => outOf id (K.run ka cal t ds σ)⟩)
    (fun _ kb => ⟨fun cal t ds σ => loopF (K.run kb cal) N t ds σ⟩)
    (fun f params assign body _ _ => match opF nt f with
      | some f => if rnd then ⟨fun _ _ _ _ => .fail⟩ else
        ⟨fun cal t ds σ => AV.onFunc .fail (fun g a cap =>
          match C.ext g (appF (appF a [.yield σ.next]) cap) (σ.new (.loop .ready none nt (canonF t nt) params.toList assign body)) with
          | some _ => .fail
          | none => C1.rec (motive := fun _ => R1) .fail (fun _ σ' => rangeEnd σ.next t ds σ') (cal (.func g [] []) (appF (appF a [.yield σ.next]) cap) (normW (σ.new (.loop .ready none nt (canonF t nt) params.toList assign body))))) (GF.get f t)⟩
      | none => ⟨fun _ _ _ _ => .fail⟩)
    (fun id => ⟨fun _ t ds σ => .exit id t ds σ⟩)
    (fun _ kb => ⟨fun cal t ds σ => noGoto (K.run kb cal t ds σ)⟩)
    (fun _ => ⟨fun _ t ds σ => .norm t ds σ⟩)
    (fun l => ⟨fun _ t ds σ => .goto l t ds σ⟩)
    ⟨fun _ t ds σ => .ret t ds σ⟩
    (fun _ => ⟨fun _ _ _ _ => .fail⟩) c

/-- A deferred function's body. -/
def stS (C : Cfg) (D : DrawF) (nt : Nat) : Code → K
  | .seq x y => let kx := stS C D nt x; let ky := stC C D loopN nt false y; ⟨fun cal t ds σ => goOn (K.run ky cal) (K.run kx cal t ds σ)⟩
  | .region _ ops false => match ops.toList with
    | o :: rest => if isRecover o && o.guard.isNone && dstF nt o then valF (putF o.dst) ⟨fun _ => .niliface⟩ (stOps C nt false ops rest) else stOps C nt false ops (o :: rest)
    | [] => ⟨fun _ t ds σ => .norm t ds σ⟩
  | c => stC C D loopN nt false c

structure RS where
  run : FO → AW → Option (List AV)
def resF (P : Program) (nt : Nat) : List ResultVar → RS
  | [] => ⟨fun _ _ => some []⟩
  | .tmp x :: rs => if x.blt nt then
      let q := getF x
      let r := resF P nt rs
      ⟨fun t σ => Option.rec (motive := fun _ => Option (List AV)) none (fun vs => some (GF.get q t :: vs)) (RS.run r t σ)⟩
    else ⟨fun _ _ => none⟩
  | .cell x ty :: rs => if x.blt nt then
      let q := getF x
      let r := resF P nt rs
      ⟨fun t σ => match loadV P σ ty (GF.get q t), RS.run r t σ with
        | some v, some vs => some (v :: vs)
        | _, _ => none⟩
    else ⟨fun _ _ => none⟩

def argsF (l : List AV) (i : Nat) (t : FO) : FO := List.rec (motive := fun _ => Nat → FO → FO) (fun _ t => t) (fun v _ ih i t => ih (Nat.succ i) (SF.set (putF (some i)) v t)) l i t
def toFO (tr : Tr AV) (n : Nat) : FO := Nat.rec (motive := fun _ => FO) FO.top (fun i ih => SF.set (putF (some i)) (Option.rec (motive := fun _ => AV) .top (fun v => v) (tr.get i)) ih) n

/-- A deferred call's function. -/
def stDef (C : Cfg) (D : Nat → Bool → DrawF) (f : FuncId) : KC :=
  match C.P.funcs[f]? with
  | none => ⟨fun _ _ _ => .fail⟩
  | some fn => match fn.body with
    | none => ⟨fun _ _ _ => .fail⟩
    | some body => if fn.name == "runtime.NumGoroutine" || !(fn.ntmps.ble 256) then ⟨fun _ _ _ => .fail⟩ else
      let code := stS C (D fn.ntmps false) fn.ntmps body
      let res := resF C.P fn.ntmps fn.results.toList
      let nt := fn.ntmps
      ⟨fun cal xs σ => Bool.rec (motive := fun _ => C1) .fail (R1.rec (motive := fun _ => C1) .fail
        (fun t ds σ => List.rec (motive := fun _ => C1) (Option.rec (motive := fun _ => C1) .fail (fun _ => .one (.tup []) σ) (RS.run res t σ)) (fun _ _ _ => .fail) ds) (fun _ _ _ _ => .fail) (fun _ _ _ _ => .fail)
        (fun t ds σ => List.rec (motive := fun _ => C1) (Option.rec (motive := fun _ => C1) .fail (fun _ => .one (.tup []) σ) (RS.run res t σ)) (fun _ _ _ => .fail) ds) (K.run code cal (argsF xs 0 FO.top) [] σ)) (Nat.ble (lenF xs) nt)⟩

/-- All deferred calls. -/
def defersF (C : Cfg) (D : Nat → Bool → DrawF) (cal : CallF) (k : AW → C1) (ds : List (Option ADef)) : AW → C1 :=
  List.rec (motive := fun _ => AW → C1) k (fun d _ ih σ => Option.rec (motive := fun _ => C1) (ih σ) (fun d => AV.onFunc .fail (fun f a c => C1.rec (motive := fun _ => C1) .fail (fun _ σ' => ih σ') (KC.run (stDef C D f) cal (appF (appF a d.args) c) σ)) d.fv) d) ds

structure XF where
  run : List AV → AW → Option (AV × AW)
/-- A value, and the heap as it is. -/
def pv (o : Option AV) (σ : AW) : Option (AV × AW) := Option.rec (motive := fun _ => Option (AV × AW)) none (fun v => some (v, σ)) o
def cfgX (P : Program) (X : FuncId → Option XF) (multi : FuncId → Bool) : Cfg := { P, ext := fun f xs σ => match X f with | some x => x.run xs σ | none => none, multi }

/-- A function's body. -/
def stBody (C : Cfg) (D : Nat → Bool → DrawF) (f : FuncId) : KC :=
  match C.P.funcs[f]? with
  | none => ⟨fun _ _ _ => .fail⟩
  | some fn => match fn.body with
    | none => ⟨fun _ _ _ => .fail⟩
    | some body => if fn.name == "runtime.NumGoroutine" || !(fn.ntmps.ble 256) || C.multi f then ⟨fun _ _ _ => .fail⟩ else
      let code := stC C (D fn.ntmps false) loopN fn.ntmps false body
      let res := resF C.P fn.ntmps fn.results.toList
      let nt := fn.ntmps
      ⟨fun cal xs σ => Bool.rec (motive := fun _ => C1) .fail (R1.rec (motive := fun _ => C1) .fail
        (fun t ds σ => defersF C D cal (fun σ => Option.rec (motive := fun _ => C1) .fail (fun vs => .one (oneOrTup vs) σ) (RS.run res t σ)) ds σ) (fun _ _ _ _ => .fail) (fun _ _ _ _ => .fail)
        (fun t ds σ => defersF C D cal (fun σ => Option.rec (motive := fun _ => C1) .fail (fun vs => .one (oneOrTup vs) σ) (RS.run res t σ)) ds σ) (K.run code cal (argsF xs 0 FO.top) [] σ)) (Nat.ble (lenF xs) nt)⟩

/-- How deep the slow evaluator goes, where a call has many outcomes that come to one. -/
def slowN : Nat := 3000
def manyF (C : Cfg) (f : FuncId) : KC := ⟨fun _ xs σ => match (evs C slowN).call (.func f [] []) xs σ with
  | some [(v, σ')] => .one v σ'
  | _ => .fail⟩

def stFn (C : Cfg) (X : FuncId → Option XF) (D : Nat → Bool → DrawF) (f : FuncId) : KC :=
  if C.multi f then manyF C f else
  match X f with
  | none => stBody C D f
  | some x => let b := stBody C D f; ⟨fun cal xs σ => Option.rec (motive := fun _ => C1) (KC.run b cal xs σ) (fun r => Prod.rec (motive := fun _ => C1) (fun v σ1 => .one v σ1) r) (x.run xs σ)⟩

/-- A round of a range over a function. -/
def roundF (C : Cfg) (D : Nat → Bool → DrawF) (cal : CallF) (l : Nat) (xs : List AV) (σ : AW) : C1 :=
  match σ.heap.get l with
  | some (.loop .ready _ nt tm ps asg bd) =>
    if nt.ble 256 then
      match setParams nt tm ps xs with
      | some tr => match K.run (stC C (D nt true) loopN nt true asg) cal (toFO tr nt) [] σ with
        | .norm t ds σ1 => match σ1.heap.get l with
          | some (.loop .ready pend1 nt1 tm1 ps1 asg1 bd1) =>
            let back (o : Out) (σ2 : AW) : C1 := match σ2.heap.get l with
              | some (.loop _ _ nt2 tm2 ps2 asg2 bd2) => .one (roundV o) (normW (σ2.put l (roundO nt2 tm2 ps2 asg2 bd2 o)))
              | _ => .fail
            match K.run (stC C (D nt true) loopN nt true bd) cal t ds (normW (σ1.put l (.loop .busy pend1 nt1 tm1 ps1 asg1 bd1))) with
            | .norm _ _ σ2 => back .norm σ2
            | .exit id _ _ σ2 => back (.jump (.exit id)) σ2
            | .goto g _ _ σ2 => back (.jump (.goto g)) σ2
            | .ret _ _ σ2 => back (.jump .ret) σ2
            | .fail => .fail
          | _ => .fail
        | _ => .fail
      | none => .fail
    else .fail
  | _ => .fail

def callF (C : Cfg) (X : FuncId → Option XF) (D : Nat → Bool → DrawF) (n : Nat) : CallF :=
  Nat.rec (motive := fun _ => CallF) (fun _ _ _ => .fail)
    (fun _ ih fv xs σ => AV.onFunc (AV.onYield .fail (fun l => roundF C D ih l xs σ) fv) (fun f a c => List.rec (motive := fun _ => C1) (List.rec (motive := fun _ => C1) (KC.run (stFn C X D f) ih xs σ) (fun _ _ _ => .fail) c) (fun _ _ _ => .fail) a) fv) n

end
end Pe

/- The quicker evaluator is right: lists of operations, codes. -/
namespace Pe
open Go
section
variable {C : Cfg} {nt : Nat} {rnd : Bool} {t : FO} {ds : List (Option ADef)} {fr : Fr} {o : Oper} {k : K} {cal : CallF} {σ : AW} {ops : Array Oper}

theorem put_FrEq (hf : FrEq nt rnd t ds fr) (hd : dstF nt o = true) (v : AV) : FrEq nt rnd (SF.set (putF o.dst) v t) ds (fr.put o.dst v) := by
  have := hf.put hd v ds
  rw [← hf.defs] at this ⊢
  rwa [put_same] at this

theorem operF_ok (hc : CalOk C cal) (hf : FrEq nt rnd t ds fr) {r : R1} (h : K.run (operF C nt rnd ops o k) cal t ds σ = r) (hr : r ≠ .fail) :
    ∃ t' ds' fr' σ', K.run k cal t' ds' σ' = r ∧ FrEq nt rnd t' ds' fr' ∧ ∀ os frE σE, EvOps C ops os fr' σ' frE σE → EvOps C ops (o :: os) fr σ frE σE := by
  have hr' : R1.fail ≠ r := fun e => hr e.symm
  unfold operF at h
  split at h
  rotate_left
  · exact (hr' h).elim
  rename_i hd
  have hdst := dstF_ok hf hd
  have act : wantedA fr ops o = some true → K.run (actF C nt rnd o k) cal t ds σ = r → ∃ t' ds' fr' σ', K.run k cal t' ds' σ' = r ∧ FrEq nt rnd t' ds' fr' ∧ ∀ os frE σE, EvOps C ops os fr' σ' frE σE → EvOps C ops (o :: os) fr σ frE σE := by
    intro hw h
    obtain ⟨v, σ', ds', hs, h2⟩ := actF_ok hc hf h hr
    exact ⟨_, ds', _, σ', h2, hf.put hd v ds', fun os frE σE hE => EvOps.step hw hs hE⟩
  have skip : wantedA fr ops o = some false → K.run (valF (putF o.dst) ⟨fun _ => .tup []⟩ k) cal t ds σ = r → ∃ t' ds' fr' σ', K.run k cal t' ds' σ' = r ∧ FrEq nt rnd t' ds' fr' ∧ ∀ os frE σE, EvOps C ops os fr' σ' frE σE → EvOps C ops (o :: os) fr σ frE σE := by
    intro hw h
    exact ⟨_, ds, _, σ, h, put_FrEq hf hd (.tup []), fun os frE σE hE => EvOps.skip hw hE⟩
  simp only at h
  split at h
  · rename_i hg
    exact act (by simp [wantedA, hdst, hg]) h
  · rename_i j b hg
    split at h
    · rename_i hj
      exact skip (by simp [wantedA, hdst, hg, hj]) h
    · rename_i d hj
      split at h
      · rename_i hdn
        have hget := hf.val d (Nat.le_of_ble_eq_true hdn)
        rcases AV.onBool_eq h with ⟨h, _⟩ | ⟨c, h1, h⟩
        · obtain ⟨l, h1, h⟩ := onTup h hr'
          cases l with
          | nil => exact skip (by simp [wantedA, hdst, hg, hj, hget, h1]) h
          | cons x l => exact (hr' h).elim
        · cases c <;> cases b
          · exact act (by simp [wantedA, hdst, hg, hj, hget, h1]) h
          · exact skip (by simp [wantedA, hdst, hg, hj, hget, h1]) h
          · exact skip (by simp [wantedA, hdst, hg, hj, hget, h1]) h
          · exact act (by simp [wantedA, hdst, hg, hj, hget, h1]) h
      · exact (hr' h).elim

theorem stOps_ok (hc : CalOk C cal) : ∀ (os : List Oper) {t : FO} {ds : List (Option ADef)} {fr : Fr} {σ : AW} {r : R1}, FrEq nt rnd t ds fr → K.run (stOps C nt rnd ops os) cal t ds σ = r → r ≠ .fail → ∃ t' ds' fr' σ', r = .norm t' ds' σ' ∧ FrEq nt rnd t' ds' fr' ∧ EvOps C ops os fr σ fr' σ'
  | [], t, ds, fr, σ, r, hf, h, hr => ⟨t, ds, fr, σ, h.symm, hf, EvOps.nil⟩
  | o :: os, t, ds, fr, σ, r, hf, h, hr => by
    obtain ⟨t1, ds1, fr1, σ1, h1, h2, h3⟩ := operF_ok (k := stOps C nt rnd ops os) hc hf h hr
    obtain ⟨t', ds', fr', σ', h4, h5, h6⟩ := stOps_ok hc os h2 h1 hr
    exact ⟨t', ds', fr', σ', h4, h5, h3 _ _ _ h6⟩

/-- What a code's end says. -/
def Fin (Q : Out × Fr × AW → Prop) (nt : Nat) (rnd : Bool) : R1 → Prop
  | .fail => True
  | .norm t ds σ => ∃ fr, FrEq nt rnd t ds fr ∧ Q (.norm, fr, σ)
  | .exit id t ds σ => ∃ fr, FrEq nt rnd t ds fr ∧ Q (.jump (.exit id), fr, σ)
  | .goto l t ds σ => ∃ fr, FrEq nt rnd t ds fr ∧ Q (.jump (.goto l), fr, σ)
  | .ret t ds σ => ∃ fr, FrEq nt rnd t ds fr ∧ Q (.jump .ret, fr, σ)

/-- A region that draws its order is right. -/
def DrawFOk (C : Cfg) (nt : Nat) (rnd : Bool) (D : DrawF) : Prop := ∀ ops cal t ds fr σ, CalOk C cal → FrEq nt rnd t ds fr → ∀ id, Fin (EvCode C (.region id ops true) fr σ) nt rnd (K.run (D ops) cal t ds σ)

theorem canonF_eq (hf : FrEq nt rnd t ds fr) : ∀ n, n ≤ nt → canonF t n = canonT fr n
  | 0, _ => rfl
  | n + 1, h => by
    show (canonF t n).set (GF.get (getF n) t) n = (canonT fr n).set (fr.get n) n
    rw [canonF_eq hf n (by omega), hf.val n (by omega)]

theorem goOn_ok {Q Q' : Out × Fr × AW → Prop} {r : R1} {f : FO → List (Option ADef) → AW → R1} (h : Fin Q nt rnd r) (hn : ∀ t ds fr σ, FrEq nt rnd t ds fr → Q (.norm, fr, σ) → Fin Q' nt rnd (f t ds σ)) (hj : ∀ j fr σ, Q (.jump j, fr, σ) → Q' (.jump j, fr, σ)) : Fin Q' nt rnd (goOn f r) := by
  cases r with
  | fail => trivial
  | norm t ds σ => obtain ⟨fr, h1, h2⟩ := h; exact hn t ds fr σ h1 h2
  | exit id t ds σ => obtain ⟨fr, h1, h2⟩ := h; exact ⟨fr, h1, hj _ _ _ h2⟩
  | goto l t ds σ => obtain ⟨fr, h1, h2⟩ := h; exact ⟨fr, h1, hj _ _ _ h2⟩
  | ret t ds σ => obtain ⟨fr, h1, h2⟩ := h; exact ⟨fr, h1, hj _ _ _ h2⟩

theorem Fin.imp {Q Q' : Out × Fr × AW → Prop} {r : R1} (h : Fin Q nt rnd r) (hi : ∀ x, Q x → Q' x) : Fin Q' nt rnd r := by
  cases r with
  | fail => trivial
  | norm t ds σ => obtain ⟨fr, h1, h2⟩ := h; exact ⟨fr, h1, hi _ h2⟩
  | exit id t ds σ => obtain ⟨fr, h1, h2⟩ := h; exact ⟨fr, h1, hi _ h2⟩
  | goto l t ds σ => obtain ⟨fr, h1, h2⟩ := h; exact ⟨fr, h1, hi _ h2⟩
  | ret t ds σ => obtain ⟨fr, h1, h2⟩ := h; exact ⟨fr, h1, hi _ h2⟩

theorem loopF_ok {b : Code} {f : FO → List (Option ADef) → AW → R1} (hb : ∀ t ds fr σ, FrEq nt rnd t ds fr → Fin (EvCode C b fr σ) nt rnd (f t ds σ)) : ∀ (n : Nat) (t : FO) (ds : List (Option ADef)) (fr : Fr) (σ : AW), FrEq nt rnd t ds fr → Fin (EvCode C (.loop b) fr σ) nt rnd (loopF f n t ds σ)
  | 0, _, _, _, _, _ => trivial
  | n + 1, t, ds, fr, σ, hf => goOn_ok (f := loopF f n) (hb t ds fr σ hf) (fun t' ds' fr' σ' hf' hq => (loopF_ok hb n t' ds' fr' σ' hf').imp fun _ hx => EvCode.loop hq hx) (fun _ _ _ hq => EvCode.loopJ hq)

theorem stC_ok {D : DrawF} {N : Nat} (hD : DrawFOk C nt rnd D) (hc : CalOk C cal) : ∀ (c : Code) (t : FO) (ds : List (Option ADef)) (fr : Fr) (σ : AW), FrEq nt rnd t ds fr → Fin (EvCode C c fr σ) nt rnd (K.run (stC C D N nt rnd c) cal t ds σ) := by
  intro c
  induction c with
  | skip => exact fun t ds fr σ hf => ⟨fr, hf, EvCode.skip⟩
  | label l => exact fun t ds fr σ hf => ⟨fr, hf, EvCode.label⟩
  | exit id => exact fun t ds fr σ hf => ⟨fr, hf, EvCode.exit⟩
  | goto l => exact fun t ds fr σ hf => ⟨fr, hf, EvCode.goto⟩
  | ret => exact fun t ds fr σ hf => ⟨fr, hf, EvCode.ret⟩
  | refuse w => exact fun t ds fr σ hf => trivial
  | region id ops draw =>
    intro t ds fr σ hf
    cases draw with
    | true => exact hD ops cal t ds fr σ hc hf id
    | false =>
      show Fin _ nt rnd (K.run (stOps C nt rnd ops ops.toList) cal t ds σ)
      by_cases hr : K.run (stOps C nt rnd ops ops.toList) cal t ds σ = .fail
      · rw [hr]; trivial
      · obtain ⟨t', ds', fr', σ', h1, h2, h3⟩ := stOps_ok hc ops.toList hf rfl hr
        rw [h1]
        exact ⟨fr', h2, EvCode.region h3⟩
  | seq a b iha ihb =>
    intro t ds fr σ hf
    exact goOn_ok (f := K.run (stC C D N nt rnd b) cal) (iha t ds fr σ hf) (fun t' ds' fr' σ' hf' hq => (ihb t' ds' fr' σ' hf').imp fun x hx => EvCode.seq hq hx) (fun j fr' σ' hq => EvCode.seqJ hq)
  | cond x a b iha ihb =>
    intro t ds fr σ hf
    show Fin _ nt rnd (K.run (match opF nt x with
      | some f => ⟨fun cal t ds σ => AV.onBool .fail (fun q => Bool.rec (motive := fun _ => R1) (K.run (stC C D N nt rnd b) cal t ds σ) (K.run (stC C D N nt rnd a) cal t ds σ) q) (GF.get f t)⟩
      | none => ⟨fun _ _ _ _ => .fail⟩) cal t ds σ)
    cases hx : opF nt x with
    | none => trivial
    | some f =>
      simp only
      generalize hr : AV.onBool R1.fail (fun q => Bool.rec (motive := fun _ => R1) (K.run (stC C D N nt rnd b) cal t ds σ) (K.run (stC C D N nt rnd a) cal t ds σ) q) (GF.get f t) = r
      rcases AV.onBool_eq hr with ⟨h, _⟩ | ⟨q, h1, h⟩
      · rw [← h]; trivial
      · have hev := opF_ok hf hx
        rw [h1] at hev
        rw [← h]
        cases q with
        | true => exact (iha t ds fr σ hf).imp fun y hy => EvCode.cond hev hy
        | false => exact (ihb t ds fr σ hf).imp fun y hy => EvCode.cond hev hy
  | block id b ih =>
    intro t ds fr σ hf
    have := ih t ds fr σ hf
    show Fin _ nt rnd (outOf id (K.run (stC C D N nt rnd b) cal t ds σ))
    generalize K.run (stC C D N nt rnd b) cal t ds σ = r at this
    cases r with
    | fail => trivial
    | norm t' ds' σ' => obtain ⟨fr', h1, h2⟩ := this; exact ⟨fr', h1, EvCode.block h2⟩
    | goto l t' ds' σ' => obtain ⟨fr', h1, h2⟩ := this; exact ⟨fr', h1, EvCode.blockG h2⟩
    | ret t' ds' σ' => obtain ⟨fr', h1, h2⟩ := this; exact ⟨fr', h1, EvCode.blockR h2⟩
    | exit i t' ds' σ' =>
      obtain ⟨fr', h1, h2⟩ := this
      have h3 := EvCode.blockX (id := id) h2
      show Fin _ nt rnd (Bool.rec (motive := fun _ => R1) (.exit i t' ds' σ') (.norm t' ds' σ') (Nat.beq i id))
      cases hb : Nat.beq i id with
      | true =>
        rw [if_pos (Nat.eq_of_beq_eq_true hb)] at h3
        exact ⟨fr', h1, h3⟩
      | false =>
        rw [if_neg (fun e => by rw [e] at hb; have : Nat.beq id id = true := Nat.beq_refl id; rw [hb] at this; cases this)] at h3
        exact ⟨fr', h1, h3⟩
  | loop b ih => exact fun t ds fr σ hf => loopF_ok (f := K.run (stC C D N nt rnd b) cal) ih N t ds fr σ hf
  | scope b ih =>
    intro t ds fr σ hf
    have := ih t ds fr σ hf
    show Fin _ nt rnd (noGoto (K.run (stC C D N nt rnd b) cal t ds σ))
    generalize K.run (stC C D N nt rnd b) cal t ds σ = r at this
    cases r with
    | fail => trivial
    | norm t' ds' σ' => obtain ⟨fr', h1, h2⟩ := this; exact ⟨fr', h1, EvCode.scope h2 (by simp)⟩
    | goto l t' ds' σ' => trivial
    | ret t' ds' σ' => obtain ⟨fr', h1, h2⟩ := this; exact ⟨fr', h1, EvCode.scope h2 (by simp)⟩
    | exit i t' ds' σ' => obtain ⟨fr', h1, h2⟩ := this; exact ⟨fr', h1, EvCode.scope h2 (by simp)⟩
  | rangeFunc f params assign body _ _ =>
    intro t ds fr σ hf
    show Fin _ nt rnd (K.run (match opF nt f with
      | some f => if rnd then ⟨fun _ _ _ _ => .fail⟩ else
        ⟨fun cal t ds σ => AV.onFunc .fail (fun g a cap =>
          match C.ext g (appF (appF a [.yield σ.next]) cap) (σ.new (.loop .ready none nt (canonF t nt) params.toList assign body)) with
          | some _ => .fail
          | none => C1.rec (motive := fun _ => R1) .fail (fun _ σ' => rangeEnd σ.next t ds σ') (cal (.func g [] []) (appF (appF a [.yield σ.next]) cap) (normW (σ.new (.loop .ready none nt (canonF t nt) params.toList assign body))))) (GF.get f t)⟩
      | none => ⟨fun _ _ _ _ => .fail⟩) cal t ds σ)
    cases hx : opF nt f with
    | none => trivial
    | some f' =>
      simp only
      cases hrn : rnd with
      | true => trivial
      | false =>
        subst hrn
        simp only [Bool.false_eq_true, if_false]
        have hev := opF_ok hf hx
        cases hv : GF.get f' t with
        | func g a cap =>
          rw [hv] at hev
          show Fin _ nt false (match C.ext g (appF (appF a [.yield σ.next]) cap) (σ.new (.loop .ready none nt (canonF t nt) params.toList assign body)) with
            | some _ => .fail
            | none => C1.rec (motive := fun _ => R1) .fail (fun _ σ' => rangeEnd σ.next t ds σ') (cal (.func g [] []) (appF (appF a [.yield σ.next]) cap) (normW (σ.new (.loop .ready none nt (canonF t nt) params.toList assign body)))))
          rw [normW_eq, appF_eq, appF_eq, canonF_eq hf nt (Nat.le_refl _), ← hf.num]
          cases hext : C.ext g (a ++ [.yield σ.next] ++ cap) (σ.new (.loop .ready none fr.nt (canonT fr fr.nt) params.toList assign body)) with
          | some v => trivial
          | none =>
            simp only
            cases hcal : cal (.func g [] []) (a ++ [.yield σ.next] ++ cap) (σ.new (.loop .ready none fr.nt (canonT fr fr.nt) params.toList assign body)) with
            | fail => trivial
            | one v σ' =>
              simp only
              have hcall := hc _ _ _ _ _ hcal
              unfold rangeEnd
              simp only [normW_eq]
              cases hl : σ'.heap.get σ.next with
              | none => trivial
              | some ob =>
                cases ob with
                | loop st pend nt' t' ps asg bd =>
                  have hfr : FrEq nt false t (none :: ds) { fr with defers := none :: fr.defers } := ⟨hf.le, hf.num, by rw [← hf.defs], hf.rnd, hf.val⟩
                  rw [hf.num]
                  cases st with
                  | busy => trivial
                  | _ =>
                    have hE := EvCode.rangeFunc hev hf.rnd hext hcall hl (by simp)
                    cases pend with
                    | none => exact ⟨_, hfr, hE⟩
                    | some j => cases j <;> exact ⟨_, hfr, hE⟩
                | _ => trivial
        | _ => trivial
end
end Pe

/- The quicker evaluator is right: calls. -/
namespace Pe
open Go
section
variable {C : Cfg} {nt : Nat} {rnd : Bool} {t : FO} {ds : List (Option ADef)} {fr : Fr} {o : Oper} {k : K} {cal : CallF} {σ : AW} {ops : Array Oper}

/-! ### Deferred bodies -/
theorem EvS.seq {a b : Code} {fr fr' : Fr} {σ σ' : AW} {r : Out × Fr × AW} (h : EvS C a fr σ (.norm, fr', σ')) (h' : EvCode C b fr' σ' r) : EvS C (.seq a b) fr σ r :=
  Ev.imp (Ev.and h h') fun E h => by simp only [evS, h.1, collect_one, h.2]
theorem EvS.seqJ {a b : Code} {fr fr' : Fr} {σ σ' : AW} {j : Jump} (h : EvS C a fr σ (.jump j, fr', σ')) : EvS C (.seq a b) fr σ (.jump j, fr', σ') :=
  Ev.imp h fun E h => by simp only [evS, h, collect_one]
theorem EvS.recovers {id : Nat} {o : Oper} {rest : List Oper} {fr fr' : Fr} {σ σ' : AW} (hl : ops.toList = o :: rest) (hr : (isRecover o && o.guard.isNone && dstOk fr o) = true) (h : EvOps C ops rest (fr.put o.dst .niliface) σ fr' σ') : EvS C (.region id ops false) fr σ (.norm, fr', σ') :=
  Ev.imp h fun E h => by simp only [evS, hl, hr, if_true, h]
theorem EvS.plain {id : Nat} {o : Oper} {rest : List Oper} {fr fr' : Fr} {σ σ' : AW} (hl : ops.toList = o :: rest) (hr : (isRecover o && o.guard.isNone && dstOk fr o) = false) (h : EvOps C ops (o :: rest) fr σ fr' σ') : EvS C (.region id ops false) fr σ (.norm, fr', σ') :=
  Ev.imp h fun E h => by simp only [evS, hl, hr, Bool.false_eq_true, if_false, h]
theorem EvS.nothing {id : Nat} {fr : Fr} {σ : AW} (hl : ops.toList = []) : EvS C (.region id ops false) fr σ (.norm, fr, σ) :=
  Ev.pure fun E => by simp only [evS, hl]

theorem stS_ok {D : DrawF} (hD : DrawFOk C nt false D) (hc : CalOk C cal) : ∀ (c : Code) (t : FO) (ds : List (Option ADef)) (fr : Fr) (σ : AW), FrEq nt false t ds fr → Fin (EvS C c fr σ) nt false (K.run (stS C D nt c) cal t ds σ) := by
  intro c
  induction c with
  | seq a b iha ihb =>
    intro t ds fr σ hf
    exact goOn_ok (f := K.run (stC C D loopN nt false b) cal) (iha t ds fr σ hf) (fun t' ds' fr' σ' hf' hq => (stC_ok hD hc b t' ds' fr' σ' hf').imp fun x hx => EvS.seq hq hx) (fun j fr' σ' hq => EvS.seqJ hq)
  | region id ops draw =>
    intro t ds fr σ hf
    cases draw with
    | true => exact (stC_ok hD hc (.region id ops true) t ds fr σ hf).imp fun x hx => Ev.imp hx fun E h => h
    | false =>
      show Fin _ nt false (K.run (match ops.toList with
        | o :: rest => if isRecover o && o.guard.isNone && dstF nt o then valF (putF o.dst) ⟨fun _ => .niliface⟩ (stOps C nt false ops rest) else stOps C nt false ops (o :: rest)
        | [] => ⟨fun _ t ds σ => .norm t ds σ⟩) cal t ds σ)
      cases hl : ops.toList with
      | nil => exact ⟨fr, hf, EvS.nothing hl⟩
      | cons o rest =>
        simp only
        cases hcond : (isRecover o && o.guard.isNone && dstF nt o) with
        | true =>
          simp only [if_true]
          have hcond' := hcond
          simp only [Bool.and_eq_true] at hcond'
          by_cases hr : K.run (valF (putF o.dst) ⟨fun _ => .niliface⟩ (stOps C nt false ops rest)) cal t ds σ = .fail
          · rw [hr]; trivial
          · obtain ⟨t', ds', fr', σ', h1, h2, h3⟩ := stOps_ok hc rest (put_FrEq hf hcond'.2 .niliface) rfl hr
            have h1' : K.run (valF (putF o.dst) ⟨fun _ => .niliface⟩ (stOps C nt false ops rest)) cal t ds σ = .norm t' ds' σ' := h1
            rw [h1']
            exact ⟨fr', h2, EvS.recovers hl (by rw [hcond'.1.1, hcond'.1.2, dstF_ok hf hcond'.2]; rfl) h3⟩
        | false =>
          simp only [Bool.false_eq_true, if_false]
          by_cases hr : K.run (stOps C nt false ops (o :: rest)) cal t ds σ = .fail
          · rw [hr]; trivial
          · obtain ⟨t', ds', fr', σ', h1, h2, h3⟩ := stOps_ok hc (o :: rest) hf rfl hr
            rw [h1]
            have hd : dstF nt o = true := by
              cases hd : dstF nt o with
              | true => rfl
              | false =>
                refine (hr ?_).elim
                show K.run (operF C nt false ops o (stOps C nt false ops rest)) cal t ds σ = .fail
                unfold operF; rw [hd]; rfl
            rw [hd, Bool.and_true] at hcond
            exact ⟨fr', h2, EvS.plain hl (by rw [hcond]; rfl) h3⟩
  | _ => exact fun t ds fr σ hf => (stC_ok hD hc _ t ds fr σ hf).imp fun x hx => Ev.imp hx fun E h => h

/-! ### Results, arguments -/
theorem resF_ok (hf : FrEq nt rnd t ds fr) : ∀ {l : List ResultVar} {vs : List AV}, RS.run (resF C.P nt l) t σ = some vs → resVals C.P fr σ l = some vs
  | [], vs, h => h
  | .tmp x :: l, vs, h => by
    simp only [resF] at h
    split at h
    · rename_i hx
      obtain ⟨ws, h1, h2⟩ := optRec h (by simp)
      simp only [Option.some.injEq] at h2
      subst h2
      simp only [resVals, resF_ok hf h1, Option.map_some, hf.val x (Nat.le_of_ble_eq_true hx)]
    · cases h
  | .cell x ty :: l, vs, h => by
    simp only [resF] at h
    split at h
    · rename_i hx
      simp only at h
      split at h
      · rename_i v ws h1 h2
        cases h
        simp only [resVals, hf.val x (Nat.le_of_ble_eq_true hx), h1, resF_ok hf h2]
      · cases h
    · cases h

def topOf (x : Option AV) : AV := match x with | some v => v | none => .top

theorem argsF_get {n : Nat} (hn : n ≤ 256) : ∀ (xs : List AV) (i : Nat) (t : FO) (tr : Tr AV), i + xs.length ≤ n → (∀ j, j < n → GF.get (getF j) t = topOf (tr.get j)) → ∀ j, j < n → GF.get (getF j) (argsF xs i t) = topOf ((setArgs tr i xs).get j)
  | [], i, t, tr, _, h => h
  | x :: xs, i, t, tr, hi, h => by
    intro j hj
    simp only [List.length_cons] at hi
    show GF.get (getF j) (argsF xs (i + 1) (SF.set (putF (some i)) x t)) = topOf ((setArgs (tr.set x i) (i + 1) xs).get j)
    refine argsF_get hn xs (i + 1) _ _ (by omega) (fun j' hj' => ?_) j hj
    rw [get_put_F (by omega) (by omega), Tr.get_set]
    by_cases e : j' = i
    · rw [if_pos e, if_pos e]; rfl
    · rw [if_neg e, if_neg e]; exact h j' hj'

theorem frame0_FrEq {fn : Func} {xs : List AV} (hn : fn.ntmps ≤ 256) (hx : xs.length ≤ fn.ntmps) : FrEq fn.ntmps false (argsF xs 0 FO.top) [] (frame0 fn xs) := by
  refine ⟨hn, ?_, rfl, rfl, fun i hi => ?_⟩
  · unfold frame0
    simp only
    split <;> omega
  · rw [argsF_get hn xs 0 FO.top .nil (by omega) (fun j hj => by rw [get_top_F (by omega), Tr.get_nil]; rfl) i hi]
    rfl

theorem toFO_get {nt : Nat} (hn : nt ≤ 256) (tr : Tr AV) : ∀ (n : Nat), n ≤ nt → ∀ j, j < n → GF.get (getF j) (toFO tr n) = topOf (tr.get j)
  | 0, _, j, hj => by omega
  | n + 1, h, j, hj => by
    show GF.get (getF j) (SF.set (putF (some n)) (Option.rec (motive := fun _ => AV) .top (fun v => v) (tr.get n)) (toFO tr n)) = _
    rw [get_put_F (by omega) (by omega)]
    by_cases e : j = n
    · rw [if_pos e, e]; cases tr.get n <;> rfl
    · rw [if_neg e]; exact toFO_get hn tr n (by omega) j (by omega)

theorem round_FrEq {nt : Nat} (hn : nt ≤ 256) (tr : Tr AV) : FrEq nt true (toFO tr nt) [] { nt, tmps := tr, defers := [], rnd := true } :=
  ⟨hn, rfl, rfl, rfl, fun i hi => by rw [toFO_get hn tr nt (Nat.le_refl _) i hi]; rfl⟩

/-! ### Calls -/
theorem r1Two {α : Type} {d : α} {f g : FO → List (Option ADef) → AW → α} {r : R1} {x : α} (h : R1.rec (motive := fun _ => α) d f (fun _ _ _ _ => d) (fun _ _ _ _ => d) g r = x) (hd : d ≠ x) : ∃ t ds σ, (r = .norm t ds σ ∧ f t ds σ = x) ∨ (r = .ret t ds σ ∧ g t ds σ = x) := by
  cases r with
  | norm t ds σ => exact ⟨t, ds, σ, .inl ⟨rfl, h⟩⟩
  | ret t ds σ => exact ⟨t, ds, σ, .inr ⟨rfl, h⟩⟩
  | _ => exact (hd h).elim

theorem stDef_ok {D : Nat → Bool → DrawF} (hD : ∀ nt rnd, DrawFOk C nt rnd (D nt rnd)) (hc : CalOk C cal) {f : FuncId} {a xs cap : List AV} {rest : List (Option ADef)} {v : AV} {σ1 σ' : AW} (h : KC.run (stDef C D f) cal (a ++ xs ++ cap) σ = .one v σ1) (hr : EvDefers C rest σ1 σ') : EvDefers C (some ⟨.func f a cap, xs⟩ :: rest) σ σ' := by
  unfold stDef at h
  split at h
  · cases h
  · rename_i fn hfn
    split at h
    · cases h
    · rename_i body hb
      split at h
      · cases h
      · rename_i hname
        simp only [Bool.or_eq_true, Bool.not_eq_true', not_or, Bool.not_eq_true, Bool.not_eq_false] at hname
        obtain ⟨h1, h⟩ := boolRec h (by simp)
        rw [lenF_eq] at h1
        have hf := frame0_FrEq (fn := fn) (xs := a ++ xs ++ cap) (Nat.le_of_ble_eq_true hname.2) (Nat.le_of_ble_eq_true h1)
        have hS := stS_ok (hD _ _) hc body _ _ _ σ hf
        obtain ⟨t1, ds1, σ2, hh⟩ := r1Two h (by simp)
        rcases hh with ⟨e, h2⟩ | ⟨e, h2⟩ <;>
        · rw [e] at hS
          obtain ⟨fr', g1, g2⟩ := hS
          cases ds1 with
          | cons x l => cases h2
          | nil =>
            obtain ⟨vs, g3, g4⟩ := optRec h2 (by simp)
            cases g4
            exact EvDefers.call hfn hb hname.1 g2 (by simp) g1.defs (resF_ok g1 g3) hr

theorem defersF_ok {D : Nat → Bool → DrawF} (hD : ∀ nt rnd, DrawFOk C nt rnd (D nt rnd)) (hc : CalOk C cal) {kk : AW → C1} {v : AV} {σ' : AW} : ∀ (ds : List (Option ADef)) (σ : AW), defersF C D cal kk ds σ = .one v σ' → ∃ σ1, EvDefers C ds σ σ1 ∧ kk σ1 = .one v σ'
  | [], σ, h => ⟨σ, EvDefers.nil, h⟩
  | none :: ds, σ, h => by
    obtain ⟨σ1, h1, h2⟩ := defersF_ok hD hc ds σ h
    exact ⟨σ1, h1.mark, h2⟩
  | some d :: ds, σ, h => by
    have h' : AV.onFunc .fail (fun f a c => C1.rec (motive := fun _ => C1) .fail (fun _ σ' => defersF C D cal kk ds σ') (KC.run (stDef C D f) cal (appF (appF a d.args) c) σ)) d.fv = .one v σ' := h
    rcases AV.onFunc_eq h' with ⟨h1, _⟩ | ⟨f, a, c, h1, h2⟩
    · cases h1
    · obtain ⟨v1, σ2, h3, h4⟩ := c1Rec h2 (by simp)
      rw [appF_eq, appF_eq] at h3
      obtain ⟨σ1, h5, h6⟩ := defersF_ok hD hc ds σ2 h4
      obtain ⟨fv, args⟩ := d
      simp only at h1 h3
      subst h1
      exact ⟨σ1, stDef_ok hD hc h3 h5, h6⟩

theorem stBody_ok {D : Nat → Bool → DrawF} (hD : ∀ nt rnd, DrawFOk C nt rnd (D nt rnd)) (hc : CalOk C cal) {f : FuncId} {xs : List AV} {v : AV} {σ' : AW} (hx : C.ext f xs σ = none) (h : KC.run (stBody C D f) cal xs σ = .one v σ') : EvCall C (.func f [] []) xs σ v σ' := by
  unfold stBody at h
  split at h
  · cases h
  · rename_i fn hfn
    split at h
    · cases h
    · rename_i body hb
      split at h
      · cases h
      · rename_i hname
        simp only [Bool.or_eq_true, Bool.not_eq_true', not_or, Bool.not_eq_true, Bool.not_eq_false] at hname
        obtain ⟨h1, h⟩ := boolRec h (by simp)
        rw [lenF_eq] at h1
        have hf := frame0_FrEq (fn := fn) (xs := xs) (Nat.le_of_ble_eq_true hname.1.2) (Nat.le_of_ble_eq_true h1)
        have hS := stC_ok (N := loopN) (hD _ _) hc body _ _ _ σ hf
        obtain ⟨t1, ds1, σ2, hh⟩ := r1Two h (by simp)
        rcases hh with ⟨e, h2⟩ | ⟨e, h2⟩ <;>
        · rw [e] at hS
          obtain ⟨fr', g1, g2⟩ := hS
          obtain ⟨σ3, g3, g4⟩ := defersF_ok hD hc ds1 σ2 h2
          obtain ⟨vs, g5, g6⟩ := optRec g4 (by simp)
          cases g6
          rw [← g1.defs] at g3
          exact EvCall.func hx hfn hb hname.1.1 hname.2 g2 (by simp) g3 (resF_ok g1 g5)

theorem roundF_ok {D : Nat → Bool → DrawF} (hD : ∀ nt rnd, DrawFOk C nt rnd (D nt rnd)) (hc : CalOk C cal) {l : Nat} {xs : List AV} {v : AV} {σ' : AW} (h : roundF C D cal l xs σ = .one v σ') : EvCall C (.yield l) xs σ v σ' := by
  unfold roundF at h
  simp only [normW_eq] at h
  split at h
  · rename_i pend nt tm ps asg bd h0
    split at h
    · rename_i hn
      have hn' : nt ≤ 256 := Nat.le_of_ble_eq_true hn
      split at h
      · rename_i tr hp
        have hA := stC_ok (N := loopN) (hD nt true) hc asg _ _ _ σ (round_FrEq hn' tr)
        split at h
        · rename_i t1 ds1 σ1 e1
          rw [e1] at hA
          obtain ⟨fr1, g1, g2⟩ := hA
          split at h
          · rename_i pend1 nt1 tm1 ps1 asg1 bd1 h1
            have hB := stC_ok (N := loopN) (hD nt true) hc bd t1 ds1 fr1 (σ1.put l (.loop .busy pend1 nt1 tm1 ps1 asg1 bd1)) g1
            have back : ∀ (o : Out) (fr2 : Fr) (σ2 : AW), EvCode C bd fr1 (σ1.put l (.loop .busy pend1 nt1 tm1 ps1 asg1 bd1)) (o, fr2, σ2) →
                (match σ2.heap.get l with
                  | some (.loop _ _ nt2 tm2 ps2 asg2 bd2) => C1.one (roundV o) (σ2.put l (roundO nt2 tm2 ps2 asg2 bd2 o))
                  | _ => .fail) = .one v σ' → EvCall C (.yield l) xs σ v σ' := by
              intro o fr2 σ2 hE hb
              split at hb
              · rename_i st2 pend2 nt2 tm2 ps2 asg2 bd2 h2
                cases hb
                exact EvCall.yield h0 hp g2 h1 hE h2
              · cases hb
            (try simp only at h)
            split at h <;> rename_i e2 <;> (try (cases h; done)) <;>
            · rw [e2] at hB
              obtain ⟨fr2, _, g4⟩ := hB
              exact back _ fr2 _ g4 h
          · cases h
        · cases h
      · cases h
    · cases h
  · cases h

theorem callF_ok {P : Program} {X : FuncId → Option XF} {multi : FuncId → Bool} {D : Nat → Bool → DrawF} (hD : ∀ nt rnd, DrawFOk (cfgX P X multi) nt rnd (D nt rnd)) : ∀ n, CalOk (cfgX P X multi) (callF (cfgX P X multi) X D n)
  | 0, _, _, _, _, _, h => by cases h
  | n + 1, fv, xs, σ, v, σ', h => by
    have hc := callF_ok hD n
    have h' : AV.onFunc (AV.onYield .fail (fun l => roundF (cfgX P X multi) D (callF (cfgX P X multi) X D n) l xs σ) fv) (fun f a c => List.rec (motive := fun _ => C1) (List.rec (motive := fun _ => C1) (KC.run (stFn (cfgX P X multi) X D f) (callF (cfgX P X multi) X D n) xs σ) (fun _ _ _ => .fail) c) (fun _ _ _ => .fail) a) fv = .one v σ' := h
    rcases AV.onFunc_eq h' with ⟨h1, _⟩ | ⟨f, a, c, h1, h2⟩
    · obtain ⟨l, h3, h4⟩ := onYield h1 (by simp)
      subst h3
      exact roundF_ok hD hc h4
    · subst h1
      cases a with
      | cons x a => cases h2
      | nil =>
        cases c with
        | cons x c => cases h2
        | nil =>
          have h3 : KC.run (stFn (cfgX P X multi) X D f) (callF (cfgX P X multi) X D n) xs σ = .one v σ' := h2
          unfold stFn at h3
          split at h3
          · have h4 : (match (evs (cfgX P X multi) slowN).call (.func f [] []) xs σ with
              | some [(v, σ')] => C1.one v σ'
              | _ => .fail) = .one v σ' := h3
            split at h4
            · rename_i v1 σ1 hv
              cases h4
              exact EvCall.of hv
            · cases h4
          split at h3
          · rename_i hX
            exact stBody_ok hD hc (by simp [cfgX, hX]) h3
          · rename_i x hX
            cases hx : x.run xs σ with
            | none =>
              simp only [hx] at h3
              exact stBody_ok hD hc (by simp [cfgX, hX, hx]) h3
            | some v' =>
              simp only [hx] at h3
              cases h3
              exact EvCall.ext (by simp [cfgX, hX, hx])
end
end Pe

/- The quicker evaluator: regions that draw their order. -/
namespace Pe
open Go
noncomputable section

structure KD where
  run : CallF → Nat → TrD → FO → List (Option ADef) → AW → R1

def exitD (C : Cfg) (b : Array Nat) (i : Nat) (o : Oper) (p : SF) (k : KD) (cal : CallF) (base : Nat) (tr : TrD) (t : FO) (ds : List (Option ADef)) (σ : AW) (sm : Fr) (act : Option Act1) : R1 :=
  match act with
  | some (.val v) => KD.run k cal base tr (SF.set p v t) ds σ
  | some (.rd r) => match rdVal C.P σ r with
    | some v => if rdOk C.P b i (opsOld base sm o) r v tr.effs then KD.run k cal base { tr with reads := (i, r, v) :: tr.reads } (SF.set p v t) ds σ else .fail
    | none => .fail
  | some (.mk obj sl mp) => KD.run k cal base tr (SF.set p (mkVal sl mp σ.next) t) ds (normW (σ.new obj))
  | some (.eff e) => match fills o with
    | some _ => match e with
      | .mapPut m kk v => match σ.heap.get m with
        | some (.map es ver) => match findK kk es with
          | some none => if litOk m kk tr.lits then KD.run k cal base { tr with lits := (m, kk) :: tr.lits } (SF.set p (.tup []) t) ds (normW (σ.put m (.map (es ++ [(kk, v)]) (ver + 1)))) else .fail
          | _ => .fail
        | _ => .fail
      | _ => .fail
    | none => match effRun C.P σ e with
      | some (v, σ') => if effOk C.P b i σ tr && σ.next.ble σ'.next then KD.run k cal base { tr with effs := (i, σ) :: tr.effs } (SF.set p v t) ds (normW σ') else .fail
      | none => .fail
  | some (.call fv xs) => if effOk C.P b i σ tr then match cal fv xs σ with
      | .one v σ' => if σ.next.ble σ'.next then KD.run k cal base { tr with effs := (i, σ) :: tr.effs } (SF.set p v t) ds σ' else .fail
      | .fail => .fail
    else .fail
  | _ => .fail

def valD (p : SF) (f : GF) (k : KD) : KD := ⟨fun cal base tr t ds σ => KD.run k cal base tr (SF.set p (GF.get f t) t) ds σ⟩

def actD (C : Cfg) (nt : Nat) (b : Array Nat) (i : Nat) (o : Oper) (k : KD) : KD :=
  let p := putF o.dst
  let c := clsF C.P o
  let s := someF (tmpsOf o)
  let sl : KD := if (tmpsOf o).all fun t => t.blt nt then ⟨fun cal base tr t ds σ => exitD C b i o p k cal base tr t ds σ (Fr.mk 0 (TF.run s t) [] false) (CF.run c (Fr.mk 0 (TF.run s t) [] false))⟩ else ⟨fun _ _ _ _ _ _ => .fail⟩
  match o.op with
  | .move x | .assign x => match opF nt x with
    | some f => valD p f k
    | none => sl
  | _ => sl

def operD (C : Cfg) (nt : Nat) (ops : Array Oper) (b : Array Nat) (i : Nat) (o : Oper) (k : KD) : KD :=
  if dstF nt o then
    let act := actD C nt b i o k
    let skip := valD (putF o.dst) ⟨fun _ => .tup []⟩ k
    match o.guard with
    | none => act
    | some (j, want) => match (ops[j]?).bind (·.dst) with
      | none => skip
      | some d => if d.blt nt then
          let q := getF d
          ⟨fun cal base tr t ds σ => AV.onBool (AV.onTup .fail (fun l => List.rec (motive := fun _ => R1) (KD.run skip cal base tr t ds σ) (fun _ _ _ => .fail) l) (GF.get q t)) (fun c => Bool.rec (motive := fun _ => R1) (Bool.rec (motive := fun _ => R1) (KD.run act cal base tr t ds σ) (KD.run skip cal base tr t ds σ) want) (Bool.rec (motive := fun _ => R1) (KD.run skip cal base tr t ds σ) (KD.run act cal base tr t ds σ) want) c) (GF.get q t)⟩
        else ⟨fun _ _ _ _ _ _ => .fail⟩
  else ⟨fun _ _ _ _ _ _ => .fail⟩

def stDraw (C : Cfg) (nt : Nat) (ops : Array Oper) (b : Array Nat) : List Oper → Nat → KD
  | [], _ => ⟨fun _ _ tr t ds σ => if lateOk C.P b σ tr then .norm t ds σ else .fail⟩
  | o :: os, i => operD C nt ops b i o (stDraw C nt ops b os (i + 1))

/-- A region that draws its order. -/
def drawF (C : Cfg) (nt : Nat) (_ : Bool) : DrawF := fun ops =>
  if drawOk ops then
    let k := stDraw C nt ops (Region.before ops) ops.toList 0
    ⟨fun cal t ds σ => KD.run k cal σ.next ⟨[], [], []⟩ t ds σ⟩
  else ⟨fun _ _ _ _ => .fail⟩
end

section
variable {C : Cfg} {nt : Nat} {rnd : Bool} {t : FO} {ds : List (Option ADef)} {fr : Fr} {o : Oper} {k : KD} {cal : CallF} {σ : AW} {ops : Array Oper} {b : Array Nat} {base i : Nat} {tr : TrD}

def EvD (C : Cfg) (ops : Array Oper) (b : Array Nat) (base i : Nat) (os : List Oper) (tr : TrD) (fr : Fr) (σ : AW) (fr' : Fr) (σ' : AW) : Prop := Ev (fun E => runOpsD C E ops b base i os tr fr σ = some [(.norm, fr', σ')]) C

/-- Where it goes on from. -/
def OnD (C : Cfg) (nt : Nat) (rnd : Bool) (ops : Array Oper) (b : Array Nat) (base i : Nat) (o : Oper) (tr : TrD) (fr : Fr) (σ : AW) (ds : List (Option ADef)) (k : KD) (cal : CallF) (r : R1) : Prop :=
  ∃ tr' t' fr' σ', KD.run k cal base tr' t' ds σ' = r ∧ FrEq nt rnd t' ds fr' ∧ ∀ os frE σE, EvD C ops b base (i + 1) os tr' fr' σ' frE σE → EvD C ops b base i (o :: os) tr fr σ frE σE

theorem opsOld_congr {n : Nat} {fr fr' : Fr} (h : ∀ x ∈ o.op.operands, fr.eval x = fr'.eval x) : opsOld n fr o = opsOld n fr' o := by
  unfold opsOld
  rw [Bool.eq_iff_iff, List.all_eq_true, List.all_eq_true]
  constructor <;> intro hh x hx
  · rw [← h x (by simpa using hx)]; exact hh x hx
  · rw [h x (by simpa using hx)]; exact hh x hx

theorem exitD_ok (hc : CalOk C cal) (hf : FrEq nt rnd t ds fr) (hd : dstF nt o = true) (hw : wantedA fr ops o = some true) {act : Option Act1} {sm : Fr} {r : R1} (ha : cls C.P fr o = act) (hsm : opsOld base sm o = opsOld base fr o) (h : exitD C b i o (putF o.dst) k cal base tr t ds σ sm act = r) (hr : r ≠ .fail) :
    OnD C nt rnd ops b base i o tr fr σ ds k cal r := by
  have hr' : R1.fail ≠ r := fun e => hr e.symm
  unfold exitD at h
  simp only [normW_eq] at h
  split at h
  · rename_i v
    exact ⟨_, _, _, _, h, put_FrEq hf hd v, fun os frE σE hE => Ev.imp hE fun E hE => by simp only [runOpsD, hw, ha, hE]⟩
  · rename_i rd
    split at h
    · rename_i v hv
      split at h
      · rename_i hok
        rw [hsm] at hok
        exact ⟨_, _, _, _, h, put_FrEq hf hd v, fun os frE σE hE => Ev.imp hE fun E hE => by simp only [runOpsD, hw, ha, hv, hok, if_true, hE]⟩
      · exact (hr' h).elim
    · exact (hr' h).elim
  · rename_i obj sl mp
    exact ⟨_, _, _, _, h, put_FrEq hf hd _, fun os frE σE hE => Ev.imp hE fun E hE => by simp only [runOpsD, hw, ha, hE]⟩
  · rename_i e
    split at h
    · rename_i m0 hfl
      split at h
      · rename_i m kk v
        split at h
        · rename_i es ver hm
          split at h
          · rename_i hk
            split at h
            · rename_i hl
              exact ⟨_, _, _, _, h, put_FrEq hf hd _, fun os frE σE hE => Ev.imp hE fun E hE => by simp only [runOpsD, hw, ha, hfl, hm, hk, hl, if_true, hE]⟩
            · exact (hr' h).elim
          · exact (hr' h).elim
        · exact (hr' h).elim
      · exact (hr' h).elim
    · rename_i hfl
      split at h
      · rename_i v σ' hv
        split at h
        · rename_i hok
          exact ⟨_, _, _, _, h, put_FrEq hf hd v, fun os frE σE hE => Ev.imp hE fun E hE => by simp only [runOpsD, hw, ha, hfl, hv, hok, if_true, hE]⟩
        · exact (hr' h).elim
      · exact (hr' h).elim
  · rename_i fv xs
    split at h
    · rename_i hok
      split at h
      · rename_i v σ' hv
        split at h
        · rename_i hn
          exact ⟨_, _, _, _, h, put_FrEq hf hd v, fun os frE σE hE => Ev.imp (Ev.and (hc _ _ _ _ _ hv) hE) fun E hE => by
            obtain ⟨h1, h2⟩ := hE
            simp only [runOpsD, hw, ha, hok, if_true, h1, hn, h2]⟩
        · exact (hr' h).elim
      · exact (hr' h).elim
    · exact (hr' h).elim
  · exact (hr' h).elim

theorem actD_ok (hc : CalOk C cal) (hf : FrEq nt rnd t ds fr) (hd : dstF nt o = true) (hw : wantedA fr ops o = some true) {r : R1} (h : KD.run (actD C nt b i o k) cal base tr t ds σ = r) (hr : r ≠ .fail) : OnD C nt rnd ops b base i o tr fr σ ds k cal r := by
  have sl : KD.run (if (tmpsOf o).all fun t => t.blt nt then ⟨fun cal base tr t ds σ => exitD C b i o (putF o.dst) k cal base tr t ds σ (Fr.mk 0 (TF.run (someF (tmpsOf o)) t) [] false) (CF.run (clsF C.P o) (Fr.mk 0 (TF.run (someF (tmpsOf o)) t) [] false))⟩ else ⟨fun _ _ _ _ _ _ => .fail⟩ : KD) cal base tr t ds σ = r → OnD C nt rnd ops b base i o tr fr σ ds k cal r := by
    intro h
    split at h
    · rename_i hall
      have hsm := small_eval hf hall
      refine exitD_ok hc hf hd hw (act := (clsF C.P o).run (Fr.mk 0 (TF.run (someF (tmpsOf o)) t) [] false)) ?_ (opsOld_congr hsm) h hr
      rw [clsF_eq]
      exact (cls_congr hsm).symm
    · exact (hr h.symm).elim
  have vl : ∀ {x f}, o.op = .move x ∨ o.op = .assign x → opF nt x = some f → KD.run (valD (putF o.dst) f k) cal base tr t ds σ = r → OnD C nt rnd ops b base i o tr fr σ ds k cal r := by
    intro x f ho hx h
    have hcl : cls C.P fr o = some (.val (GF.get f t)) := by rcases ho with ho | ho <;> simp [cls, ho, opF_ok hf hx]
    exact ⟨_, _, _, _, h, put_FrEq hf hd _, fun os frE σE hE => Ev.imp hE fun E hE => by simp only [runOpsD, hw, hcl, hE]⟩
  unfold actD at h
  simp only at h
  split at h
  · rename_i x ho
    split at h
    · rename_i f hx; exact vl (.inl ho) hx h
    · exact sl h
  · rename_i x ho
    split at h
    · rename_i f hx; exact vl (.inr ho) hx h
    · exact sl h
  · exact sl h

theorem operD_ok (hc : CalOk C cal) (hf : FrEq nt rnd t ds fr) {r : R1} (h : KD.run (operD C nt ops b i o k) cal base tr t ds σ = r) (hr : r ≠ .fail) : OnD C nt rnd ops b base i o tr fr σ ds k cal r := by
  have hr' : R1.fail ≠ r := fun e => hr e.symm
  unfold operD at h
  split at h
  rotate_left
  · exact (hr' h).elim
  rename_i hd
  have hdst := dstF_ok hf hd
  have act : wantedA fr ops o = some true → KD.run (actD C nt b i o k) cal base tr t ds σ = r → OnD C nt rnd ops b base i o tr fr σ ds k cal r := fun hw h => actD_ok hc hf hd hw h hr
  have skip : wantedA fr ops o = some false → KD.run (valD (putF o.dst) ⟨fun _ => .tup []⟩ k) cal base tr t ds σ = r → OnD C nt rnd ops b base i o tr fr σ ds k cal r := by
    intro hw h
    exact ⟨_, _, _, _, h, put_FrEq hf hd (.tup []), fun os frE σE hE => Ev.imp hE fun E hE => by simp only [runOpsD, hw, hE]⟩
  simp only at h
  split at h
  · rename_i hg
    exact act (by simp [wantedA, hdst, hg]) h
  · rename_i j want hg
    split at h
    · rename_i hj
      exact skip (by simp [wantedA, hdst, hg, hj]) h
    · rename_i d hj
      split at h
      · rename_i hdn
        have hget := hf.val d (Nat.le_of_ble_eq_true hdn)
        rcases AV.onBool_eq h with ⟨h, _⟩ | ⟨c, h1, h⟩
        · obtain ⟨l, h1, h⟩ := onTup h hr'
          cases l with
          | nil => exact skip (by simp [wantedA, hdst, hg, hj, hget, h1]) h
          | cons x l => exact (hr' h).elim
        · cases c <;> cases want
          · exact act (by simp [wantedA, hdst, hg, hj, hget, h1]) h
          · exact skip (by simp [wantedA, hdst, hg, hj, hget, h1]) h
          · exact skip (by simp [wantedA, hdst, hg, hj, hget, h1]) h
          · exact act (by simp [wantedA, hdst, hg, hj, hget, h1]) h
      · exact (hr' h).elim

theorem stDraw_ok (hc : CalOk C cal) : ∀ (os : List Oper) {i : Nat} {tr : TrD} {t : FO} {fr : Fr} {σ : AW} {r : R1}, FrEq nt rnd t ds fr → KD.run (stDraw C nt ops b os i) cal base tr t ds σ = r → r ≠ .fail → ∃ t' fr' σ', r = .norm t' ds σ' ∧ FrEq nt rnd t' ds fr' ∧ EvD C ops b base i os tr fr σ fr' σ'
  | [], i, tr, t, fr, σ, r, hf, h, hr => by
    have h' : (if lateOk C.P b σ tr then R1.norm t ds σ else .fail) = r := h
    split at h'
    · rename_i hl
      exact ⟨t, fr, σ, h'.symm, hf, Ev.pure fun E => by simp only [runOpsD, hl, if_true]⟩
    · exact (hr h'.symm).elim
  | o :: os, i, tr, t, fr, σ, r, hf, h, hr => by
    obtain ⟨tr1, t1, fr1, σ1, h1, h2, h3⟩ := operD_ok (k := stDraw C nt ops b os (i + 1)) hc hf h hr
    obtain ⟨t', fr', σ', h4, h5, h6⟩ := stDraw_ok hc os h2 h1 hr
    exact ⟨t', fr', σ', h4, h5, h3 _ _ _ h6⟩

theorem drawF_ok (C : Cfg) (nt : Nat) (rnd : Bool) : DrawFOk C nt rnd (drawF C nt rnd) := by
  intro ops cal t ds fr σ hc hf id
  unfold drawF
  split
  · rename_i hok
    by_cases hr : KD.run (stDraw C nt ops (Region.before ops) ops.toList 0) cal σ.next ⟨[], [], []⟩ t ds σ = .fail
    · show Fin _ nt rnd (KD.run (stDraw C nt ops (Region.before ops) ops.toList 0) cal σ.next ⟨[], [], []⟩ t ds σ)
      rw [hr]; trivial
    · obtain ⟨t', fr', σ', h1, h2, h3⟩ := stDraw_ok hc ops.toList hf rfl hr
      show Fin _ nt rnd (KD.run (stDraw C nt ops (Region.before ops) ops.toList 0) cal σ.next ⟨[], [], []⟩ t ds σ)
      rw [h1]
      exact ⟨fr', h2, EvCode.draw hok h3⟩
  · trivial
end
end Pe

/- Contracts out of the evaluator itself: calls of plain values, from an empty heap. -/
namespace Pe
open Go

def plainV : AV → Bool
  | .int .. | .bool _ | .str _ | .nilptr | .nilsl | .nilmap | .nilfunc | .niliface => true
  | _ => false
def flatV : AV → Bool
  | .agg cs => cs.all plainV
  | v => plainV v
/-- A value without an address. -/
def scalarV : AV → Bool
  | .tup vs => vs.all flatV
  | v => flatV v

theorem plain_VR {ρ ρ' : Rho} {x : AV} {v : Value} (h : plainV x = true) (hv : VR ρ x v) : VR ρ' x v := by
  cases x <;> simp only [plainV, Bool.false_eq_true] at h <;> simpa only [VR] using hv
theorem plains_VR {ρ ρ' : Rho} : ∀ {xs : List AV} {vs : List Value}, xs.all plainV = true → VRs ρ xs vs → VRs ρ' xs vs
  | [], _, _, hv => by rw [VRs_nil] at hv ⊢; exact hv
  | x :: xs, _, h, hv => by
    obtain ⟨y, ys, rfl, h1, h2⟩ := VRs_cons.1 hv
    simp only [List.all_cons, Bool.and_eq_true] at h
    exact VRs_cons.2 ⟨y, ys, rfl, plain_VR h.1 h1, plains_VR h.2 h2⟩
theorem flat_VR {ρ ρ' : Rho} {x : AV} {v : Value} (h : flatV x = true) (hv : VR ρ x v) : VR ρ' x v := by
  unfold flatV at h
  split at h
  · simp only [VR] at hv ⊢
    obtain ⟨cs, h1, h2⟩ := hv
    exact ⟨cs, h1, plains_VR h h2⟩
  · exact plain_VR h hv
theorem flats_VR {ρ ρ' : Rho} : ∀ {xs : List AV} {vs : List Value}, xs.all flatV = true → VRs ρ xs vs → VRs ρ' xs vs
  | [], _, _, hv => by rw [VRs_nil] at hv ⊢; exact hv
  | x :: xs, _, h, hv => by
    obtain ⟨y, ys, rfl, h1, h2⟩ := VRs_cons.1 hv
    simp only [List.all_cons, Bool.and_eq_true] at h
    exact VRs_cons.2 ⟨y, ys, rfl, flat_VR h.1 h1, flats_VR h.2 h2⟩
theorem scalar_VR {ρ ρ' : Rho} {x : AV} {v : Value} (h : scalarV x = true) (hv : VR ρ x v) : VR ρ' x v := by
  unfold scalarV at h
  split at h
  · simp only [VR] at hv ⊢
    obtain ⟨cs, h1, h2⟩ := hv
    exact ⟨cs, h1, flats_VR h h2⟩
  · exact flat_VR h hv

/-- A call's results, handed on. -/
theorem CallRes.imp {P : Program} {ρ ρ' : Rho} {σ σ' : AW} {w : World} {s : Sem Next} {l l' : List (AV × AW)} (h : CallRes P ρ σ w s l) (hi : ∀ v w', RCall P ρ σ w l v w' → RCall P ρ' σ' w l' v w') : CallRes P ρ' σ' w s l' := by
  rcases h with ⟨v, w', h1, h2⟩ | ⟨f, args, w₁, h1, h2⟩ | ⟨k, f, tmps, asg, body, w₁, h1, h2⟩
  · exact .inl ⟨v, w', h1, hi v w' h2⟩
  · refine .inr (.inl ⟨f, args, w₁, h1, fun n => (h2 n).mono fun e w' he => ?_⟩)
    cases e with
    | returned v => exact hi v w' he
    | panicked c => exact he
    | outgrown => exact he
  · refine .inr (.inr ⟨k, f, tmps, asg, body, w₁, h1, fun n => (h2 n).mono fun e w' he => ?_⟩)
    cases e with
    | returned v => exact hi v w' he
    | panicked c => exact he
    | outgrown => exact he

def σ00 : AW := { heap := .nil, next := 0, low := 0 }
theorem sim00 (P : Program) (w : World) : Sim P (fun _ => none) σ00 w := ⟨fun _ _ h => (by cases h), fun _ _ _ _ _ _ h => by cases h⟩

/-- A table of such calls. -/
noncomputable def tableX (tab : List (List AV × AV)) : XF := ⟨fun xs σ => pv (find tab xs) σ⟩
  where
  find : List (List AV × AV) → List AV → Option AV
    | [], _ => none
    | e :: tab, xs => if AV.sames e.1 xs then some e.2 else find tab xs

theorem find_mem {tab : List (List AV × AV)} {xs : List AV} {v : AV} (h : tableX.find tab xs = some v) : (xs, v) ∈ tab := by
  induction tab with
  | nil => cases h
  | cons e tab ih =>
    simp only [tableX.find] at h
    split at h
    · rename_i he
      cases h
      have := sames_eq _ _ he
      obtain ⟨a, b⟩ := e
      simp only at this
      subst this
      simp
    · exact List.mem_cons_of_mem _ (ih h)

theorem pv_some {o : Option AV} {σ : AW} {r : AV × AW} (h : pv o σ = some r) : ∃ v, o = some v ∧ r = (v, σ) := by
  cases o with
  | none => cases h
  | some v => cases h; exact ⟨v, rfl, rfl⟩

end Pe

/- Codes and calls step by step: what a step leaves alone in the world; what is needed no more may be forgotten. -/
namespace Pe
open Go

/-- What a step leaves alone: the roots (numbers below k) stand where they stood; a block that no object lies in lies as it lay, and goes on so. -/
structure Foot (k : Nat) (ρ : Rho) (σ : AW) (w : World) (ρ' : Rho) (σ' : AW) (w' : World) : Prop where
  root : ∀ id, id < k → ρ' id = ρ id
  size : w.heap.size ≤ w'.heap.size
  frame : ∀ b, b < w.heap.size → ¬ Owned ρ σ b → w'.heap[b]? = w.heap[b]?
  owned : ∀ b, b < w.heap.size → Owned ρ' σ' b → Owned ρ σ b
  io : SameIO w w'

variable {P : Program} {B k : Nat} {ρ ρ' ρ'' : Rho} {σ σ' σ'' : AW} {w w' w'' : World}

theorem Foot.refl (k : Nat) (ρ : Rho) (σ : AW) (w : World) : Foot k ρ σ w ρ σ w := ⟨fun _ _ => rfl, Nat.le_refl _, fun _ _ _ => rfl, fun _ _ h => h, rfl, rfl⟩
theorem Foot.trans (h : Foot k ρ σ w ρ' σ' w') (h' : Foot k ρ' σ' w' ρ'' σ'' w'') : Foot k ρ σ w ρ'' σ'' w'' where
  root id hid := by rw [h'.root id hid, h.root id hid]
  size := Nat.le_trans h.size h'.size
  frame b hb hn := by
    rw [h'.frame b (by have := h.size; omega) fun ho => hn (h.owned b hb ho), h.frame b hb hn]
  owned b hb ho := h.owned b hb (h'.owned b (by have := h.size; omega) ho)
  io := ⟨h'.io.1.trans h.io.1, h'.io.2.trans h.io.2⟩
theorem Post.foot (p : Post ρ σ w ρ' σ' w') (hk : k ≤ σ.next) : Foot k ρ σ w ρ' σ' w' where
  root id hid := by
    cases h : ρ id with
    | some l => exact p.le id l h
    | none => cases h' : ρ' id with
      | none => rfl
      | some l => have := p.new id l h' h; omega
  size := p.size
  frame := p.frame
  owned := p.owned
  io := p.io

theorem Glob.foot [Globs] (h : Glob ρ σ w) (p : Foot k ρ σ w ρ' σ' w') : Glob ρ' σ' w' := by
  intro b O hb
  obtain ⟨h1, h2⟩ := h b O hb
  have hlt := glob_lt h1
  exact ⟨by rw [p.frame b hlt h2, h1], fun ho => h2 (p.owned b hlt ho)⟩

variable [Globs]
/-! ### Codes -/
def QF (P : Program) (B k : Nat) (ρ : Rho) (σ : AW) (w : World) (r : Out × Fr × AW) : Exit → Act → World → Prop := fun e a' w' =>
  ExitOf r.1 e ∧ ∃ ρ', Sim P ρ' r.2.2 w' ∧ Foot k ρ σ w ρ' r.2.2 w' ∧ FrRel B ρ' r.2.2 w' Fence.wide r.2.1 a'

/-- From every world that the frame and the heap stand for, the code comes to r. -/
def CodeF (P : Program) (k : Nat) (c : Code) (fr : Fr) (σ : AW) (r : Out × Fr × AW) : Prop :=
  ∀ B n ρ w a, Sim P ρ σ w → Glob ρ σ w → FrRel B ρ σ w Fence.wide fr a → c.wpIn Fence.wide n P (QF P B k ρ σ w r) a w

theorem QF.trans {r : Out × Fr × AW} {e : Exit} {a : Act} (h : Foot k ρ σ w ρ' σ' w') (q : QF P B k ρ' σ' w' r e a w'') : QF P B k ρ σ w r e a w'' :=
  ⟨q.1, let ⟨ρ2, h1, h2, h3⟩ := q.2; ⟨ρ2, h1, h.trans h2, h3⟩⟩

theorem CodeF.of {C : Cfg} (hS : ∀ n, Sound C (evs C n)) {c : Code} {fr : Fr} {r : Out × Fr × AW} (h : EvCode C c fr σ r) (hk : k ≤ σ.next) : CodeF C.P k c fr σ r := by
  intro B n ρ w a hs hg hf
  obtain ⟨m, h⟩ := h
  refine wpIn_mono ((hS m).code _ _ _ _ (h m (Nat.le_refl _)) B Fence.wide n ρ w a (.inl rfl) hs hg hf) fun e a' w' hq => ?_
  obtain ⟨r', hr, h1, ρ', h2, h3, h4⟩ := hq
  rw [List.mem_singleton] at hr
  subst hr
  exact ⟨h1, ρ', h2, h3.foot hk, h4⟩

section
variable {c x y b : Code} {fr fr1 fr2 : Fr} {σ1 σ2 : AW} {r : Out × Fr × AW} {j : Jump} {m id : Nat}

theorem CodeF.skip : CodeF P k .skip fr σ (.norm, fr, σ) := fun _ _ ρ _ _ hs _ hf => wpIn_skip ⟨rfl, ρ, hs, Foot.refl _ _ _ _, hf⟩
theorem CodeF.ret : CodeF P k .ret fr σ (.jump .ret, fr, σ) := fun _ _ ρ _ _ hs _ hf => wpIn_ret ⟨rfl, ρ, hs, Foot.refl _ _ _ _, hf⟩
theorem CodeF.exit : CodeF P k (.exit id) fr σ (.jump (.exit id), fr, σ) := fun _ _ ρ _ _ hs _ hf => wpIn_exit ⟨rfl, ρ, hs, Foot.refl _ _ _ _, hf⟩
theorem CodeF.seq (h : CodeF P k x fr σ (.norm, fr1, σ1)) (h' : CodeF P k y fr1 σ1 r) : CodeF P k (.seq x y) fr σ r := by
  intro B n ρ w a hs hg hf
  refine wpIn_seq (wpIn_mono (h B n ρ w a hs hg hf) fun e a' w' hq => ?_)
  obtain ⟨he, ρ', k1, k2, k3⟩ := hq
  simp only [ExitOf] at he; subst he
  exact wpIn_mono (h' B n ρ' w' a' k1 (hg.foot k2) k3) fun _ _ _ hq => hq.trans k2
theorem CodeF.seqJ (h : CodeF P k x fr σ (.jump j, fr1, σ1)) : CodeF P k (.seq x y) fr σ (.jump j, fr1, σ1) := by
  intro B n ρ w a hs hg hf
  refine wpIn_seq (wpIn_mono (h B n ρ w a hs hg hf) fun e a' w' hq => ?_)
  obtain ⟨he, hq⟩ := hq
  cases j <;> (simp only [ExitOf] at he; subst he; exact ⟨rfl, hq⟩)
theorem CodeF.cond {o : Operand} {t : Bool} (ht : fr.eval o = some (.bool t)) (h : CodeF P k (if t then x else y) fr σ r) : CodeF P k (.cond o x y) fr σ r := by
  intro B n ρ w a hs hg hf
  have hv := hf.evalRel [o] o (by simp) _ ht
  simp only [VR] at hv
  exact wpIn_cond hv (h B n ρ w a hs hg hf)
theorem CodeF.block (h : CodeF P k x fr σ (.norm, fr1, σ1)) : CodeF P k (.block id x) fr σ (.norm, fr1, σ1) := by
  intro B n ρ w a hs hg hf
  refine wpIn_block (wpIn_mono (h B n ρ w a hs hg hf) fun e a' w' hq => ?_)
  obtain ⟨he, hq⟩ := hq
  simp only [ExitOf] at he; subst he; exact ⟨rfl, hq⟩
theorem CodeF.blockX (h : CodeF P k x fr σ (.jump (.exit id), fr1, σ1)) : CodeF P k (.block id x) fr σ (.norm, fr1, σ1) := by
  intro B n ρ w a hs hg hf
  refine wpIn_block (wpIn_mono (h B n ρ w a hs hg hf) fun e a' w' hq => ?_)
  obtain ⟨he, hq⟩ := hq
  simp only [ExitOf] at he; subst he
  simp only [Exit.inBlock, if_true]; exact ⟨rfl, hq⟩
theorem CodeF.blockR (h : CodeF P k x fr σ (.jump .ret, fr1, σ1)) : CodeF P k (.block id x) fr σ (.jump .ret, fr1, σ1) := by
  intro B n ρ w a hs hg hf
  refine wpIn_block (wpIn_mono (h B n ρ w a hs hg hf) fun e a' w' hq => ?_)
  obtain ⟨he, hq⟩ := hq
  simp only [ExitOf] at he; subst he; exact ⟨rfl, hq⟩

/-! ### Loops, round by round -/
def RoundsF (P : Program) (k : Nat) (b : Code) (m : Nat) (fr : Fr) (σ : AW) (r : Out × Fr × AW) : Prop :=
  ∀ B n ρ w a, Sim P ρ σ w → Glob ρ σ w → FrRel B ρ σ w Fence.wide fr a → Code.roundsIn Fence.wide n P b (QF P B k ρ σ w r) m a w

theorem roundsIn_mono {F : Fence} {n : Nat} {Q Q' : Exit → Act → World → Prop} (hq : ∀ e a w, Q e a w → Q' e a w) : ∀ (m : Nat) (a : Act) (w : World), Code.roundsIn F n P b Q m a w → Code.roundsIn F n P b Q' m a w
  | 0, _, _, h => h
  | m + 1, a, w, h => by
    rw [roundsIn_succ] at h ⊢
    refine wpIn_mono h fun e a w hh => ?_
    cases e <;> simp only [Exit.then] at hh ⊢ <;> first | exact roundsIn_mono hq m _ _ hh | exact hq _ _ _ hh

theorem RoundsF.next (h : CodeF P k b fr σ (.norm, fr1, σ1)) (h' : RoundsF P k b m fr1 σ1 r) : RoundsF P k b (m + 1) fr σ r := by
  intro B n ρ w a hs hg hf
  rw [roundsIn_succ]
  refine wpIn_mono (h B n ρ w a hs hg hf) fun e a' w' hq => ?_
  obtain ⟨he, ρ', k1, k2, k3⟩ := hq
  simp only [ExitOf] at he; subst he
  exact roundsIn_mono (fun _ _ _ hq => hq.trans k2) m a' w' (h' B n ρ' w' a' k1 (hg.foot k2) k3)
theorem RoundsF.last (h : CodeF P k b fr σ (.jump j, fr1, σ1)) : RoundsF P k b (m + 1) fr σ (.jump j, fr1, σ1) := by
  intro B n ρ w a hs hg hf
  rw [roundsIn_succ]
  refine wpIn_mono (h B n ρ w a hs hg hf) fun e a' w' hq => ?_
  obtain ⟨he, hq⟩ := hq
  cases j <;> (simp only [ExitOf] at he; subst he; exact ⟨rfl, hq⟩)
theorem CodeF.loop (h : RoundsF P k b m fr σ r) : CodeF P k (.loop b) fr σ r := fun B n ρ w a hs hg hf => wpIn_loop_rounds m (h B n ρ w a hs hg hf)

/-! ### Forgetting -/
def Weak (P : Program) (k : Nat) (fr1 : Fr) (σ1 : AW) (fr2 : Fr) (σ2 : AW) : Prop :=
  ∀ B ρ w a, Sim P ρ σ1 w → FrRel B ρ σ1 w Fence.wide fr1 a → ∃ ρ2, Sim P ρ2 σ2 w ∧ FrRel B ρ2 σ2 w Fence.wide fr2 a ∧ (∀ id, id < k → ρ2 id = ρ id) ∧ ∀ b, Owned ρ2 σ2 b → Owned ρ σ1 b

theorem CodeF.weak {o : Out} (h : CodeF P k c fr σ (o, fr1, σ1)) (hw : Weak P k fr1 σ1 fr2 σ2) : CodeF P k c fr σ (o, fr2, σ2) := by
  intro B n ρ w a hs hg hf
  refine wpIn_mono (h B n ρ w a hs hg hf) fun e a' w' hq => ?_
  obtain ⟨he, ρ', k1, k2, k3⟩ := hq
  obtain ⟨ρ2, g1, g2, g3, g4⟩ := hw B ρ' w' a' k1 k3
  exact ⟨he, ρ2, g1, k2.trans ⟨g3, Nat.le_refl _, fun _ _ _ => rfl, fun b _ ho => g4 b ho, rfl, rfl⟩, g2⟩
theorem CodeF.first (hw : Weak P k fr σ fr1 σ1) (h : CodeF P k c fr1 σ1 r) : CodeF P k c fr σ r := by
  intro B n ρ w a hs hg hf
  obtain ⟨ρ2, g1, g2, g3, g4⟩ := hw B ρ w a hs hf
  exact wpIn_mono (h B n ρ2 w a g1 (fun b O hb => ⟨(hg b O hb).1, fun ho => (hg b O hb).2 (g4 b ho)⟩) g2) fun e a' w' hq => hq.trans ⟨g3, Nat.le_refl _, fun _ _ _ => rfl, fun b _ ho => g4 b ho, rfl, rfl⟩
end

/-! ### Calls -/
def FunF (P : Program) (k : Nat) (f : FuncId) (xs : List AV) (σ : AW) (v : AV) (σ' : AW) : Prop :=
  ∀ ρ w (args : Array Value), Sim P ρ σ w → Glob ρ σ w → VRs ρ xs args.toList → (callFunc f args).run P w = .ok (.enter f args) w ∧
    ∀ n, CallsIn Fence.wide n P f args w fun e w' => ∃ u, e = .returned u ∧ ∃ ρ', VR ρ' v u ∧ Sim P ρ' σ' w' ∧ Foot k ρ σ w ρ' σ' w'

theorem FunF.body {f : FuncId} {fn : Func} {c : Code} {xs vs : List AV} {o : Out} {fr : Fr} (hfn : P.funcs[f]? = some fn) (hb : fn.body = some c) (hname : (fn.name == "runtime.NumGoroutine") = false)
    (h : CodeF P k c (frame0 fn xs) σ (o, fr, σ')) (ho : o = .norm ∨ o = .jump .ret) (hd : fr.defers = []) (hv : resVals P fr σ' fn.results.toList = some vs) : FunF P k f xs σ (oneOrTup vs) σ' := by
  intro ρ w args hs hg hx
  refine ⟨callFunc_enter hfn hb hname, fun n => callsIn_of_wp_marks hfn hb trivial (wpIn_mono (h w.heap.size n ρ w _ hs hg (frame0_ok hx)) fun e a1 w1 hq => ?_)⟩
  obtain ⟨he, ρ', k1, k2, k3⟩ := hq
  obtain ⟨u, g1, g2⟩ := results_ok k1 k3.val hv
  have hdefs := k3.defs
  rw [hd] at hdefs
  have hda : a1.defers = [] := hdefs
  have fin : LeavesInM Fence.wide n P fn a1.tmps (fun e w' => ∃ u, e = .returned u ∧ ∃ ρ', VR ρ' (oneOrTup vs) u ∧ Sim P ρ' σ' w' ∧ Foot k ρ σ w ρ' σ' w') a1.defers .returning w1 := by
    rw [hda]
    exact ⟨u, g1, u, rfl, ρ', g2, k1, k2⟩
  rcases ho with rfl | rfl <;> (simp only [ExitOf] at he; subst he; exact fin)

theorem FunF.of {C : Cfg} (hX : ExtOk C) (hm : C.P.follows .mixedOrders = true) {f : FuncId} {xs : List AV} {v : AV} (h : EvCall C (.func f [] []) xs σ v σ') (hx : C.ext f xs σ = none) (hk : k ≤ σ.next) : FunF C.P k f xs σ v σ' := by
  intro ρ w args hs hg hxs
  obtain ⟨n, h⟩ := h
  obtain ⟨h1, h2⟩ := (evs_sound hX (merge_sound C.P) (draw_sound C hm) n).enter f xs σ _ (h n (Nat.le_refl _)) hx ρ w args hs hg hxs
  refine ⟨h1, fun m => (h2 m).mono fun e w' he => ?_⟩
  cases e with
  | returned u =>
    obtain ⟨r, hr, ρ', g1, g2, g3⟩ := he
    rw [List.mem_singleton] at hr
    subst hr
    exact ⟨u, rfl, ρ', g1, g2, g3.foot hk⟩
  | panicked c => exact he.elim
  | outgrown => exact he.elim

/-- A call of plain values from an empty heap, anywhere. -/
theorem FunF.plain {f : FuncId} {xs : List AV} {v : AV} (h : FunF P k f xs σ00 v σ') (hxs : xs.all flatV = true) (hv : scalarV v = true) {args : Array Value} (hs : Sim P ρ σ w) (hg : Glob ρ σ w) (hx : VRs ρ xs args.toList) : CallRes P ρ σ w (callFunc f args) [(v, σ)] := by
  obtain ⟨h1, h2⟩ := h (fun _ => none) w args (sim00 _ _) (fun b O hb => ⟨(hg b O hb).1, fun ⟨_, _, _, hh, _⟩ => by cases hh⟩) (flats_VR hxs hx)
  refine .inr (.inl ⟨f, args, w, h1, fun n => (h2 n).mono fun e w' he => ?_⟩)
  obtain ⟨u, rfl, ρ', g1, _, g3⟩ := he
  have hframe : ∀ b, b < w.heap.size → w'.heap[b]? = w.heap[b]? := fun b hb => g3.frame b hb fun ⟨id, l, o, hh, _⟩ => by cases hh
  exact ⟨_, List.mem_singleton.2 rfl, ρ, scalar_VR hv g1, hs.touch g3.size (fun b hb => hframe b (owned_lt hs hb)), (Post.refl ρ σ w).world g3.size hframe g3.io⟩

end Pe
