/- The quick evaluator. -/
import Derived.Test.YtnmfbmfefjcnfaaGreatDoorKg
set_option linter.unusedSectionVars false
/- Classification with the text looked at once; it looks at the operands alone. (clsF: PRINTED BY genclsf.py out of cls.) -/
namespace Pe
open Go
noncomputable section
structure CF where
  run : Fr → Option Act1
/-- What an operation does, its text looked at once. -/
def clsF (P : Program) (o : Oper) : CF :=
  match o.op with
  | .move x | .assign x => ⟨fun fr => (fr.eval x).map .val⟩
  | .pick c a b => ⟨fun fr => match fr.eval c with
    | some (.bool t) => (fr.eval (if t then a else b)).map .val
    | _ => none⟩
  | .alloc t => ⟨fun _ => match zeroA P t with
    | some z => if z.cells.length = P.cellsOf t ∧ z.cells.all AV.isCell then some (.mk (.cells (P.cellsOf t) z.cells .nil t 0 true) none false) else none
    | none => none⟩
  | .box t x => ⟨fun fr => match fr.eval x with
    | some v => if v.cells.all AV.isCell then some (.mk (.cells v.cells.length v.cells .nil t 0 true) none false) else none
    | none => none⟩
  | .build t ps => ⟨fun fr => match zeroA P t, fr.evalP ps.toList, P.underlying t with
    | some z, some vs, some (.struct fs) =>
      if !(fs.toList.all fun f => (P.info? f.type).isSome) || !z.cells.all AV.isCell then none else
      (fillA (fun i => (fs[i]?).map fun f => (f.offset, P.cellsOf f.type)) z.cells.length .nil vs).bind fun t => (cellsFrom z.cells t 0 z.cells.length).map fun cs => .val (.agg cs)
    | some z, some vs, some (.array _ e) =>
      if !(P.info? e).isSome || !z.cells.all AV.isCell then none else
      (fillA (fun i => some (i * P.cellsOf e, P.cellsOf e)) z.cells.length .nil vs).bind fun t => (cellsFrom z.cells t 0 z.cells.length).map fun cs => .val (.agg cs)
    | _, _, _ => none⟩
  | .buildSlice t len ps => ⟨fun fr => match P.underlying t with
    | some (.slice e) => match zeroA P e, fr.evalP ps.toList with
      | some z, some vs =>
        if z.cells.length = P.cellsOf e ∧ z.cells.all AV.isCell ∧ len * P.cellsOf e ≤ 16777216 then
          (fillA (fun i => some (i * P.cellsOf e, P.cellsOf e)) (len * P.cellsOf e) .nil vs).map fun t => .mk (.cells (len * P.cellsOf e) z.cells t e 0 true) (some (len, .is len)) false
        else none
      | _, _ => none
    | _ => none⟩
  | .load t a => ⟨fun fr => (fr.eval a).map fun v => .rd (.load t v)⟩
  | .store t a v => ⟨fun fr => match fr.eval a, fr.eval v with
    | some a, some v => some (.eff (.store t a v))
    | _, _ => none⟩
  | .nilCheck x => ⟨fun fr => match fr.eval x with
    | some (.ptr i o) => some (.val (.ptr i o))
    | some (.func f a c) => some (.val (.func f a c))
    | _ => none⟩
  | .binOp op t x y _ => ⟨fun fr => match fr.eval x, fr.eval y with
    | some .niliface, some .niliface => (nilEq P op t x y).map fun b => .val (.bool b)
    | some a, some b => (bin P op t a b).map .val
    | _, _ => none⟩
  | .unOp op _ x => ⟨fun fr => match op, fr.eval x with
    | .not, some (.bool b) => some (.val (.bool !b))
    | .neg, some (.int k n) => some (.val (.int k (k.wrap (0 - n))))
    | _, _ => none⟩
  | .convert s d x => ⟨fun fr => (fr.eval x).bind (convA P s d)⟩
  | .makeInterface t x => ⟨fun fr => match P.underlying t with
    | some (.interface _) | none => none
    | _ => (fr.eval x).map fun v => .val (.iface t v)⟩
  | .makeFunc fn a c => ⟨fun fr => match fn, fr.evals a.toList, fr.evals c.toList with
    | .func f, some a, some c => some (.val (.func f a c))
    | _, _, _ => none⟩
  | .makeMap _ r => ⟨fun _ => match r with
    | none => some (.mk (.map [] 0) none true)
    | _ => none⟩
  | .makeSlice t l c => ⟨fun fr => match P.underlying t, fr.eval l, fr.eval c with
    | some (.slice e), some (.int _ l), some (.int _ c) => match zeroA P e, P.info? e with
      | some z, some info =>
        if 0 ≤ l ∧ l ≤ c ∧ c.toNat * info.bytes ≤ roomA ∧ c < 1099511627776 ∧ z.cells.length = P.cellsOf e ∧ z.cells.all AV.isCell then
          some (.mk (.cells (c.toNat * P.cellsOf e) z.cells .nil e 0 true) (some (l.toNat, .is c.toNat)) false) else none
      | _, _ => none
    | _, _, _ => none⟩
  | .slice t x lo hi mx => ⟨fun fr => match fr.eval x, fr.evalO lo, fr.evalO hi, fr.evalO mx, P.underlying t with
    | some (.str s), some lo, some hi, some none, some .string => (boundsA s.length (some s.length) lo hi none).map fun b => .val (.str ((s.take b.2.1).drop b.1))
    | some .nilsl, some lo, some hi, some mx, some (.slice e) => if P.cellsOf e = 0 then none else (boundsA 0 (some 0) lo hi mx).map fun _ => .val .nilsl
    | some (.sl id off len cap), some lo, some hi, some mx, some (.slice e) => if P.cellsOf e = 0 ∨ capFits (P.cellsOf e) cap = false then none else (boundsA len cap.known lo hi mx).map fun b => .val (sliceA (P.cellsOf e) id off b)
    | some (.ptr id off), some lo, some hi, some mx, some (.array n e) => if P.cellsOf e = 0 then none else (boundsA n (some n) lo hi mx).map fun b => .val (sliceA (P.cellsOf e) id off b)
    | _, _, _, _, _ => none⟩
  | .fieldAddr s x i => ⟨fun fr => match P.underlying s, fr.eval x with
    | some (.struct fs), some (.ptr id off) => match fs[i]? with
      | some f => if P.cellsOf f.type = 0 then none else some (.val (.ptr id (off + f.offset)))
      | none => none
    | _, _ => none⟩
  | .field s x i => ⟨fun fr => match P.underlying s, fr.eval x with
    | some (.struct fs), some (.agg cs) => match fs[i]? with
      | some f => (partA P f.type cs f.offset).map .val
      | none => none
    | _, _ => none⟩
  | .indexAddr t x i => ⟨fun fr => match P.underlying t, fr.eval x, fr.eval i with
    | some (.array n e), some (.ptr id off), some (.int _ i) => if 0 ≤ i ∧ i < n ∧ P.cellsOf e ≠ 0 then some (.val (.ptr id (off + i.toNat * P.cellsOf e))) else none
    | some (.slice e), some (.sl id off len _), some (.int _ i) => if 0 ≤ i ∧ i < len ∧ P.cellsOf e ≠ 0 then some (.val (.ptr id (off + i.toNat * P.cellsOf e))) else none
    | _, _, _ => none⟩
  | .index t x i => ⟨fun fr => match P.underlying t, fr.eval x, fr.eval i with
    | some (.array n e), some (.agg cs), some (.int _ i) => if 0 ≤ i ∧ i < n ∧ P.cellsOf e ≠ 0 then (partA P e cs (i.toNat * P.cellsOf e)).map .val else none
    | some .string, some (.str s), some (.int _ i) => if 0 ≤ i then (s[i.toNat]?).map fun b => .val (.int .u8 b.toNat) else none
    | _, _, _ => none⟩
  | .lookup t m k ok => ⟨fun fr => match P.underlying t, fr.eval m, fr.eval k with
    | some (.map kt e), some m, some k => if keyFits P kt k then (zeroA P e).map fun z => .rd (.lookup z m k ok) else none
    | _, _, _ => none⟩
  | .mapUpdate t m k v | .insert t m k v => ⟨fun fr => match P.underlying t, fr.eval m, fr.eval k, fr.eval v with
    | some (.map kt _), some (.map id), some k, some v => if keyFits P kt k then some (.eff (.mapPut id k v)) else none
    | _, _, _, _ => none⟩
  | .range t x => ⟨fun fr => match P.underlying t, fr.eval x with
    | some .string, some (.str s) => some (.mk (.siter s 0) none false)
    | some (.map _ _), some .nilmap => some (.mk (.miter none []) none false)
    | some (.map _ _), some (.map m) => some (.rngM m)
    | _, _ => none⟩
  | .next it isS => ⟨fun fr => match fr.eval it with
    | some (.ptr id 0) => if isS then some (.eff (.nextS id)) else some (.nextM id)
    | _ => none⟩
  | .entry it => ⟨fun fr => match fr.eval it with
    | some (.ptr id 0) => some (.rd (.entry id))
    | _ => none⟩
  | .typeAssert x _ a ok => ⟨fun fr => match P.underlying a, fr.eval x with
    | some (.interface _), _ => none
    | some _, some (.iface t v) => if t = a then some (.val (if ok then .tup [v, .bool true] else v)) else if ok then (zeroA P a).map fun z => .val (.tup [z, .bool false]) else none
    | some _, some .niliface => if ok then (zeroA P a).map fun z => .val (.tup [z, .bool false]) else none
    | _, _ => none⟩
  | .extract x i => ⟨fun fr => match fr.eval x with
    | some (.tup vs) => (vs[i]?).map .val
    | _ => none⟩
  | .call c => ⟨fun fr => match fr.evals c.args.toList with
    | none => none
    | some xs => match c.callee with
      | .builtin b => if c.argTypes.size.beq xs.length then bltin P b c.argTypes xs else none
      | .value f => match fr.eval f with
        | some (.func f a cap) => some (.call (.func f [] []) (a ++ xs ++ cap))
        | some (.yield l) => some (.call (.yield l) xs)
        | _ => none
      | .invoke r name => match fr.eval r with
        | some (.iface t v) => match methodOf P t name with
          | some f => some (.call (.func f [] []) (v :: xs))
          | none => none
        | _ => none⟩
  | .defer c => ⟨fun fr => match fr.evals c.args.toList, c.callee with
    | some xs, .value f => match fr.eval f with
      | some (.func f a cap) => some (.dfr ⟨.func f a cap, xs⟩)
      | _ => none
    | _, _ => none⟩
  | .panic x => ⟨fun fr => match fr.eval x with
    | some (.iface t v) => some (.pan (.iface t v))
    | _ => none⟩
  | _ => ⟨fun _ => none⟩

theorem clsF_eq (P : Program) (o : Oper) (fr : Fr) : (clsF P o).run fr = cls P fr o := by
  unfold clsF cls
  cases o.op <;> rfl

section
variable {P : Program} {fr fr' : Fr} {o : Oper}
theorem evals_congr : ∀ {l : List Operand}, (∀ x ∈ l, fr.eval x = fr'.eval x) → fr.evals l = fr'.evals l
  | [], _ => rfl
  | x :: l, h => by simp only [Fr.evals]; rw [h x (by simp), evals_congr (l := l) fun y hy => h y (by simp [hy])]
theorem evalP_congr : ∀ {l : List (Nat × Operand)}, (∀ x ∈ l.map (·.2), fr.eval x = fr'.eval x) → fr.evalP l = fr'.evalP l
  | [], _ => rfl
  | x :: l, h => by
    obtain ⟨i, x⟩ := x
    simp only [Fr.evalP]; rw [h x (by simp), evalP_congr (l := l) fun y hy => h y (by simp at hy ⊢; exact .inr hy)]
theorem evalO_congr {x : Option Operand} (h : ∀ y ∈ x.toArray, fr.eval y = fr'.eval y) : fr.evalO x = fr'.evalO x := by
  cases x with
  | none => rfl
  | some y => simp only [Fr.evalO]; rw [h y (by simp)]

theorem cls_congr (h : ∀ x ∈ o.op.operands, fr.eval x = fr'.eval x) : cls P fr o = cls P fr' o := by
  unfold cls
  cases hop : o.op <;> simp only [hop, Op.operands] at h ⊢
  case pick c a b =>
    rw [h c (by simp)]
    split
    · rename_i t _
      cases t
      · simp only [Bool.false_eq_true, if_false]; rw [h b (by simp)]
      · simp only [if_true]; rw [h a (by simp)]
    · rfl
  case build t ps => rw [evalP_congr (fun x hx => h x (by simpa using hx))]
  case buildSlice t n ps => rw [evalP_congr (fun x hx => h x (by simpa using hx))]
  case makeFunc fn a c => rw [evals_congr (l := a.toList) (fun x hx => h x (by simp at hx ⊢; exact .inl hx)), evals_congr (l := c.toList) (fun x hx => h x (by simp at hx ⊢; exact .inr hx))]
  case slice t x lo hi mx =>
    rw [h x (by simp), evalO_congr (x := lo) (fun y hy => h y (by simp at hy ⊢; simp [hy])), evalO_congr (x := hi) (fun y hy => h y (by simp at hy ⊢; simp [hy])), evalO_congr (x := mx) (fun y hy => h y (by simp at hy ⊢; simp [hy]))]
  case call c =>
    simp only [Call.operands] at h
    rw [evals_congr (l := c.args.toList) (fun x hx => h x (by simp at hx ⊢; exact .inr hx))]
    split
    · rfl
    · cases hc : c.callee with
      | builtin b => rfl
      | value f => simp only; rw [h f (by simp [hc])]
      | invoke r name => simp only; rw [h r (by simp [hc])]
  case defer c =>
    simp only [Call.operands] at h
    rw [evals_congr (l := c.args.toList) (fun x hx => h x (by simp at hx ⊢; exact .inr hx))]
    cases hc : c.callee with
    | builtin b => cases fr'.evals c.args.toList <;> rfl
    | value f =>
      cases fr'.evals c.args.toList with
      | none => rfl
      | some xs => simp only; rw [h f (by simp [hc])]
    | invoke r name => cases fr'.evals c.args.toList <;> rfl
  all_goals first
    | (rfl; done)
    | (rename_i x; rw [h x (by simp)]; done)
    | (rename_i x _; rw [h x (by simp)]; done)
    | (rename_i x _ _; rw [h x (by simp)]; done)
    | (rename_i x _ _ _; rw [h x (by simp)]; done)
    | (rename_i x y; rw [h x (by simp), h y (by simp)]; done)
    | (rename_i x y _; rw [h x (by simp), h y (by simp)]; done)
    | (rename_i x y z; rw [h x (by simp), h y (by simp), h z (by simp)]; done)
end
end
end Pe

/- The quicker evaluator: what depends on the text alone stands in structures (the kernel works a structure out once); the rest is handed on. -/
namespace Pe
open Go
noncomputable section

/-- What a code ends in. -/
inductive R1 where
  | fail
  | norm (t : FO) (ds : List (Option ADef)) (σ : AW)
  | exit (id : Nat) (t : FO) (ds : List (Option ADef)) (σ : AW)
  | goto (l : Nat) (t : FO) (ds : List (Option ADef)) (σ : AW)
  | ret (t : FO) (ds : List (Option ADef)) (σ : AW)
inductive C1 where
  | fail
  | one (v : AV) (σ : AW)

abbrev CallF := AV → List AV → AW → C1
structure K where
  run : CallF → FO → List (Option ADef) → AW → R1
structure KC where
  run : CallF → List AV → AW → C1
structure LF where
  get : FO → List AV
structure TF where
  run : FO → Tr AV
structure BF where
  run : IntKind → Int → Int → AV

/-! ### Lists, cells -/
def nthF {α : Type} (l : List α) : Nat → Option α := List.rec (motive := fun _ => Nat → Option α) (fun _ => none) (fun x _ ih n => Nat.rec (motive := fun _ => Option α) (some x) (fun m _ => ih m) n) l
def lenF {α : Type} (l : List α) : Nat := List.rec (motive := fun _ => Nat) 0 (fun _ _ ih => Nat.succ ih) l
def appF {α : Type} (l m : List α) : List α := List.rec (motive := fun _ => List α) m (fun v _ ih => v :: ih) l
def cellF (z : List AV) (t : Tr AV) (i : Nat) : Option AV := Option.rec (motive := fun _ => Option AV) (nthF z (Nat.mod i (lenF z))) (fun v => some v) (t.get i)
def cellsF (z : List AV) (t : Tr AV) (k : Nat) : Nat → Option (List AV) :=
  Nat.rec (motive := fun _ => Nat → Option (List AV)) (fun _ => some []) (fun _ ih i => Option.rec (motive := fun _ => Option (List AV)) none (fun v => Option.rec (motive := fun _ => Option (List AV)) none (fun vs => some (v :: vs)) (ih (Nat.succ i))) (cellF z t i)) k
def bytesF (l : List AV) : Option (List UInt8) := List.rec (motive := fun _ => Option (List UInt8)) (some []) (fun v _ ih => AV.onInt none (fun k n => IntKind.casesOn (motive := fun _ => Option (List UInt8)) k none none none none (Option.rec (motive := fun _ => Option (List UInt8)) none (fun s => some (UInt8.ofNat n.toNat :: s)) ih) none none none) v) l
def beqF (a : List UInt8) : List UInt8 → Bool := List.rec (motive := fun _ => List UInt8 → Bool) (fun b => List.rec (motive := fun _ => Bool) true (fun _ _ _ => false) b)
  (fun x _ ih b => List.rec (motive := fun _ => Bool) false (fun y ys _ => Bool.rec (motive := fun _ => Bool) false (ih ys) (Nat.beq x.toNat y.toNat)) b) a
def AO.onCells {β : Type} (d : β) (f : Nat → List AV → Tr AV → TypeId → Nat → Bool → β) (o : AO) : β :=
  AO.rec (motive := fun _ => β) f d (fun _ _ => d) (fun _ _ => d) (fun _ _ => d) (fun _ _ _ _ _ _ _ => d) o
def heapF (σ : AW) : Tr AO := AW.rec (motive := fun _ => Tr AO) (fun h _ _ => h) σ

/-- Worked out before it is handed on. -/
def forceNat {α : Type} (n : Nat) (k : Nat → α) : α := Nat.rec (motive := fun _ => α) (k 0) (fun m _ => k (Nat.succ m)) n
def normW (σ : AW) : AW := AW.rec (motive := fun _ => AW) (fun h n lo => forceNat n fun n => forceNat lo fun lo => AW.mk h n lo) σ
theorem forceNat_eq {α : Type} (n : Nat) (k : Nat → α) : forceNat n k = k n := by cases n <;> rfl
theorem normW_eq (σ : AW) : normW σ = σ := by
  obtain ⟨h, n, lo⟩ := σ
  show (forceNat n fun n => forceNat lo fun lo => AW.mk h n lo) = AW.mk h n lo
  rw [forceNat_eq, forceNat_eq]

/-! ### Numbers -/
def limI (k : IntKind) : Nat := if k.signed then 2 ^ (k.bits - 1) else 2 ^ k.bits
def wrapF (k : IntKind) (n : Int) : Int :=
  Int.rec (motive := fun _ => Int) (fun m => Bool.rec (motive := fun _ => Int) (k.wrap n) n (Nat.blt m (limI k))) (fun _ => k.wrap n) n
def ltF (a b : Int) : Bool :=
  Int.rec (motive := fun _ => Bool) (fun m => Int.rec (motive := fun _ => Bool) (fun n => Nat.blt m n) (fun _ => false) b) (fun m => Int.rec (motive := fun _ => Bool) (fun _ => true) (fun n => Nat.blt n m) b) a
def eqF (a b : Int) : Bool :=
  Int.rec (motive := fun _ => Bool) (fun m => Int.rec (motive := fun _ => Bool) (fun n => Nat.beq m n) (fun _ => false) b) (fun m => Int.rec (motive := fun _ => Bool) (fun _ => false) (fun n => Nat.beq n m) b) a
def addF (a b : Int) : Int :=
  Int.rec (motive := fun _ => Int) (fun m => Int.rec (motive := fun _ => Int) (fun n => .ofNat (Nat.add m n)) (fun _ => Int.add a b) b) (fun _ => Int.add a b) a
def binF (op : BinOp) : Option BF :=
  match op with
  | .add => some ⟨fun k a b => .int k (wrapF k (addF a b))⟩
  | .sub => some ⟨fun k a b => .int k (wrapF k (Int.sub a b))⟩
  | .eql => some ⟨fun _ a b => .bool (eqF a b)⟩
  | .neq => some ⟨fun _ a b => .bool (Bool.rec (motive := fun _ => Bool) true false (eqF a b))⟩
  | .lss => some ⟨fun _ a b => .bool (ltF a b)⟩
  | .leq => some ⟨fun _ a b => .bool (Bool.rec (motive := fun _ => Bool) true false (ltF b a))⟩
  | .gtr => some ⟨fun _ a b => .bool (ltF b a)⟩
  | .geq => some ⟨fun _ a b => .bool (Bool.rec (motive := fun _ => Bool) true false (ltF a b))⟩
  | _ => none
/-- Equal or not, of texts. -/
def strOp (op : BinOp) : Option Bool := match op with | .eql => some true | .neq => some false | _ => none

/-! ### Operands -/
def opF (nt : Nat) (x : Operand) : Option GF :=
  match x with
  | .tmp t => if t.blt nt then some (getF t) else none
  | .const v => match emb v with
    | some v => some ⟨fun _ => v⟩
    | none => none
  | .global _ => none
  | .func f => some ⟨fun _ => .func f [] []⟩
def opsF (nt : Nat) : List Operand → Option LF
  | [] => some ⟨fun _ => []⟩
  | x :: xs => match opF nt x, opsF nt xs with
    | some f, some g => some ⟨fun t => GF.get f t :: LF.get g t⟩
    | _, _ => none
def tmpsOf (o : Oper) : List Tmp := o.op.operands.toList.filterMap fun | .tmp t => some t | _ => none
/-- A small frame: these temporaries alone. -/
def someF : List Tmp → TF
  | [] => ⟨fun _ => .nil⟩
  | x :: xs => let r := someF xs; let g := getF x; ⟨fun t => Tr.set (GF.get g t) (TF.run r t) x⟩
/-- Where it may write. -/
def dstF (nt : Nat) (o : Oper) : Bool := match o.dst with | some d => d.blt nt | none => true

/-! ### Parts of a text -/
def takeE (n : Nat) : List UInt8 → Option (List UInt8) :=
  Nat.rec (motive := fun _ => List UInt8 → Option (List UInt8)) (fun _ => some []) (fun _ ih l => List.rec (motive := fun _ => Option (List UInt8)) none (fun x xs _ => Option.rec (motive := fun _ => Option (List UInt8)) none (fun r => some (x :: r)) (ih xs)) l) n
def dropE (n : Nat) : List UInt8 → Option (List UInt8) :=
  Nat.rec (motive := fun _ => List UInt8 → Option (List UInt8)) (fun l => some l) (fun _ ih l => List.rec (motive := fun _ => Option (List UInt8)) none (fun _ xs _ => ih xs) l) n
def opO (nt : Nat) : Option Operand → Option (Option GF)
  | none => some none
  | some x => match opF nt x with
    | some g => some (some g)
    | none => none
def endF (cut : Nat → List UInt8 → Option (List UInt8)) (g : Option GF) (t : FO) (s : List UInt8) (k : List UInt8 → R1) : R1 :=
  Option.rec (motive := fun _ => R1) (k s) (fun g => AV.onInt .fail (fun _ h => Int.rec (motive := fun _ => R1) (fun h => Option.rec (motive := fun _ => R1) .fail k (cut h s)) (fun _ => .fail) h) (GF.get g t)) g

/-! ### One operation; the rest is k -/
def exitF (C : Cfg) (rnd : Bool) (p : SF) (k : K) (cal : CallF) (t : FO) (ds : List (Option ADef)) (σ : AW) (act : Option Act1) : R1 :=
  match act with
  | some (.val v) => K.run k cal (SF.set p v t) ds σ
  | some (.rd r) => match rdVal C.P σ r with
    | some v => K.run k cal (SF.set p v t) ds σ
    | none => .fail
  | some (.mk obj sl mp) => K.run k cal (SF.set p (mkVal sl mp σ.next) t) ds (normW (σ.new obj))
  | some (.eff e) => match effRun C.P σ e with
    | some (v, σ') => K.run k cal (SF.set p v t) ds (normW σ')
    | none => .fail
  | some (.call fv xs) => match cal fv xs σ with
    | .one v σ' => K.run k cal (SF.set p v t) ds σ'
    | .fail => .fail
  | some (.dfr d) => if rnd then .fail else K.run k cal (SF.set p (.tup []) t) (some d :: ds) σ
  | some (.rngM m) => match σ.heap.get m with
    | some (.map _ ver) => K.run k cal (SF.set p (.ptr σ.next 0) t) ds (normW (σ.new (.miter (some (m, ver)) [])))
    | _ => .fail
  | some (.nextM it) => match choicesM σ it with
    | some [vs] => K.run k cal (SF.set p vs.1 t) ds (normW vs.2)
    | _ => .fail
  | _ => .fail

def slowF (C : Cfg) (nt : Nat) (rnd : Bool) (o : Oper) (k : K) : K :=
  if (tmpsOf o).all fun t => t.blt nt then
    let c := clsF C.P o
    let s := someF (tmpsOf o)
    let p := putF o.dst
    ⟨fun cal t ds σ => exitF C rnd p k cal t ds σ (CF.run c (Fr.mk 0 (TF.run s t) [] false))⟩
  else ⟨fun _ _ _ _ => .fail⟩

def valF (p : SF) (f : GF) (k : K) : K := ⟨fun cal t ds σ => K.run k cal (SF.set p (GF.get f t) t) ds σ⟩

def oneCellT (P : Program) (t : TypeId) : Option Bool :=
  match P.underlying t with
  | none => none
  | some _ => if P.cellsOf t = 0 then none else some (isAggT P t)

/-- The operations that come up most. -/
def actF (C : Cfg) (nt : Nat) (rnd : Bool) (o : Oper) (k : K) : K :=
  let p := putF o.dst
  let sl := slowF C nt rnd o k
  match o.op with
  | .move x | .assign x => match opF nt x with
    | some f => valF p f k
    | none => sl
  | .extract x i => match opF nt x with
    | some f => ⟨fun cal t ds σ => AV.onTup .fail (fun l => Option.rec (motive := fun _ => R1) .fail (fun v => K.run k cal (SF.set p v t) ds σ) (nthF l i)) (GF.get f t)⟩
    | none => sl
  | .pick c a b => match opF nt c, opF nt a, opF nt b with
    | some c, some f, some g => ⟨fun cal t ds σ => AV.onBool .fail (fun b => K.run k cal (SF.set p (Bool.rec (motive := fun _ => AV) (GF.get g t) (GF.get f t) b) t) ds σ) (GF.get c t)⟩
    | _, _, _ => sl
  | .unOp .not _ x => match opF nt x with
    | some f => ⟨fun cal t ds σ => AV.onBool .fail (fun b => K.run k cal (SF.set p (.bool (Bool.rec (motive := fun _ => Bool) true false b)) t) ds σ) (GF.get f t)⟩
    | none => sl
  | .binOp op _ x y _ => match opF nt x, opF nt y, binF op with
    | some f, some g, some h => match strOp op with
      | none => ⟨fun cal t ds σ => AV.onInt (K.run sl cal t ds σ) (fun ka a => AV.onInt .fail (fun kb b => Bool.rec (motive := fun _ => R1) .fail (K.run k cal (SF.set p (BF.run h ka a b) t) ds σ) (Nat.beq ka.ctorIdx kb.ctorIdx)) (GF.get g t)) (GF.get f t)⟩
      | some e => ⟨fun cal t ds σ => AV.onInt (AV.onStr (K.run sl cal t ds σ) (fun a => AV.onStr .fail (fun b => K.run k cal (SF.set p (.bool (Bool.rec (motive := fun _ => Bool) (Bool.rec (motive := fun _ => Bool) true false e) e (beqF a b))) t) ds σ) (GF.get g t)) (GF.get f t))
          (fun ka a => AV.onInt .fail (fun kb b => Bool.rec (motive := fun _ => R1) .fail (K.run k cal (SF.set p (BF.run h ka a b) t) ds σ) (Nat.beq ka.ctorIdx kb.ctorIdx)) (GF.get g t)) (GF.get f t)⟩
    | _, _, _ => sl
  | .nilCheck x => match opF nt x with
    | some f => ⟨fun cal t ds σ => AV.onPtr (K.run sl cal t ds σ) (fun a b => K.run k cal (SF.set p (.ptr a b) t) ds σ) (GF.get f t)⟩
    | none => sl
  | .fieldAddr s x i => match C.P.underlying s, opF nt x with
    | some (.struct fs), some f => match fs[i]? with
      | some fl =>
        let off := fl.offset
        if C.P.cellsOf fl.type = 0 then ⟨fun _ _ _ _ => .fail⟩ else
        ⟨fun cal t ds σ => AV.onPtr .fail (fun a b => K.run k cal (SF.set p (.ptr a (Nat.add b off)) t) ds σ) (GF.get f t)⟩
      | none => ⟨fun _ _ _ _ => .fail⟩
    | _, _ => sl
  | .indexAddr s x i => match C.P.underlying s, opF nt x, opF nt i with
    | some (.array n e), some f, some g =>
      let m := C.P.cellsOf e
      if m = 0 then ⟨fun _ _ _ _ => .fail⟩ else
      ⟨fun cal t ds σ => AV.onPtr .fail (fun a b => AV.onInt .fail (fun _ j => Int.rec (motive := fun _ => R1) (fun j => Bool.rec (motive := fun _ => R1) .fail (K.run k cal (SF.set p (.ptr a (Nat.add b (Nat.mul j m))) t) ds σ) (Nat.blt j n)) (fun _ => .fail) j) (GF.get g t)) (GF.get f t)⟩
    | some (.slice e), some f, some g =>
      let m := C.P.cellsOf e
      if m = 0 then ⟨fun _ _ _ _ => .fail⟩ else
      ⟨fun cal t ds σ => AV.onSl .fail (fun a b n _ => AV.onInt .fail (fun _ j => Int.rec (motive := fun _ => R1) (fun j => Bool.rec (motive := fun _ => R1) .fail (K.run k cal (SF.set p (.ptr a (Nat.add b (Nat.mul j m))) t) ds σ) (Nat.blt j n)) (fun _ => .fail) j) (GF.get g t)) (GF.get f t)⟩
    | _, _, _ => sl
  | .load ty a => match oneCellT C.P ty, opF nt a with
    | some false, some f =>
      ⟨fun cal t ds σ => AV.onPtr .fail (fun a b => Option.rec (motive := fun _ => R1) .fail (AO.onCells .fail
        (fun m z tr _ _ _ => Bool.rec (motive := fun _ => R1) .fail (Option.rec (motive := fun _ => R1) .fail (fun v => K.run k cal (SF.set p v t) ds σ) (cellF z tr b)) (Nat.blt b m))) ((heapF σ).get a)) (GF.get f t)⟩
    | some true, some f =>
      let m := C.P.cellsOf ty
      ⟨fun cal t ds σ => AV.onPtr .fail (fun a b => Option.rec (motive := fun _ => R1) .fail (AO.onCells .fail
        (fun q z tr _ _ _ => Bool.rec (motive := fun _ => R1) .fail (Option.rec (motive := fun _ => R1) .fail (fun v => K.run k cal (SF.set p (.agg v) t) ds σ) (cellsF z tr m b)) (Nat.ble (Nat.add b m) q))) ((heapF σ).get a)) (GF.get f t)⟩
    | _, _ => sl
  | .store ty a v => match oneCellT C.P ty, opF nt a, opF nt v with
    | some false, some f, some g =>
      if C.P.cellsOf ty = 1 then
      ⟨fun cal t ds σ => AV.onPtr .fail (fun a b => Option.rec (motive := fun _ => R1) .fail (AO.onCells .fail
        (fun m z tr e fz wh => Bool.rec (motive := fun _ => R1) .fail (Bool.rec (motive := fun _ => R1) .fail (Bool.rec (motive := fun _ => R1) .fail (AW.rec (motive := fun _ => R1) (fun h n lo => Bool.rec (motive := fun _ => R1) (K.run k cal (SF.set p (.tup []) t) ds (AW.mk (Tr.set (.cells m z (Tr.set (GF.get g t) tr b) e fz wh) h a) n lo)) (K.run k cal (SF.set p (.tup []) t) ds (AW.mk (Tr.set (.cells m z (Tr.set (GF.get g t) tr b) e fz wh) h a) n a)) (Nat.blt a lo)) σ)
          (AV.isCell (GF.get g t))) (Nat.ble fz b)) (Nat.blt b m))) ((heapF σ).get a)) (GF.get f t)⟩
      else sl
    | _, _, _ => sl
  | .convert s d x => match C.P.underlying s, C.P.underlying d, opF nt x with
    | some (.slice e), some .string, some f => match C.P.underlying e with
      | some (.int .u8) => ⟨fun cal t ds σ => AV.onSl (K.run sl cal t ds σ) (fun id off n _ => Option.rec (motive := fun _ => R1) .fail (AO.onCells .fail
          (fun q z tr _ _ _ => Bool.rec (motive := fun _ => R1) .fail (Option.rec (motive := fun _ => R1) .fail (fun l => Option.rec (motive := fun _ => R1) .fail (fun s => K.run k cal (SF.set p (.str s) t) ds σ) (bytesF l)) (cellsF z tr n off)) (Nat.ble (Nat.add off n) q))) ((heapF σ).get id)) (GF.get f t)⟩
      | _ => sl
    | _, _, _ => sl
  | .slice ty x lo hi none => match C.P.underlying ty, opF nt x, opO nt lo, opO nt hi with
    | some .string, some f, some lo, some hi => ⟨fun cal t ds σ => AV.onStr (K.run sl cal t ds σ) (fun s => endF takeE hi t s fun s => endF dropE lo t s fun s => K.run k cal (SF.set p (.str s) t) ds σ) (GF.get f t)⟩
    | _, _, _, _ => sl
  | .call c => match c.callee, opsF nt c.args.toList with
    | .value g, some xs => match opF nt g with
      | some g => ⟨fun cal t ds σ => AV.onFunc (AV.onYield .fail (fun l => C1.rec (motive := fun _ => R1) .fail (fun v σ' => K.run k cal (SF.set p v t) ds σ') (cal (.yield l) (LF.get xs t) σ)) (GF.get g t))
          (fun f a c => C1.rec (motive := fun _ => R1) .fail (fun v σ' => K.run k cal (SF.set p v t) ds σ') (cal (.func f [] []) (appF (appF a (LF.get xs t)) c) σ)) (GF.get g t)⟩
      | none => sl
    | .builtin .len, some xs => match c.args.toList, C.P.underlying (c.argTypes.getD 0 0) with
      | [_], some (.slice _) => if c.argTypes.size.beq 1 then ⟨fun cal t ds σ => Option.rec (motive := fun _ => R1) .fail (fun x => AV.onSl (K.run sl cal t ds σ) (fun _ _ n _ => K.run k cal (SF.set p (.int .i64 (.ofNat n)) t) ds σ) x) (nthF (LF.get xs t) 0)⟩ else sl
      | [_], some .string => if c.argTypes.size.beq 1 then ⟨fun cal t ds σ => Option.rec (motive := fun _ => R1) .fail (fun x => AV.onStr (K.run sl cal t ds σ) (fun s => K.run k cal (SF.set p (.int .i64 (.ofNat (lenF s))) t) ds σ) x) (nthF (LF.get xs t) 0)⟩ else sl
      | _, _ => sl
    | _, _ => sl
  | _ => sl

/-- An operation with its guard. -/
def operF (C : Cfg) (nt : Nat) (rnd : Bool) (ops : Array Oper) (o : Oper) (k : K) : K :=
  if dstF nt o then
    let act := actF C nt rnd o k
    let skip := valF (putF o.dst) ⟨fun _ => .tup []⟩ k
    match o.guard with
    | none => act
    | some (j, b) => match (ops[j]?).bind (·.dst) with
      | none => skip
      | some d => if d.blt nt then
          let q := getF d
          ⟨fun cal t ds σ => AV.onBool (AV.onTup .fail (fun l => List.rec (motive := fun _ => R1) (K.run skip cal t ds σ) (fun _ _ _ => .fail) l) (GF.get q t)) (fun c => Bool.rec (motive := fun _ => R1) (Bool.rec (motive := fun _ => R1) (K.run act cal t ds σ) (K.run skip cal t ds σ) b) (Bool.rec (motive := fun _ => R1) (K.run skip cal t ds σ) (K.run act cal t ds σ) b) c) (GF.get q t)⟩
        else ⟨fun _ _ _ _ => .fail⟩
  else ⟨fun _ _ _ _ => .fail⟩

def stOps (C : Cfg) (nt : Nat) (rnd : Bool) (ops : Array Oper) (os : List Oper) : K :=
  List.rec (motive := fun _ => K) ⟨fun _ t ds σ => .norm t ds σ⟩ (fun o _ ih => operF C nt rnd ops o ih) os

end
end Pe

/- The quicker evaluator is right: frames, operands, single operations. -/
namespace Pe
open Go

/-! ### The quick functions are the slow ones -/
theorem nthF_eq {α : Type} : ∀ (l : List α) (i : Nat), nthF l i = l[i]?
  | [], i => by cases i <;> rfl
  | x :: l, 0 => rfl
  | x :: l, i + 1 => by show nthF l i = _; rw [nthF_eq l i]; rfl
theorem lenF_eq {α : Type} : ∀ (l : List α), lenF l = l.length
  | [] => rfl
  | x :: l => by show Nat.succ (lenF l) = _; rw [lenF_eq l]; rfl
theorem appF_eq {α : Type} : ∀ (l m : List α), appF l m = l ++ m
  | [], m => rfl
  | x :: l, m => by show x :: appF l m = _; rw [appF_eq l m]; rfl
theorem cellF_eq (z : List AV) (t : Tr AV) (i : Nat) : cellF z t i = cellAt z t i := by
  unfold cellF cellAt
  cases h : t.get i with
  | none => simp only []; rw [nthF_eq, lenF_eq]; rfl
  | some v => rfl
theorem cellsF_eq (z : List AV) (t : Tr AV) : ∀ (k i : Nat), cellsF z t k i = cellsFrom z t i k
  | 0, i => rfl
  | k + 1, i => by
    show Option.rec (motive := fun _ => Option (List AV)) none (fun v => Option.rec (motive := fun _ => Option (List AV)) none (fun vs => some (v :: vs)) (cellsF z t k (Nat.succ i))) (cellF z t i) = _
    rw [cellsFrom, cellF_eq, cellsF_eq z t k (Nat.succ i)]
    cases cellAt z t i with
    | none => rfl
    | some v => cases cellsFrom z t (i + 1) k <;> rfl
theorem bytesF_eq : ∀ (l : List AV) (s : List UInt8), bytesF l = some s → bytesOf l = some s
  | [], s, h => h
  | v :: l, s, h => by
    have h' : AV.onInt none (fun k n => IntKind.casesOn (motive := fun _ => Option (List UInt8)) k none none none none (Option.rec (motive := fun _ => Option (List UInt8)) none (fun s => some (UInt8.ofNat n.toNat :: s)) (bytesF l)) none none none) v = some s := h
    rcases AV.onInt_eq h' with ⟨h1, _⟩ | ⟨k, n, rfl, h1⟩
    · cases h1
    · cases k <;> simp only [reduceCtorEq] at h1
      cases hb : bytesF l with
      | none => rw [hb] at h1; cases h1
      | some s' =>
        rw [hb] at h1
        simp only [Option.some.injEq] at h1
        subst h1
        simp only [bytesOf, bytesF_eq l s' hb, Option.map_some]
theorem beqF_eq : ∀ (a b : List UInt8), beqF a b = beqBytes a b
  | [], [] => rfl
  | [], _ :: _ => rfl
  | _ :: _, [] => rfl
  | x :: a, y :: b => by
    show Bool.rec (motive := fun _ => Bool) false (beqF a b) (Nat.beq x.toNat y.toNat) = _
    rw [beqF_eq a b, beqBytes]
    show _ = if Nat.beq x.toNat y.toNat = true then beqBytes a b else false
    cases Nat.beq x.toNat y.toNat <;> rfl
theorem heapF_eq (σ : AW) : heapF σ = σ.heap := rfl

theorem ltF_eq (a b : Int) : ltF a b = decide (a < b) := by
  cases a with
  | ofNat m =>
    cases b with
    | ofNat n =>
      show Nat.blt m n = _
      rw [Bool.eq_iff_iff, decide_eq_true_eq]
      show Nat.ble (m + 1) n = true ↔ (m : Int) < (n : Int)
      rw [Nat.ble_eq]; omega
    | negSucc n => exact (decide_eq_false (by simp only [Int.ofNat_eq_natCast]; omega)).symm
  | negSucc m =>
    cases b with
    | ofNat n => exact (decide_eq_true (by simp only [Int.ofNat_eq_natCast]; omega)).symm
    | negSucc n =>
      show Nat.blt n m = _
      rw [Bool.eq_iff_iff, decide_eq_true_eq]
      show Nat.ble (n + 1) m = true ↔ _
      rw [Nat.ble_eq]; omega
theorem eqF_eq (a b : Int) : eqF a b = (a == b) := by
  cases a with
  | ofNat m =>
    cases b with
    | ofNat n =>
      show Nat.beq m n = _
      rw [Bool.eq_iff_iff, beq_iff_eq]
      show Nat.beq m n = true ↔ (m : Int) = (n : Int)
      rw [Nat.beq_eq]; omega
    | negSucc n => exact (beq_eq_false_iff_ne.2 (by simp only [Int.ofNat_eq_natCast, ne_eq]; omega)).symm
  | negSucc m =>
    cases b with
    | ofNat n => exact (beq_eq_false_iff_ne.2 (by simp only [Int.ofNat_eq_natCast, ne_eq]; omega)).symm
    | negSucc n =>
      show Nat.beq n m = _
      rw [Bool.eq_iff_iff, beq_iff_eq]
      rw [Nat.beq_eq]; omega
theorem addF_eq (a b : Int) : addF a b = a + b := by
  cases a <;> cases b <;> rfl
theorem wrapF_eq (k : IntKind) (n : Int) : wrapF k n = k.wrap n := by
  cases n with
  | negSucc m => rfl
  | ofNat m =>
    show Bool.rec (motive := fun _ => Int) (k.wrap (.ofNat m)) (.ofNat m) (Nat.blt m (limI k)) = _
    cases hb : Nat.blt m (limI k) with
    | false => rfl
    | true =>
      have hlt : m < limI k := Nat.le_of_ble_eq_true hb
      show (Int.ofNat m) = k.wrap (Int.ofNat m)
      simp only [Int.ofNat_eq_natCast]
      unfold limI at hlt
      unfold IntKind.wrap
      have hbits : k.bits ≠ 0 := by cases k <;> decide
      have hpow : (2 : Nat) ^ k.bits = 2 ^ (k.bits - 1) * 2 := by rw [← Nat.pow_succ]; congr 1; omega
      have h1 : m < 2 ^ k.bits := by
        split at hlt
        · rw [hpow]; omega
        · exact hlt
      have h2 : ((m : Int) % (2 ^ k.bits : Int)) = m := by
        apply Int.emod_eq_of_lt
        · omega
        · have : ((2 ^ k.bits : Nat) : Int) = (2 : Int) ^ k.bits := by simp
          rw [← this]; omega
      rw [h2]
      simp only
      by_cases hs : k.signed = true
      · rw [if_pos hs] at hlt
        rw [if_neg]
        intro hh
        simp only [hs, Bool.true_and, decide_eq_true_eq] at hh
        have : ((2 ^ (k.bits - 1) : Nat) : Int) = (2 : Int) ^ (k.bits - 1) := by simp
        rw [← this] at hh; omega
      · rw [if_neg]
        intro hh
        simp only [Bool.and_eq_true] at hh
        exact hs hh.1
theorem binF_ok {op : BinOp} {h : BF} (ho : binF op = some h) {ka kb : IntKind} (hk : ka = kb) (P : Program) (ty : TypeId) (a b : Int) : bin P op ty (.int ka a) (.int kb b) = some (h.run ka a b) := by
  subst hk
  have e : bin P op ty (.int ka a) (.int ka b) = binInt op ka a b := by simp [bin]
  rw [e]
  cases op <;> simp only [binF, Option.some.injEq, reduceCtorEq] at ho <;> subst ho <;> simp only [binInt, wrapF_eq, addF_eq, eqF_eq, ltF_eq]
  · rfl
  · show _ = some (AV.bool (Bool.rec true false (a == b)))
    congr 2
    show (!(a == b)) = _
    cases a == b <;> rfl
  · congr 2
    by_cases hh : b < a
    · rw [decide_eq_true hh, decide_eq_false (by omega)]
    · rw [decide_eq_false hh, decide_eq_true (by omega)]
  · congr 2
    by_cases hh : a < b
    · rw [decide_eq_true hh, decide_eq_false (by omega)]
    · rw [decide_eq_false hh, decide_eq_true (by omega)]

end Pe

/- The quicker evaluator is right: frames and operations. -/
namespace Pe
open Go

structure FrEq (nt : Nat) (rnd : Bool) (t : FO) (ds : List (Option ADef)) (fr : Fr) : Prop where
  le : nt ≤ 256
  num : fr.nt = nt
  defs : fr.defers = ds
  rnd : fr.rnd = rnd
  val : ∀ i, i < nt → fr.get i = GF.get (getF i) t

section
variable {C : Cfg} {nt : Nat} {rnd : Bool} {t : FO} {ds : List (Option ADef)} {fr : Fr} {o : Oper} {k : K} {cal : CallF} {σ : AW}

theorem opF_ok (hf : FrEq nt rnd t ds fr) {x : Operand} {f : GF} (h : opF nt x = some f) : fr.eval x = some (GF.get f t) := by
  cases x with
  | tmp i =>
    simp only [opF] at h
    split at h
    · rename_i hi
      cases h
      simp only [Fr.eval, hf.val i (Nat.le_of_ble_eq_true hi)]
    · cases h
  | const v =>
    simp only [opF] at h
    split at h
    · rename_i u hu; cases h; simp only [Fr.eval, hu]
    · cases h
  | global g => cases h
  | func f => cases h; rfl

theorem opsF_ok (hf : FrEq nt rnd t ds fr) : ∀ {l : List Operand} {f : LF}, opsF nt l = some f → fr.evals l = some (LF.get f t)
  | [], f, h => by cases h; rfl
  | x :: l, f, h => by
    simp only [opsF] at h
    split at h
    · rename_i g1 g2 h1 h2
      cases h
      simp only [Fr.evals, opF_ok hf h1, opsF_ok hf h2]
    · cases h

theorem someF_get (t : FO) : ∀ (l : List Tmp) (x : Tmp), x ∈ l → (TF.run (someF l) t).get x = some (GF.get (getF x) t)
  | [], x, h => by cases h
  | y :: l, x, h => by
    show (Tr.set (GF.get (getF y) t) (TF.run (someF l) t) y).get x = _
    rw [Tr.get_set]
    by_cases e : x = y
    · rw [if_pos e, e]
    · rw [if_neg e]
      rcases List.mem_cons.1 h with h | h
      · exact (e h).elim
      · exact someF_get t l x h

theorem small_eval (hf : FrEq nt rnd t ds fr) (ho : (tmpsOf o).all (fun t => t.blt nt) = true) : ∀ x ∈ o.op.operands, (Fr.mk 0 (TF.run (someF (tmpsOf o)) t) [] false).eval x = fr.eval x := by
  intro x hx
  cases x with
  | tmp i =>
    have hi : i ∈ tmpsOf o := by
      unfold tmpsOf
      simp only [List.mem_filterMap]
      exact ⟨.tmp i, by simpa using hx, rfl⟩
    have hlt : i < nt := Nat.le_of_ble_eq_true (List.all_eq_true.1 ho i hi)
    simp only [Fr.eval, Option.some.injEq]
    rw [hf.val i hlt]
    unfold Fr.get
    simp only
    rw [someF_get t _ i hi]
  | const v => rfl
  | global g => rfl
  | func f => rfl

theorem FrEq.put (hf : FrEq nt rnd t ds fr) (hd : dstF nt o = true) (v : AV) (ds' : List (Option ADef)) : FrEq nt rnd (SF.set (putF o.dst) v t) ds' { fr.put o.dst v with defers := ds' } := by
  unfold dstF at hd
  cases ho : o.dst with
  | none => exact ⟨hf.le, hf.num, rfl, hf.rnd, hf.val⟩
  | some d =>
    rw [ho] at hd
    have hlt : d < nt := Nat.le_of_ble_eq_true hd
    refine ⟨hf.le, hf.num, rfl, hf.rnd, fun i hi => ?_⟩
    rw [get_put_F (Nat.lt_of_lt_of_le hi hf.le) (Nat.lt_of_lt_of_le hlt hf.le)]
    have : ({ fr.put (some d) v with defers := ds' } : Fr).get i = (fr.put (some d) v).get i := rfl
    rw [this, put_get]
    by_cases e : i = d
    · rw [if_pos (by rw [e]), if_pos e]
    · rw [if_neg (by intro h; cases h; exact e rfl), if_neg e]; exact hf.val i hi

theorem dstF_ok (hf : FrEq nt rnd t ds fr) (hd : dstF nt o = true) : dstOk fr o = true := by
  unfold dstF at hd
  unfold dstOk
  rw [hf.num]
  cases ho : o.dst with
  | none => rfl
  | some d => rw [ho] at hd; exact hd

/-- The calls that are handed in are right. -/
def CalOk (C : Cfg) (cal : CallF) : Prop := ∀ fv xs σ v σ', cal fv xs σ = .one v σ' → EvCall C fv xs σ v σ'

/-- Where it goes on from. -/
def On (C : Cfg) (fr : Fr) (o : Oper) (σ : AW) (t : FO) (k : K) (cal : CallF) (r : R1) : Prop :=
  ∃ v σ' ds', Step C fr o σ v σ' ds' ∧ K.run k cal (SF.set (putF o.dst) v t) ds' σ' = r

theorem exitF_ok (hc : CalOk C cal) (hf : FrEq nt rnd t ds fr) {act : Option Act1} {r : R1} (ha : cls C.P fr o = act) (h : exitF C rnd (putF o.dst) k cal t ds σ act = r) (hr : r ≠ .fail) : On C fr o σ t k cal r := by
  have hds := hf.defs
  subst hds
  unfold exitF at h
  simp only [normW_eq] at h
  split at h
  · exact ⟨_, _, _, .val ha, h⟩
  · rename_i rd
    split at h
    · rename_i v hv; exact ⟨_, _, _, .rd ha hv, h⟩
    · exact (hr h.symm).elim
  · exact ⟨_, _, _, .mk ha, h⟩
  · split at h
    · rename_i v σ' hv; exact ⟨_, _, _, .eff ha hv, h⟩
    · exact (hr h.symm).elim
  · split at h
    · rename_i v σ' hv; exact ⟨_, _, _, .call ha (hc _ _ _ _ _ hv), h⟩
    · exact (hr h.symm).elim
  · split at h
    · exact (hr h.symm).elim
    · rename_i hrn
      exact ⟨_, _, _, .dfr ha (by rw [hf.rnd]; simpa using hrn), h⟩
  · split at h
    · rename_i es ver hm; exact ⟨_, _, _, .rngM ha hm, h⟩
    · exact (hr h.symm).elim
  · split at h
    · rename_i vs hv; exact ⟨_, _, _, .nextM ha (by rw [hv]), h⟩
    · exact (hr h.symm).elim
  · exact (hr h.symm).elim

theorem slowF_ok (hc : CalOk C cal) (hf : FrEq nt rnd t ds fr) {r : R1} (h : K.run (slowF C nt rnd o k) cal t ds σ = r) (hr : r ≠ .fail) : On C fr o σ t k cal r := by
  unfold slowF at h
  split at h
  · rename_i hall
    refine exitF_ok hc hf (o := o) (act := (clsF C.P o).run (Fr.mk 0 (TF.run (someF (tmpsOf o)) t) [] false)) ?_ h hr
    rw [clsF_eq]
    exact (cls_congr (small_eval hf hall)).symm
  · exact (hr h.symm).elim

theorem val_on {v : AV} {r : R1} (hf : FrEq nt rnd t ds fr) (hv : cls C.P fr o = some (.val v)) (h : K.run k cal (SF.set (putF o.dst) v t) ds σ = r) : On C fr o σ t k cal r := by
  rw [← hf.defs] at h
  exact ⟨_, _, _, .val hv, h⟩

theorem optRec {α β : Type} {d : β} {f : α → β} {x : Option α} {r : β} (h : Option.rec (motive := fun _ => β) d f x = r) (hd : d ≠ r) : ∃ y, x = some y ∧ f y = r := by
  cases x with
  | none => exact (hd h).elim
  | some y => exact ⟨y, rfl, h⟩
theorem boolRec {β : Type} {d e : β} {x : Bool} {r : β} (h : Bool.rec (motive := fun _ => β) d e x = r) (hd : d ≠ r) : x = true ∧ e = r := by
  cases x with
  | false => exact (hd h).elim
  | true => exact ⟨rfl, h⟩
theorem onCells {β : Type} {d : β} {f : Nat → List AV → Tr AV → TypeId → Nat → Bool → β} {x : AO} {r : β} (h : AO.onCells d f x = r) (hd : d ≠ r) : ∃ n z t e fz wh, x = .cells n z t e fz wh ∧ f n z t e fz wh = r := by
  cases x with
  | cells n z t e fz wh => exact ⟨n, z, t, e, fz, wh, rfl, h⟩
  | _ => exact (hd h).elim
theorem c1Rec {β : Type} {d : β} {f : AV → AW → β} {x : C1} {r : β} (h : C1.rec (motive := fun _ => β) d f x = r) (hd : d ≠ r) : ∃ v σ, x = .one v σ ∧ f v σ = r := by
  cases x with
  | fail => exact (hd h).elim
  | one v σ => exact ⟨v, σ, rfl, h⟩
theorem onTup {β : Type} {d : β} {f : List AV → β} {x : AV} {r : β} (h : AV.onTup d f x = r) (hd : d ≠ r) : ∃ l, x = .tup l ∧ f l = r := (AV.onTup_eq h).resolve_left fun hh => hd hh.1
theorem onBool {β : Type} {d : β} {f : Bool → β} {x : AV} {r : β} (h : AV.onBool d f x = r) (hd : d ≠ r) : ∃ l, x = .bool l ∧ f l = r := (AV.onBool_eq h).resolve_left fun hh => hd hh.1
theorem onInt {β : Type} {d : β} {f : IntKind → Int → β} {x : AV} {r : β} (h : AV.onInt d f x = r) (hd : d ≠ r) : ∃ l n, x = .int l n ∧ f l n = r := (AV.onInt_eq h).resolve_left fun hh => hd hh.1
theorem onStr {β : Type} {d : β} {f : List UInt8 → β} {x : AV} {r : β} (h : AV.onStr d f x = r) (hd : d ≠ r) : ∃ l, x = .str l ∧ f l = r := (AV.onStr_eq h).resolve_left fun hh => hd hh.1
theorem onPtr {β : Type} {d : β} {f : Nat → Nat → β} {x : AV} {r : β} (h : AV.onPtr d f x = r) (hd : d ≠ r) : ∃ l n, x = .ptr l n ∧ f l n = r := (AV.onPtr_eq h).resolve_left fun hh => hd hh.1
theorem onSl {β : Type} {d : β} {f : Nat → Nat → Nat → Cap → β} {x : AV} {r : β} (h : AV.onSl d f x = r) (hd : d ≠ r) : ∃ a b c e, x = .sl a b c e ∧ f a b c e = r := (AV.onSl_eq h).resolve_left fun hh => hd hh.1
theorem onYield {β : Type} {d : β} {f : Nat → β} {x : AV} {r : β} (h : AV.onYield d f x = r) (hd : d ≠ r) : ∃ l, x = .yield l ∧ f l = r := (AV.onYield_eq h).resolve_left fun hh => hd hh.1
theorem kind_eq {ka kb : IntKind} (h : Nat.beq ka.ctorIdx kb.ctorIdx = true) : ka = kb := by
  have := Nat.eq_of_beq_eq_true h
  cases ka <;> cases kb <;> first | rfl | (exfalso; revert this; decide)

theorem oneCell_false {ty : TypeId} (h : oneCellT C.P ty = some false) : (∃ d, C.P.underlying ty = some d) ∧ C.P.cellsOf ty ≠ 0 ∧ isAggT C.P ty = false := by
  unfold oneCellT at h
  split at h
  · cases h
  · rename_i d hd
    split at h
    · cases h
    · rename_i h0; exact ⟨⟨d, hd⟩, h0, by simpa using h⟩
theorem oneCell_true {ty : TypeId} (h : oneCellT C.P ty = some true) : (∃ d, C.P.underlying ty = some d) ∧ C.P.cellsOf ty ≠ 0 ∧ isAggT C.P ty = true := by
  unfold oneCellT at h
  split at h
  · cases h
  · rename_i d hd
    split at h
    · cases h
    · rename_i h0; exact ⟨⟨d, hd⟩, h0, by simpa using h⟩

end
end Pe

/- The quicker evaluator is right: the operations that come up most. -/
namespace Pe
open Go
theorem takeE_eq : ∀ (n : Nat) (l r : List UInt8), takeE n l = some r → n ≤ l.length ∧ r = l.take n
  | 0, l, r, h => by
    have h' : some [] = some r := h
    cases h'; exact ⟨Nat.zero_le _, by simp⟩
  | n + 1, [], r, h => by
    have h' : (none : Option (List UInt8)) = some r := h
    cases h'
  | n + 1, x :: l, r, h => by
    have h' : Option.rec (motive := fun _ => Option (List UInt8)) none (fun r => some (x :: r)) (takeE n l) = some r := h
    obtain ⟨q, h1, h2⟩ := optRec h' (by simp)
    cases h2
    obtain ⟨k1, rfl⟩ := takeE_eq n l q h1
    exact ⟨by simp; omega, by simp⟩
theorem dropE_eq : ∀ (n : Nat) (l r : List UInt8), dropE n l = some r → n ≤ l.length ∧ r = l.drop n
  | 0, l, r, h => by
    have h' : some l = some r := h
    cases h'; exact ⟨Nat.zero_le _, by simp⟩
  | n + 1, [], r, h => by
    have h' : (none : Option (List UInt8)) = some r := h
    cases h'
  | n + 1, x :: l, r, h => by
    have h' : dropE n l = some r := h
    obtain ⟨k1, rfl⟩ := dropE_eq n l r h'
    exact ⟨by simp; omega, by simp⟩

section
variable {C : Cfg} {nt : Nat} {rnd : Bool} {t : FO} {ds : List (Option ADef)} {fr : Fr} {o : Oper} {k : K} {cal : CallF} {σ : AW}

theorem actF_ok (hc : CalOk C cal) (hf : FrEq nt rnd t ds fr) {r : R1} (h : K.run (actF C nt rnd o k) cal t ds σ = r) (hr : r ≠ .fail) : On C fr o σ t k cal r := by
  have sl : K.run (slowF C nt rnd o k) cal t ds σ = r → On C fr o σ t k cal r := fun h => slowF_ok hc hf h hr
  have hr' : R1.fail ≠ r := fun e => hr e.symm
  have hds := hf.defs
  unfold actF at h
  simp only at h
  split at h
  · -- move
    rename_i x ho
    split at h
    · rename_i f hx
      exact val_on hf (by simp [cls, ho, opF_ok hf hx]) h
    · exact sl h
  · rename_i x ho
    split at h
    · rename_i f hx
      exact val_on hf (by simp [cls, ho, opF_ok hf hx]) h
    · exact sl h
  · -- extract
    rename_i x i ho
    split at h
    · rename_i f hx
      obtain ⟨l, h1, h⟩ := onTup h hr'
      obtain ⟨v, h2, h⟩ := optRec h hr'
      rw [nthF_eq] at h2
      exact val_on hf (by simp [cls, ho, opF_ok hf hx, h1, h2]) h
    · exact sl h
  · -- pick
    rename_i c a b ho
    split at h
    · rename_i fc f g hx hy hz
      obtain ⟨q, h1, h⟩ := onBool h hr'
      cases q with
      | true => exact val_on hf (by simp [cls, ho, opF_ok hf hx, h1, opF_ok hf hy]) h
      | false => exact val_on hf (by simp [cls, ho, opF_ok hf hx, h1, opF_ok hf hz]) h
    · exact sl h
  · -- not
    rename_i ty x ho
    split at h
    · rename_i f hx
      obtain ⟨q, h1, h⟩ := onBool h hr'
      cases q <;> exact val_on hf (by simp [cls, ho, opF_ok hf hx, h1]) h
    · exact sl h
  · -- binOp
    rename_i op ty x y ty' ho
    split at h
    · rename_i f g b hx hy hb
      have done : ∀ ka a, GF.get f t = .int ka a → AV.onInt .fail (fun kb b' => Bool.rec (motive := fun _ => R1) .fail (K.run k cal (SF.set (putF o.dst) (BF.run b ka a b') t) ds σ) (Nat.beq ka.ctorIdx kb.ctorIdx)) (GF.get g t) = r → On C fr o σ t k cal r := by
        intro ka a hfa h
        obtain ⟨kb, b', h1, h⟩ := onInt h hr'
        obtain ⟨h2, h⟩ := boolRec h hr'
        have := binF_ok hb (kind_eq h2) C.P ty a b'
        refine val_on hf ?_ h
        simp only [cls, ho, opF_ok hf hx, opF_ok hf hy, hfa, h1]
        rw [this]; rfl
      split at h
      · rcases AV.onInt_eq h with ⟨h, _⟩ | ⟨ka, a, h1, h⟩
        · exact sl h
        · exact done ka a h1 h
      · rename_i e he
        rcases AV.onInt_eq h with ⟨h, _⟩ | ⟨ka, a, h1, h⟩
        · rcases AV.onStr_eq h with ⟨h, _⟩ | ⟨a, h1, h⟩
          · exact sl h
          · obtain ⟨b', h2, h⟩ := onStr h hr'
            rw [beqF_eq] at h
            refine val_on hf ?_ h
            simp only [cls, ho, opF_ok hf hx, opF_ok hf hy, h1, h2]
            unfold strOp at he
            split at he
            · cases he
              simp only [bin, binStr, Option.map_some]
              cases beqBytes a b' <;> rfl
            · cases he
              simp only [bin, binStr, Option.map_some]
              cases beqBytes a b' <;> rfl
            · cases he
        · exact done ka a h1 h
    · exact sl h
  · -- nilCheck
    rename_i x ho
    split at h
    · rename_i f hx
      rcases AV.onPtr_eq h with ⟨h, _⟩ | ⟨a, b, h1, h⟩
      · exact sl h
      · exact val_on hf (by simp [cls, ho, opF_ok hf hx, h1]) h
    · exact sl h
  · -- fieldAddr
    rename_i s x i ho
    split at h
    · rename_i fs f hu hx
      split at h
      · rename_i fl hfl
        split at h
        · exact (hr' h).elim
        · rename_i h0
          obtain ⟨a, b, h1, h⟩ := onPtr h hr'
          exact val_on hf (by simp [cls, ho, hu, opF_ok hf hx, h1, hfl, h0]) h
      · exact (hr' h).elim
    · exact sl h
  · -- indexAddr
    rename_i s x i ho
    split at h
    · rename_i n e f g hu hx hy
      split at h
      · exact (hr' h).elim
      · rename_i h0
        obtain ⟨a, b, h1, h⟩ := onPtr h hr'
        obtain ⟨kk, j, h2, h⟩ := onInt h hr'
        cases j with
        | negSucc j => exact (hr' h).elim
        | ofNat j =>
          obtain ⟨h3, h⟩ := boolRec h hr'
          have h3' : j < n := Nat.le_of_ble_eq_true h3
          refine val_on hf ?_ h
          simp only [cls, ho, hu, opF_ok hf hx, opF_ok hf hy, h1, h2]
          rw [if_pos ⟨by simp only [Int.ofNat_eq_natCast]; omega, by simp only [Int.ofNat_eq_natCast]; omega, h0⟩]
          rfl
    · rename_i e f g hu hx hy
      split at h
      · exact (hr' h).elim
      · rename_i h0
        obtain ⟨a, b, n, cap, h1, h⟩ := onSl h hr'
        obtain ⟨kk, j, h2, h⟩ := onInt h hr'
        cases j with
        | negSucc j => exact (hr' h).elim
        | ofNat j =>
          obtain ⟨h3, h⟩ := boolRec h hr'
          have h3' : j < n := Nat.le_of_ble_eq_true h3
          refine val_on hf ?_ h
          simp only [cls, ho, hu, opF_ok hf hx, opF_ok hf hy, h1, h2]
          rw [if_pos ⟨by simp only [Int.ofNat_eq_natCast]; omega, by simp only [Int.ofNat_eq_natCast]; omega, h0⟩]
          rfl
    · exact sl h
  · -- load
    rename_i ty x ho
    split at h
    · rename_i f ht hx
      obtain ⟨⟨d, hd⟩, h0, hagg⟩ := oneCell_false ht
      obtain ⟨a, b, h1, h⟩ := onPtr h hr'
      obtain ⟨ob, h2, h⟩ := optRec h hr'
      obtain ⟨n, z, tr, e, fz, wh, rfl, h⟩ := onCells h hr'
      obtain ⟨h3, h⟩ := boolRec h hr'
      obtain ⟨v, h4, h⟩ := optRec h hr'
      rw [cellF_eq] at h4
      have h3' : b + 1 ≤ n := Nat.le_of_ble_eq_true h3
      rw [heapF_eq] at h2
      rw [← hds] at h
      refine ⟨v, σ, fr.defers, .rd (r := .load ty (.ptr a b)) (by simp [cls, ho, opF_ok hf hx, h1]) ?_, h⟩
      simp [rdVal, loadV, hd, h0, hagg, loadC, h2, h3', cellsFrom, h4]
    · rename_i f ht hx
      obtain ⟨⟨d, hd⟩, h0, hagg⟩ := oneCell_true ht
      obtain ⟨a, b, h1, h⟩ := onPtr h hr'
      obtain ⟨ob, h2, h⟩ := optRec h hr'
      obtain ⟨n, z, tr, e, fz, wh, rfl, h⟩ := onCells h hr'
      obtain ⟨h3, h⟩ := boolRec h hr'
      obtain ⟨v, h4, h⟩ := optRec h hr'
      rw [cellsF_eq] at h4
      have h3' : b + C.P.cellsOf ty ≤ n := Nat.le_of_ble_eq_true h3
      rw [heapF_eq] at h2
      rw [← hds] at h
      refine ⟨.agg v, σ, fr.defers, .rd (r := .load ty (.ptr a b)) (by simp [cls, ho, opF_ok hf hx, h1]) ?_, h⟩
      simp [rdVal, loadV, hd, h0, hagg, loadC, h2, h3', h4]
    · exact sl h
  · -- store
    rename_i ty x y ho
    split at h
    · rename_i f g ht hx hy
      split at h
      · rename_i hone
        obtain ⟨a, b, h1, h⟩ := onPtr h hr'
        obtain ⟨ob, h2, h⟩ := optRec h hr'
        obtain ⟨n, z, tr, e, fz, wh, rfl, h⟩ := onCells h hr'
        obtain ⟨h3, h⟩ := boolRec h hr'
        obtain ⟨h4, h⟩ := boolRec h hr'
        obtain ⟨h5, h⟩ := boolRec h hr'
        have h3' : b + 1 ≤ n := Nat.le_of_ble_eq_true h3
        have h4' : fz ≤ b := Nat.le_of_ble_eq_true h4
        rw [heapF_eq] at h2
        have hcells : (GF.get g t).cells = [GF.get g t] := by
          cases hv : GF.get g t <;> first | rfl | (rw [hv] at h5; simp [AV.isCell] at h5)
        have hput : σ.put a (.cells n z (tr.set (GF.get g t) b) e fz wh) = AW.mk (Tr.set (.cells n z (tr.set (GF.get g t) b) e fz wh) σ.heap a) σ.next (if a < σ.low then a else σ.low) := rfl
        rw [← hds] at h
        refine ⟨.tup [], σ.put a (.cells n z (tr.set (GF.get g t) b) e fz wh), fr.defers, .eff (e := .store ty (.ptr a b) (GF.get g t)) (by simp [cls, ho, opF_ok hf hx, opF_ok hf hy, h1]) ?_, ?_⟩
        · simp [effRun, hcells, hone, storeC, h2, h3', h4', h5, setFrom]
        · rw [hput, ← h]
          cases hb : Nat.blt a σ.low with
          | true => rw [if_pos (show a < σ.low from Nat.le_of_ble_eq_true hb)]
          | false =>
            rw [if_neg (fun hh : a < σ.low => by
              have : Nat.blt a σ.low = true := Nat.ble_eq_true_of_le hh
              rw [hb] at this; cases this)]
      · exact sl h
    · exact sl h
  · -- convert
    rename_i s d x ho
    split at h
    · rename_i e f hs hd hx
      split at h
      · rename_i he
        rcases AV.onSl_eq h with ⟨h, _⟩ | ⟨a, b, n, cap, h1, h⟩
        · exact sl h
        · obtain ⟨ob, h2, h⟩ := optRec h hr'
          obtain ⟨q, z, tr, e', fz, wh, rfl, h⟩ := onCells h hr'
          obtain ⟨h3, h⟩ := boolRec h hr'
          obtain ⟨l, h4, h⟩ := optRec h hr'
          obtain ⟨u, h5, h⟩ := optRec h hr'
          rw [cellsF_eq] at h4
          have h3' : b + n ≤ q := Nat.le_of_ble_eq_true h3
          rw [heapF_eq] at h2
          rw [← hds] at h
          refine ⟨.str u, σ, fr.defers, .rd (r := .text a b n) (by simp [cls, ho, opF_ok hf hx, h1, convA, hs, hd, he]) ?_, h⟩
          simp [rdVal, loadC, h2, h3', h4, bytesF_eq l u h5]
      · exact sl h
    · exact sl h
  · -- slice of a text
    rename_i ty x lo hi ho
    split at h
    · rename_i f lo' hi' hs hx hlo hhi
      rcases AV.onStr_eq h with ⟨h, _⟩ | ⟨s, h1, h⟩
      · exact sl h
      · obtain ⟨a, b, m, q1, q2, q3⟩ : ∃ (a : Option AV) (b : Option AV) (z : Nat × Nat × Option Nat), fr.evalO lo = some a ∧ fr.evalO hi = some b ∧ boundsA s.length (some s.length) a b none = some z ∧ K.run k cal (SF.set (putF o.dst) (.str ((s.take z.2.1).drop z.1)) t) ds σ = r := by
          have low : ∀ (b : Option AV) (n : Nat), n ≤ s.length → (∀ a, boundsA s.length (some s.length) a b none = (match a with
              | none => some (0, n, some s.length)
              | some v => match asI v with
                | some i => if 0 ≤ i ∧ i ≤ n then some (i.toNat, n, some s.length) else none
                | none => none)) → endF dropE lo' t (s.take n) (fun s => K.run k cal (SF.set (putF o.dst) (.str s) t) ds σ) = r → ∃ (a : Option AV) (z : Nat × Nat × Option Nat), fr.evalO lo = some a ∧ boundsA s.length (some s.length) a b none = some z ∧ K.run k cal (SF.set (putF o.dst) (.str ((s.take z.2.1).drop z.1)) t) ds σ = r := by
            intro b n hn hb h
            cases lo with
            | none =>
              simp only [opO, Option.some.injEq] at hlo
              subst hlo
              exact ⟨none, (0, n, some s.length), rfl, by rw [hb], h⟩
            | some x' =>
              simp only [opO] at hlo
              split at hlo
              · rename_i g hg
                simp only [Option.some.injEq] at hlo
                subst hlo
                obtain ⟨ka, i, h2, h3⟩ := onInt h hr'
                cases i with
                | negSucc i => exact (hr' h3).elim
                | ofNat i =>
                  obtain ⟨u, h4, h5⟩ := optRec h3 hr'
                  obtain ⟨h6, rfl⟩ := dropE_eq _ _ _ h4
                  rw [List.length_take] at h6
                  have hi' : i ≤ n := Nat.le_trans h6 (Nat.min_le_left _ _)
                  refine ⟨some (.int ka (.ofNat i)), (i, n, some s.length), by simp [Fr.evalO, opF_ok hf hg, h2], ?_, h5⟩
                  rw [hb]
                  have c1 : (0 : Int) ≤ Int.ofNat i ∧ Int.ofNat i ≤ (n : Int) := ⟨Int.natCast_nonneg i, Int.ofNat_le.2 hi'⟩
                  simp only [asI]
                  rw [if_pos c1]
                  rfl
              · cases hlo
          cases hi with
          | none =>
            simp only [opO, Option.some.injEq] at hhi
            subst hhi
            have h' : endF dropE lo' t s (fun s => K.run k cal (SF.set (putF o.dst) (.str s) t) ds σ) = r := h
            rw [← List.take_length (l := s)] at h'
            obtain ⟨a, z, g1, g2, g3⟩ := low none s.length (Nat.le_refl _) (fun a => by cases a <;> rfl) h'
            exact ⟨a, none, z, g1, rfl, g2, g3⟩
          | some y =>
            simp only [opO] at hhi
            split at hhi
            · rename_i g hg
              simp only [Option.some.injEq] at hhi
              subst hhi
              obtain ⟨ka, i, h2, h3⟩ := onInt h hr'
              cases i with
              | negSucc i => exact (hr' h3).elim
              | ofNat i =>
                obtain ⟨u, h4, h5⟩ := optRec h3 hr'
                obtain ⟨h6, rfl⟩ := takeE_eq _ _ _ h4
                have c1 : (0 : Int) ≤ Int.ofNat i ∧ Int.ofNat i ≤ (s.length : Int) := ⟨Int.natCast_nonneg i, Int.ofNat_le.2 h6⟩
                obtain ⟨a, z, g1, g2, g3⟩ := low (some (.int ka (.ofNat i))) i h6 (fun a => by
                  simp only [boundsA, asI, limA, c1.1, c1.2, and_self, if_true]
                  rfl) h5
                exact ⟨a, _, z, g1, by simp [Fr.evalO, opF_ok hf hg, h2], g2, g3⟩
            · cases hhi
        have hmx : fr.evalO none = some none := rfl
        refine val_on hf ?_ q3.2
        simp only [cls, ho, opF_ok hf hx, h1, q1, q2, hmx, hs, q3.1, Option.map_some]
    · exact sl h
  · -- call
    rename_i c ho
    split at h
    · rename_i g xs hcal hxs
      split at h
      · rename_i g' hg
        rcases AV.onFunc_eq h with ⟨h, _⟩ | ⟨f, a, cp, h1, h⟩
        · obtain ⟨l, h1, h⟩ := onYield h hr'
          obtain ⟨v, σ', h2, h⟩ := c1Rec h hr'
          rw [← hds] at h
          exact ⟨v, σ', fr.defers, .call (by simp [cls, ho, hcal, opsF_ok hf hxs, opF_ok hf hg, h1]) (hc _ _ _ _ _ h2), h⟩
        · obtain ⟨v, σ', h2, h⟩ := c1Rec h hr'
          rw [appF_eq, appF_eq] at h2
          rw [← hds] at h
          exact ⟨v, σ', fr.defers, .call (by simp [cls, ho, hcal, opsF_ok hf hxs, opF_ok hf hg, h1]) (hc _ _ _ _ _ h2), h⟩
      · exact sl h
    · rename_i xs hcal hxs
      have hev := opsF_ok hf hxs
      split at h
      · rename_i y e hl hu
        split at h
        · rename_i hsz
          obtain ⟨x, h1, h⟩ := optRec h hr'
          rcases AV.onSl_eq h with ⟨h, _⟩ | ⟨a, b, n, cap, h2, h⟩
          · exact sl h
          · subst h2
            rw [nthF_eq] at h1
            rw [hl] at hev
            simp only [Fr.evals] at hev
            split at hev
            · rename_i v vs hv hvs
              cases hvs
              simp only [Option.some.injEq] at hev
              rw [← hev] at h1
              simp only [List.getElem?_cons_zero, Option.some.injEq] at h1
              subst h1
              refine val_on hf ?_ h
              simp only [cls, ho, hl, Fr.evals, hv, hcal, List.length_cons, List.length_nil, hsz, if_true, bltin, hu]
              rfl
            · cases hev
        · exact sl h
      · rename_i y hl hu
        split at h
        · rename_i hsz
          obtain ⟨x, h1, h⟩ := optRec h hr'
          rcases AV.onStr_eq h with ⟨h, _⟩ | ⟨a, h2, h⟩
          · exact sl h
          · subst h2
            rw [nthF_eq] at h1
            rw [hl] at hev
            simp only [Fr.evals] at hev
            split at hev
            · rename_i v vs hv hvs
              cases hvs
              simp only [Option.some.injEq] at hev
              rw [← hev] at h1
              simp only [List.getElem?_cons_zero, Option.some.injEq] at h1
              subst h1
              have h' : K.run k cal (SF.set (putF o.dst) (.int .i64 (.ofNat (lenF a))) t) ds σ = r := h
              rw [lenF_eq] at h'
              refine val_on hf ?_ h'
              simp only [cls, ho, hl, Fr.evals, hv, hcal, List.length_cons, List.length_nil, hsz, if_true, bltin, hu]
              rfl
            · cases hev
        · exact sl h
      · exact sl h
    · exact sl h
  · exact sl h
end
end Pe

/- More fuel says the same. -/
namespace Pe
open Go
variable {C : Cfg}

structure Evs.le (E E' : Evs) : Prop where
  code : ∀ c fr σ l, E.code c fr σ = some l → E'.code c fr σ = some l
  call : ∀ fv xs σ l, E.call fv xs σ = some l → E'.call fv xs σ = some l

theorem collect_mono {α β : Type} {f g : α → Option (List β)} (h : ∀ x l, f x = some l → g x = some l) : ∀ {xs : List α} {l : List β}, collect f xs = some l → collect g xs = some l
  | [], l, hl => hl
  | [x], l, hl => h x l hl
  | x :: y :: xs, l, hl => by
    (try simp only [collect] at hl ⊢)
    split at hl
    · rename_i a b ha hb
      cases hl
      have hb' := collect_mono h hb
      rw [h x a ha, hb']
    · cases hl

variable {E E' : Evs}

theorem runOps_mono (hE : E.le E') {ops : Array Oper} : ∀ {os : List Oper} {fr : Fr} {σ : AW} {l : List (Out × Fr × AW)}, runOps C E ops os fr σ = some l → runOps C E' ops os fr σ = some l
  | [], _, _, _, h => h
  | o :: os, fr, σ, l, h => by
    (try simp only [runOps] at h ⊢)
    cases hw : wantedA fr ops o with
    | none => rw [hw] at h; cases h
    | some b =>
      rw [hw] at h
      cases b with
      | false => exact runOps_mono hE h
      | true =>
        (try simp only at h ⊢)
        cases hc : cls C.P fr o with
        | none => rw [hc] at h; cases h
        | some act =>
          rw [hc] at h
          cases act with
          | val v => exact runOps_mono hE h
          | rd r =>
            (try simp only at h ⊢)
            cases hr : rdVal C.P σ r with
            | none => rw [hr] at h; cases h
            | some v => rw [hr] at h; exact runOps_mono hE h
          | mk ob sl mp => exact runOps_mono hE h
          | eff e =>
            (try simp only at h ⊢)
            cases hr : effRun C.P σ e with
            | none => rw [hr] at h; cases h
            | some v => obtain ⟨v, σ'⟩ := v; rw [hr] at h; exact runOps_mono hE h
          | dfr d =>
            (try simp only at h ⊢)
            split at h
            · cases h
            · rename_i hr; rw [if_neg hr]; exact runOps_mono hE h
          | rngM m =>
            (try simp only at h ⊢)
            split at h
            · rename_i es ver hm; (try simp only [hm]); exact runOps_mono hE h
            · cases h
          | nextM it =>
            (try simp only at h ⊢)
            cases hr : choicesM σ it with
            | none => rw [hr] at h; cases h
            | some ch => rw [hr] at h; exact collect_mono (fun x l hx => runOps_mono hE hx) h
          | call fv xs =>
            (try simp only at h ⊢)
            cases hr : E.call fv xs σ with
            | none => rw [hr] at h; cases h
            | some ch => rw [hr] at h; rw [hE.call _ _ _ _ hr]; exact collect_mono (fun x l hx => runOps_mono hE hx) h
          | _ => cases h

theorem runOpsD_mono (hE : E.le E') {ops : Array Oper} {b : Array Nat} {base : Nat} : ∀ {os : List Oper} {i : Nat} {t : TrD} {fr : Fr} {σ : AW} {l : List (Out × Fr × AW)}, runOpsD C E ops b base i os t fr σ = some l → runOpsD C E' ops b base i os t fr σ = some l
  | [], _, _, _, _, _, h => h
  | o :: os, i, t, fr, σ, l, h => by
    (try simp only [runOpsD] at h ⊢)
    cases hw : wantedA fr ops o with
    | none => rw [hw] at h; cases h
    | some w =>
      rw [hw] at h
      cases w with
      | false => exact runOpsD_mono hE h
      | true =>
        (try simp only at h ⊢)
        cases hc : cls C.P fr o with
        | none => rw [hc] at h; cases h
        | some act =>
          rw [hc] at h
          cases act with
          | val v => exact runOpsD_mono hE h
          | rd r =>
            (try simp only at h ⊢)
            split at h
            · rename_i v hr
              (try simp only [hr])
              split at h
              · rename_i hok; rw [if_pos hok]; exact runOpsD_mono hE h
              · cases h
            · cases h
          | mk ob sl mp => exact runOpsD_mono hE h
          | eff e =>
            (try simp only at h ⊢)
            cases hf : fills o with
            | some m0 =>
              rw [hf] at h
              (try simp only at h ⊢)
              split at h
              · rename_i m k v
                (try simp only)
                split at h
                · rename_i es ver hm
                  (try simp only [hm])
                  split at h
                  · rename_i hk
                    (try simp only [hk])
                    split at h
                    · rename_i hl; rw [if_pos hl]; exact runOpsD_mono hE h
                    · cases h
                  · cases h
                · cases h
              · cases h
            | none =>
              rw [hf] at h
              (try simp only at h ⊢)
              split at h
              · rename_i v σ' hr
                (try simp only [hr])
                split at h
                · rename_i hok; rw [if_pos hok]; exact runOpsD_mono hE h
                · cases h
              · cases h
          | call fv xs =>
            (try simp only at h ⊢)
            split at h
            · rename_i hok
              rw [if_pos hok]
              split at h
              · rename_i v σ' hr
                (try simp only [hE.call _ _ _ _ hr])
                split at h
                · rename_i hn; rw [if_pos hn]; exact runOpsD_mono hE h
                · cases h
              · cases h
            · cases h
          | _ => cases h

theorem evCode_mono (hE : E.le E') {c : Code} {fr : Fr} {σ : AW} {l : List (Out × Fr × AW)} (h : evCode C E c fr σ = some l) : evCode C E' c fr σ = some l := by
  have col : ∀ {c : Code} {fr : Fr} {σ : AW} {f g : Out × Fr × AW → RC} {l : List (Out × Fr × AW)}, (∀ x l, f x = some l → g x = some l) → (match E.code c fr σ with | some l => collect f l | none => none) = some l → (match E'.code c fr σ with | some l => collect g l | none => none) = some l := by
    intro c fr σ f g l hfg h
    cases hr : E.code c fr σ with
    | none => rw [hr] at h; cases h
    | some ch => rw [hr] at h; rw [hE.code _ _ _ _ hr]; exact collect_mono hfg h
  cases c with
  | region id ops draw =>
    (try simp only [evCode] at h ⊢)
    split at h
    · rename_i hd
      rw [if_pos hd]
      split at h
      · rename_i hok; rw [if_pos hok]; exact runOpsD_mono hE h
      · cases h
    · rename_i hd; rw [if_neg hd]; exact runOps_mono hE h
  | seq a b =>
    (try simp only [evCode] at h ⊢)
    refine col (fun x l hx => ?_) h
    obtain ⟨o, fr', σ'⟩ := x
    cases o with
    | norm => exact hE.code _ _ _ _ hx
    | jump j => exact hx
  | cond x a b =>
    (try simp only [evCode] at h ⊢)
    split at h
    · rename_i t ht; (try simp only [ht]); exact hE.code _ _ _ _ h
    · cases h
  | block id b => (try simp only [evCode] at h ⊢); exact col (fun x l hx => hx) h
  | loop b =>
    (try simp only [evCode] at h ⊢)
    refine col (fun x l hx => ?_) h
    obtain ⟨o, fr', σ'⟩ := x
    cases o with
    | norm => exact hE.code _ _ _ _ hx
    | jump j => exact hx
  | scope b => (try simp only [evCode] at h ⊢); exact col (fun x l hx => hx) h
  | rangeFunc f params assign body =>
    (try simp only [evCode] at h ⊢)
    split at h
    · rename_i g a cap hf
      (try simp only [hf])
      split at h
      · cases h
      · rename_i hc
        rw [if_neg hc]
        split at h
        · rename_i ch hr; (try simp only [hE.call _ _ _ _ hr]); exact h
        · cases h
    · cases h
  | _ => exact h

theorem evS_mono (hE : E.le E') : ∀ {c : Code} {fr : Fr} {σ : AW} {l : List (Out × Fr × AW)}, evS C E c fr σ = some l → evS C E' c fr σ = some l := by
  intro c
  induction c with
  | seq a b iha _ =>
    intro fr σ l h
    (try simp only [evS] at h ⊢)
    split at h
    · rename_i ch hr
      (try simp only [iha hr])
      refine collect_mono (fun x l hx => ?_) h
      obtain ⟨o, fr', σ'⟩ := x
      cases o with
      | norm => exact hE.code _ _ _ _ hx
      | jump j => exact hx
    · cases h
  | region id ops draw =>
    intro fr σ l h
    cases draw with
    | true => exact hE.code _ _ _ _ h
    | false =>
      (try simp only [evS] at h ⊢)
      split at h
      · rename_i o rest hl
        (try simp only [hl])
        split at h
        · rename_i hc; rw [if_pos hc]; exact runOps_mono hE h
        · rename_i hc; rw [if_neg hc]; exact runOps_mono hE h
      · rename_i hl; (try simp only [hl]); exact h
  | _ => intro fr σ l h; exact hE.code _ _ _ _ h

theorem runDefers_mono (hE : E.le E') : ∀ {ds : List (Option ADef)} {σ : AW} {l : List AW}, runDefers C E ds σ = some l → runDefers C E' ds σ = some l
  | [], _, _, h => h
  | none :: ds, σ, l, h => runDefers_mono hE (ds := ds) h
  | some d :: ds, σ, l, h => by
    (try simp only [runDefers] at h ⊢)
    split at h
    · rename_i ch hr
      have : evDefer C E' d σ = some ch := by
        unfold evDefer at hr ⊢
        split at hr
        · rename_i f a cap hd
          (try simp only)
          split at hr
          · cases hr
          · rename_i fn hfn
            (try simp only [hfn])
            split at hr
            · cases hr
            · rename_i body hb
              (try simp only [hb])
              split at hr
              · cases hr
              · rename_i hn
                rw [if_neg hn]
                split at hr
                · cases hr
                · rename_i l1 hl1
                  (try simp only [evS_mono hE hl1])
                  exact hr
        · cases hr
      (try simp only [this])
      exact collect_mono (fun x l hx => runDefers_mono hE (ds := ds) hx) h
    · cases h

theorem evBody_mono (hE : E.le E') {fn : Func} {body : Code} {xs : List AV} {σ : AW} {l : List (AV × AW)} (h : evBody C E fn body xs σ = some l) : evBody C E' fn body xs σ = some l := by
  unfold evBody at h ⊢
  split at h
  · cases h
  · rename_i ch hr
    (try simp only [hE.code _ _ _ _ hr])
    refine collect_mono (fun x l hx => ?_) h
    obtain ⟨o, fr', σ'⟩ := x
    have fin : ∀ {l}, (match runDefers C E fr'.defers σ' with
        | none => none
        | some l => collect (fun σ => match resVals C.P fr' σ fn.results.toList with
          | some vs => some [(oneOrTup vs, σ)]
          | none => none) l) = some l → (match runDefers C E' fr'.defers σ' with
        | none => none
        | some l => collect (fun σ => match resVals C.P fr' σ fn.results.toList with
          | some vs => some [(oneOrTup vs, σ)]
          | none => none) l) = some l := by
      intro l hx
      split at hx
      · cases hx
      · rename_i ds hd; (try simp only [runDefers_mono hE hd]); exact hx
    cases o with
    | norm => exact fin hx
    | jump j =>
      cases j with
      | ret => exact fin hx
      | _ => cases hx

theorem evRound_mono (hE : E.le E') {l nt : Nat} {params : List Tmp} {assign body : Code} {args : List AV} {σ : AW} {tmps : Tr AV} {r : List (AV × AW)} (h : evRound E l nt params assign body args σ tmps = some r) : evRound E' l nt params assign body args σ tmps = some r := by
  unfold evRound at h ⊢
  split at h
  · cases h
  · rename_i t ht
    (try simp only [ht])
    split at h
    · cases h
    · rename_i rs hr
      (try simp only [hE.code _ _ _ _ hr])
      refine collect_mono (fun x l hx => ?_) h
      obtain ⟨o, fr', σ'⟩ := x
      cases o with
      | jump j => cases hx
      | norm =>
        (try simp only at hx ⊢)
        split at hx
        · rename_i pend nt tm ps asg bd hl
          (try simp only [hl])
          split at hx
          · cases hx
          · rename_i rs2 hr2; (try simp only [hE.code _ _ _ _ hr2]); exact hx
        · cases hx

theorem evCall_mono (hE : E.le E') {fv : AV} {xs : List AV} {σ : AW} {l : List (AV × AW)} (h : evCall C E fv xs σ = some l) : evCall C E' fv xs σ = some l := by
  unfold evCall at h ⊢
  split at h
  · rename_i f
    (try simp only)
    split at h
    · rename_i v hv; (try simp only [hv]); exact h
    · rename_i hv
      (try simp only [hv])
      split at h
      · cases h
      · rename_i fn hfn
        (try simp only [hfn])
        split at h
        · cases h
        · rename_i body hb
          (try simp only [hb])
          split at h
          · cases h
          · rename_i hn
            rw [if_neg hn]
            split at h
            · rename_i hm
              rw [if_pos hm]
              split at h
              · rename_i l1 hl1; (try simp only [evBody_mono hE hl1]); exact h
              · cases h
            · rename_i hm; rw [if_neg hm]; exact evBody_mono hE h
  · rename_i y
    (try simp only)
    split at h
    · rename_i nt tm ps asg bd hl; (try simp only [hl]); exact evRound_mono hE h
    · cases h
  · cases h

theorem evs_mono (C : Cfg) : ∀ n, (evs C n).le (evs C (n + 1))
  | 0 => ⟨fun _ _ _ _ h => (by cases h), fun _ _ _ _ h => by cases h⟩
  | n + 1 => ⟨fun _ _ _ _ h => evCode_mono (evs_mono C n) h, fun _ _ _ _ h => evCall_mono (evs_mono C n) h⟩

theorem evs_le (C : Cfg) {n : Nat} : ∀ {m : Nat}, n ≤ m → (evs C n).le (evs C m)
  | 0, h => by obtain rfl : n = 0 := by omega
               exact ⟨fun _ _ _ _ h => h, fun _ _ _ _ h => h⟩
  | m + 1, h => by
    by_cases e : n = m + 1
    · subst e; exact ⟨fun _ _ _ _ h => h, fun _ _ _ _ h => h⟩
    · have h1 := evs_le C (n := n) (m := m) (by omega)
      have h2 := evs_mono C m
      exact ⟨fun _ _ _ _ h => h2.code _ _ _ _ (h1.code _ _ _ _ h), fun _ _ _ _ h => h2.call _ _ _ _ (h1.call _ _ _ _ h)⟩

theorem EvCall.of {n : Nat} {fv : AV} {xs : List AV} {σ : AW} {v : AV} {σ' : AW} (h : (evs C n).call fv xs σ = some [(v, σ')]) : EvCall C fv xs σ v σ' := ⟨n, fun _ hk => (evs_le C hk).call _ _ _ _ h⟩

end Pe
