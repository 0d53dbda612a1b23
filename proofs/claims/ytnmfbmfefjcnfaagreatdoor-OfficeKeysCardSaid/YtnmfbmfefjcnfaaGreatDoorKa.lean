/- What an abstract run of the machine is, and when a world of the model is what it says. -/
import GoSem.Machine.Frame
import GoSem.Machine.Exec
import Derived.CallsIn
import Derived.Wp
import Derived.Laws.World
import Derived.Laws.Sem
import Derived.Laws.Cells
import Derived.Laws.Entries
set_option linter.unusedSectionVars false
/- Arrays without an end, for the kernel: sixteens of sixteens; a binary trie behind them. PRINTED BY gentr.py. -/
namespace Pe
open Go
noncomputable section

/-! ### The binary trie -/
inductive Bt (α : Type) where
  | nil
  | node (v : Option α) (l r : Bt α)
def Bt.get {α : Type} : Bt α → Nat → Option α
  | .nil, _ => none
  | .node v l r, n => if n = 0 then v else if n % 2 = 1 then l.get (n / 2) else r.get (n / 2 - 1)
def Bt.one {α : Type} (x : α) : Nat → Nat → Bt α
  | 0, _ => .node (some x) .nil .nil
  | d + 1, n => if n = 0 then .node (some x) .nil .nil else if n % 2 = 1 then .node none (Bt.one x d (n / 2)) .nil else .node none .nil (Bt.one x d (n / 2 - 1))
def Bt.set {α : Type} (x : α) : Bt α → Nat → Bt α
  | .nil, n => Bt.one x n n
  | .node v l r, n => if n = 0 then .node (some x) l r else if n % 2 = 1 then .node v (l.set x (n / 2)) r else .node v l (r.set x (n / 2 - 1))
theorem Bt.get_one {α : Type} (x : α) : ∀ (d n m : Nat), n ≤ d → (Bt.one x d n).get m = if m = n then some x else none
  | 0, n, m, h => by
    obtain rfl : n = 0 := by omega
    simp only [Bt.one, Bt.get]
    split <;> first | rfl | (split <;> rfl)
  | d + 1, n, m, h => by
    unfold Bt.one
    by_cases h0 : n = 0
    · subst h0
      simp only [if_true, Bt.get]
      split <;> first | rfl | (split <;> rfl)
    · rw [if_neg h0]
      by_cases h1 : n % 2 = 1
      · rw [if_pos h1]
        simp only [Bt.get]
        by_cases m0 : m = 0
        · subst m0; rw [if_pos rfl, if_neg (by omega)]
        · rw [if_neg m0]
          by_cases m1 : m % 2 = 1
          · rw [if_pos m1, Bt.get_one x d (n / 2) (m / 2) (by omega)]
            by_cases e : m = n
            · rw [if_pos e, if_pos (by omega)]
            · rw [if_neg e, if_neg (by omega)]
          · rw [if_neg m1, if_neg (by omega)]
      · rw [if_neg h1]
        simp only [Bt.get]
        by_cases m0 : m = 0
        · subst m0; rw [if_pos rfl, if_neg (by omega)]
        · rw [if_neg m0]
          by_cases m1 : m % 2 = 1
          · rw [if_pos m1, if_neg (by omega)]
          · rw [if_neg m1, Bt.get_one x d (n / 2 - 1) (m / 2 - 1) (by omega)]
            by_cases e : m = n
            · rw [if_pos e, if_pos (by omega)]
            · rw [if_neg e, if_neg (by omega)]
theorem Bt.get_set {α : Type} (x : α) : ∀ (t : Bt α) (n m : Nat), (t.set x n).get m = if m = n then some x else t.get m
  | .nil, n, m => by
    simp only [Bt.set, Bt.get]
    exact Bt.get_one x n n m (Nat.le_refl _)
  | .node v l r, n, m => by
    unfold Bt.set
    by_cases h0 : n = 0
    · subst h0
      rw [if_pos rfl]
      simp only [Bt.get]
      by_cases m0 : m = 0
      · rw [if_pos m0, if_pos m0]
      · rw [if_neg m0, if_neg m0]; simp only [if_neg m0]
    · rw [if_neg h0]
      by_cases h1 : n % 2 = 1
      · rw [if_pos h1]
        simp only [Bt.get]
        by_cases m0 : m = 0
        · subst m0; rw [if_pos rfl, if_neg (by omega), if_pos rfl]
        · rw [if_neg m0]; simp only [if_neg m0]
          by_cases m1 : m % 2 = 1
          · rw [if_pos m1]; simp only [if_pos m1]
            rw [Bt.get_set x l (n / 2) (m / 2)]
            by_cases e : m = n
            · rw [if_pos e, if_pos (by omega)]
            · rw [if_neg e, if_neg (by omega)]
          · rw [if_neg m1, if_neg (by omega)]; simp only [if_neg m1]
      · rw [if_neg h1]
        simp only [Bt.get]
        by_cases m0 : m = 0
        · subst m0; rw [if_pos rfl, if_neg (by omega), if_pos rfl]
        · rw [if_neg m0]; simp only [if_neg m0]
          by_cases m1 : m % 2 = 1
          · rw [if_pos m1, if_neg (by omega)]; simp only [if_pos m1]
          · rw [if_neg m1]; simp only [if_neg m1]
            rw [Bt.get_set x r (n / 2 - 1) (m / 2 - 1)]
            by_cases e : m = n
            · rw [if_pos e, if_pos (by omega)]
            · rw [if_neg e, if_neg (by omega)]

/-! ### Sixteens -/
structure S16 (α : Type) where
  x0 : α
  x1 : α
  x2 : α
  x3 : α
  x4 : α
  x5 : α
  x6 : α
  x7 : α
  x8 : α
  x9 : α
  x10 : α
  x11 : α
  x12 : α
  x13 : α
  x14 : α
  x15 : α
structure G16 (α : Type) where
  get : S16 α → α
structure U16 (α : Type) where
  upd : (α → α) → S16 α → S16 α
def g16 {α : Type} : Nat → G16 α
  | 0 => ⟨fun t => S16.rec (motive := fun _ => α) (fun x0 _ _ _ _ _ _ _ _ _ _ _ _ _ _ _ => x0) t⟩
  | 1 => ⟨fun t => S16.rec (motive := fun _ => α) (fun _ x1 _ _ _ _ _ _ _ _ _ _ _ _ _ _ => x1) t⟩
  | 2 => ⟨fun t => S16.rec (motive := fun _ => α) (fun _ _ x2 _ _ _ _ _ _ _ _ _ _ _ _ _ => x2) t⟩
  | 3 => ⟨fun t => S16.rec (motive := fun _ => α) (fun _ _ _ x3 _ _ _ _ _ _ _ _ _ _ _ _ => x3) t⟩
  | 4 => ⟨fun t => S16.rec (motive := fun _ => α) (fun _ _ _ _ x4 _ _ _ _ _ _ _ _ _ _ _ => x4) t⟩
  | 5 => ⟨fun t => S16.rec (motive := fun _ => α) (fun _ _ _ _ _ x5 _ _ _ _ _ _ _ _ _ _ => x5) t⟩
  | 6 => ⟨fun t => S16.rec (motive := fun _ => α) (fun _ _ _ _ _ _ x6 _ _ _ _ _ _ _ _ _ => x6) t⟩
  | 7 => ⟨fun t => S16.rec (motive := fun _ => α) (fun _ _ _ _ _ _ _ x7 _ _ _ _ _ _ _ _ => x7) t⟩
  | 8 => ⟨fun t => S16.rec (motive := fun _ => α) (fun _ _ _ _ _ _ _ _ x8 _ _ _ _ _ _ _ => x8) t⟩
  | 9 => ⟨fun t => S16.rec (motive := fun _ => α) (fun _ _ _ _ _ _ _ _ _ x9 _ _ _ _ _ _ => x9) t⟩
  | 10 => ⟨fun t => S16.rec (motive := fun _ => α) (fun _ _ _ _ _ _ _ _ _ _ x10 _ _ _ _ _ => x10) t⟩
  | 11 => ⟨fun t => S16.rec (motive := fun _ => α) (fun _ _ _ _ _ _ _ _ _ _ _ x11 _ _ _ _ => x11) t⟩
  | 12 => ⟨fun t => S16.rec (motive := fun _ => α) (fun _ _ _ _ _ _ _ _ _ _ _ _ x12 _ _ _ => x12) t⟩
  | 13 => ⟨fun t => S16.rec (motive := fun _ => α) (fun _ _ _ _ _ _ _ _ _ _ _ _ _ x13 _ _ => x13) t⟩
  | 14 => ⟨fun t => S16.rec (motive := fun _ => α) (fun _ _ _ _ _ _ _ _ _ _ _ _ _ _ x14 _ => x14) t⟩
  | _ => ⟨fun t => S16.rec (motive := fun _ => α) (fun _ _ _ _ _ _ _ _ _ _ _ _ _ _ _ x15 => x15) t⟩
def u16 {α : Type} : Nat → U16 α
  | 0 => ⟨fun f t => S16.rec (motive := fun _ => S16 α) (fun x0 x1 x2 x3 x4 x5 x6 x7 x8 x9 x10 x11 x12 x13 x14 x15 => S16.mk (f x0) x1 x2 x3 x4 x5 x6 x7 x8 x9 x10 x11 x12 x13 x14 x15) t⟩
  | 1 => ⟨fun f t => S16.rec (motive := fun _ => S16 α) (fun x0 x1 x2 x3 x4 x5 x6 x7 x8 x9 x10 x11 x12 x13 x14 x15 => S16.mk x0 (f x1) x2 x3 x4 x5 x6 x7 x8 x9 x10 x11 x12 x13 x14 x15) t⟩
  | 2 => ⟨fun f t => S16.rec (motive := fun _ => S16 α) (fun x0 x1 x2 x3 x4 x5 x6 x7 x8 x9 x10 x11 x12 x13 x14 x15 => S16.mk x0 x1 (f x2) x3 x4 x5 x6 x7 x8 x9 x10 x11 x12 x13 x14 x15) t⟩
  | 3 => ⟨fun f t => S16.rec (motive := fun _ => S16 α) (fun x0 x1 x2 x3 x4 x5 x6 x7 x8 x9 x10 x11 x12 x13 x14 x15 => S16.mk x0 x1 x2 (f x3) x4 x5 x6 x7 x8 x9 x10 x11 x12 x13 x14 x15) t⟩
  | 4 => ⟨fun f t => S16.rec (motive := fun _ => S16 α) (fun x0 x1 x2 x3 x4 x5 x6 x7 x8 x9 x10 x11 x12 x13 x14 x15 => S16.mk x0 x1 x2 x3 (f x4) x5 x6 x7 x8 x9 x10 x11 x12 x13 x14 x15) t⟩
  | 5 => ⟨fun f t => S16.rec (motive := fun _ => S16 α) (fun x0 x1 x2 x3 x4 x5 x6 x7 x8 x9 x10 x11 x12 x13 x14 x15 => S16.mk x0 x1 x2 x3 x4 (f x5) x6 x7 x8 x9 x10 x11 x12 x13 x14 x15) t⟩
  | 6 => ⟨fun f t => S16.rec (motive := fun _ => S16 α) (fun x0 x1 x2 x3 x4 x5 x6 x7 x8 x9 x10 x11 x12 x13 x14 x15 => S16.mk x0 x1 x2 x3 x4 x5 (f x6) x7 x8 x9 x10 x11 x12 x13 x14 x15) t⟩
  | 7 => ⟨fun f t => S16.rec (motive := fun _ => S16 α) (fun x0 x1 x2 x3 x4 x5 x6 x7 x8 x9 x10 x11 x12 x13 x14 x15 => S16.mk x0 x1 x2 x3 x4 x5 x6 (f x7) x8 x9 x10 x11 x12 x13 x14 x15) t⟩
  | 8 => ⟨fun f t => S16.rec (motive := fun _ => S16 α) (fun x0 x1 x2 x3 x4 x5 x6 x7 x8 x9 x10 x11 x12 x13 x14 x15 => S16.mk x0 x1 x2 x3 x4 x5 x6 x7 (f x8) x9 x10 x11 x12 x13 x14 x15) t⟩
  | 9 => ⟨fun f t => S16.rec (motive := fun _ => S16 α) (fun x0 x1 x2 x3 x4 x5 x6 x7 x8 x9 x10 x11 x12 x13 x14 x15 => S16.mk x0 x1 x2 x3 x4 x5 x6 x7 x8 (f x9) x10 x11 x12 x13 x14 x15) t⟩
  | 10 => ⟨fun f t => S16.rec (motive := fun _ => S16 α) (fun x0 x1 x2 x3 x4 x5 x6 x7 x8 x9 x10 x11 x12 x13 x14 x15 => S16.mk x0 x1 x2 x3 x4 x5 x6 x7 x8 x9 (f x10) x11 x12 x13 x14 x15) t⟩
  | 11 => ⟨fun f t => S16.rec (motive := fun _ => S16 α) (fun x0 x1 x2 x3 x4 x5 x6 x7 x8 x9 x10 x11 x12 x13 x14 x15 => S16.mk x0 x1 x2 x3 x4 x5 x6 x7 x8 x9 x10 (f x11) x12 x13 x14 x15) t⟩
  | 12 => ⟨fun f t => S16.rec (motive := fun _ => S16 α) (fun x0 x1 x2 x3 x4 x5 x6 x7 x8 x9 x10 x11 x12 x13 x14 x15 => S16.mk x0 x1 x2 x3 x4 x5 x6 x7 x8 x9 x10 x11 (f x12) x13 x14 x15) t⟩
  | 13 => ⟨fun f t => S16.rec (motive := fun _ => S16 α) (fun x0 x1 x2 x3 x4 x5 x6 x7 x8 x9 x10 x11 x12 x13 x14 x15 => S16.mk x0 x1 x2 x3 x4 x5 x6 x7 x8 x9 x10 x11 x12 (f x13) x14 x15) t⟩
  | 14 => ⟨fun f t => S16.rec (motive := fun _ => S16 α) (fun x0 x1 x2 x3 x4 x5 x6 x7 x8 x9 x10 x11 x12 x13 x14 x15 => S16.mk x0 x1 x2 x3 x4 x5 x6 x7 x8 x9 x10 x11 x12 x13 (f x14) x15) t⟩
  | _ => ⟨fun f t => S16.rec (motive := fun _ => S16 α) (fun x0 x1 x2 x3 x4 x5 x6 x7 x8 x9 x10 x11 x12 x13 x14 x15 => S16.mk x0 x1 x2 x3 x4 x5 x6 x7 x8 x9 x10 x11 x12 x13 x14 (f x15)) t⟩
theorem below16 {a : Nat} (h : a < 16) : a = 0 ∨ a = 1 ∨ a = 2 ∨ a = 3 ∨ a = 4 ∨ a = 5 ∨ a = 6 ∨ a = 7 ∨ a = 8 ∨ a = 9 ∨ a = 10 ∨ a = 11 ∨ a = 12 ∨ a = 13 ∨ a = 14 ∨ a = 15 := by omega
theorem g16_u16 {α : Type} {a b : Nat} (ha : a < 16) (hb : b < 16) (f : α → α) (x : S16 α) : G16.get (g16 a) (U16.upd (u16 b) f x) = if a = b then f (G16.get (g16 a) x) else G16.get (g16 a) x := by
  cases x
  rcases below16 ha with rfl | rfl | rfl | rfl | rfl | rfl | rfl | rfl | rfl | rfl | rfl | rfl | rfl | rfl | rfl | rfl <;> rcases below16 hb with rfl | rfl | rfl | rfl | rfl | rfl | rfl | rfl | rfl | rfl | rfl | rfl | rfl | rfl | rfl | rfl <;> rfl
def all16 {α : Type} (x : α) : S16 α := ⟨x, x, x, x, x, x, x, x, x, x, x, x, x, x, x, x⟩
theorem g16_all {α : Type} {a : Nat} (ha : a < 16) (x : α) : G16.get (g16 a) (all16 x) = x := by
  rcases below16 ha with rfl | rfl | rfl | rfl | rfl | rfl | rfl | rfl | rfl | rfl | rfl | rfl | rfl | rfl | rfl | rfl <;> rfl

/-- A number worked out before it is handed on. -/
def forceN {α : Type} (n : Nat) (k : Nat → α) : α := Nat.rec (motive := fun _ => α) (k 0) (fun m _ => k (Nat.succ m)) n
theorem forceN_eq {α : Type} (n : Nat) (k : Nat → α) : forceN n k = k n := by cases n <;> rfl

/-- An array without an end. -/
structure Tr (α : Type) where
  a : S16 (Option α)
  b : S16 (S16 (Option α))
  c : S16 (S16 (S16 (S16 (Option α))))
  d : Bt α
def Tr.nil {α : Type} : Tr α := ⟨all16 none, all16 (all16 none), all16 (all16 (all16 (all16 none))), .nil⟩
instance {α : Type} : Inhabited (Tr α) := ⟨.nil⟩

def get1 {α : Type} (n : Nat) (x : S16 α) : α := forceN n fun i => G16.get (g16 i) x
def upd1 {α : Type} (n : Nat) (f : α → α) (x : S16 α) : S16 α := forceN n fun i => U16.upd (u16 i) f x
theorem get1_upd1 {α : Type} {a b : Nat} (ha : a < 16) (hb : b < 16) (f : α → α) (x : S16 α) : get1 a (upd1 b f x) = if a = b then f (get1 a x) else get1 a x := by
  unfold get1 upd1
  simp only [forceN_eq]
  exact g16_u16 ha hb f x
theorem get1_all {α : Type} {a : Nat} (ha : a < 16) (x : α) : get1 a (all16 x) = x := by
  unfold get1; rw [forceN_eq]; exact g16_all ha x

def Tr.get {α : Type} (t : Tr α) (n : Nat) : Option α :=
  Tr.rec (motive := fun _ => Option α) (fun a b c d =>
    Bool.rec (motive := fun _ => Option α)
      (Bool.rec (motive := fun _ => Option α)
        (Bool.rec (motive := fun _ => Option α) (d.get n)
          (get1 (Nat.mod n 16) (get1 (Nat.mod (Nat.div n 16) 16) (get1 (Nat.mod (Nat.div n 256) 16) (get1 (Nat.div n 4096) c)))) (Nat.blt n 65536))
        (get1 (Nat.mod n 16) (get1 (Nat.div n 16) b)) (Nat.blt n 256))
      (get1 n a) (Nat.blt n 16)) t

def Tr.set {α : Type} (x : α) (t : Tr α) (n : Nat) : Tr α :=
  Tr.rec (motive := fun _ => Tr α) (fun a b c d =>
    Bool.rec (motive := fun _ => Tr α)
      (Bool.rec (motive := fun _ => Tr α)
        (Bool.rec (motive := fun _ => Tr α) (Tr.mk a b c (d.set x n))
          (Tr.mk a b (upd1 (Nat.div n 4096) (upd1 (Nat.mod (Nat.div n 256) 16) (upd1 (Nat.mod (Nat.div n 16) 16) (upd1 (Nat.mod n 16) fun _ => some x))) c) d) (Nat.blt n 65536))
        (Tr.mk a (upd1 (Nat.div n 16) (upd1 (Nat.mod n 16) fun _ => some x) b) c d) (Nat.blt n 256))
      (Tr.mk (upd1 n (fun _ => some x) a) b c d) (Nat.blt n 16)) t

theorem blt_t {n m : Nat} (h : n < m) : Nat.blt n m = true := Nat.ble_eq_true_of_le h
theorem blt_f {n m : Nat} (h : ¬ n < m) : Nat.blt n m = false := by
  cases hb : Nat.blt n m with
  | false => rfl
  | true => exact (h (Nat.le_of_ble_eq_true hb)).elim

theorem Tr.get_a {α : Type} (t : Tr α) {n : Nat} (h : n < 16) : t.get n = get1 n t.a := by
  cases t
  unfold Tr.get
  rw [blt_t h]
theorem Tr.get_b {α : Type} (t : Tr α) {n : Nat} (h : ¬ n < 16) (h2 : n < 256) : t.get n = get1 (n % 16) (get1 (n / 16) t.b) := by
  cases t
  unfold Tr.get
  rw [blt_f h, blt_t h2]
  rfl
theorem Tr.get_c {α : Type} (t : Tr α) {n : Nat} (h : ¬ n < 16) (h2 : ¬ n < 256) (h3 : n < 65536) : t.get n = get1 (n % 16) (get1 (n / 16 % 16) (get1 (n / 256 % 16) (get1 (n / 4096) t.c))) := by
  cases t
  unfold Tr.get
  rw [blt_f h, blt_f h2, blt_t h3]
  rfl
theorem Tr.get_d {α : Type} (t : Tr α) {n : Nat} (h : ¬ n < 16) (h2 : ¬ n < 256) (h3 : ¬ n < 65536) : t.get n = t.d.get n := by
  cases t
  unfold Tr.get
  rw [blt_f h, blt_f h2, blt_f h3]
theorem Tr.set_a {α : Type} (x : α) (t : Tr α) {n : Nat} (h : n < 16) : t.set x n = ⟨upd1 n (fun _ => some x) t.a, t.b, t.c, t.d⟩ := by
  cases t
  unfold Tr.set
  rw [blt_t h]
theorem Tr.set_b {α : Type} (x : α) (t : Tr α) {n : Nat} (h : ¬ n < 16) (h2 : n < 256) : t.set x n = ⟨t.a, upd1 (n / 16) (upd1 (n % 16) fun _ => some x) t.b, t.c, t.d⟩ := by
  cases t
  unfold Tr.set
  rw [blt_f h, blt_t h2]
  rfl
theorem Tr.set_c {α : Type} (x : α) (t : Tr α) {n : Nat} (h : ¬ n < 16) (h2 : ¬ n < 256) (h3 : n < 65536) : t.set x n = ⟨t.a, t.b, upd1 (n / 4096) (upd1 (n / 256 % 16) (upd1 (n / 16 % 16) (upd1 (n % 16) fun _ => some x))) t.c, t.d⟩ := by
  cases t
  unfold Tr.set
  rw [blt_f h, blt_f h2, blt_t h3]
  rfl
theorem Tr.set_d {α : Type} (x : α) (t : Tr α) {n : Nat} (h : ¬ n < 16) (h2 : ¬ n < 256) (h3 : ¬ n < 65536) : t.set x n = ⟨t.a, t.b, t.c, t.d.set x n⟩ := by
  cases t
  unfold Tr.set
  rw [blt_f h, blt_f h2, blt_f h3]

theorem Tr.get_nil {α : Type} (n : Nat) : (Tr.nil : Tr α).get n = none := by
  by_cases h : n < 16
  · rw [Tr.get_a _ h]; exact get1_all h none
  · by_cases h2 : n < 256
    · rw [Tr.get_b _ h h2]
      show get1 (n % 16) (get1 (n / 16) (all16 (all16 none))) = none
      rw [get1_all (by omega), get1_all (by omega)]
    · by_cases h3 : n < 65536
      · rw [Tr.get_c _ h h2 h3]
        show get1 (n % 16) (get1 (n / 16 % 16) (get1 (n / 256 % 16) (get1 (n / 4096) (all16 (all16 (all16 (all16 none))))))) = none
        rw [get1_all (by omega), get1_all (by omega), get1_all (by omega), get1_all (by omega)]
      · rw [Tr.get_d _ h h2 h3]; rfl

theorem Tr.get_set {α : Type} (x : α) (t : Tr α) (n m : Nat) : (t.set x n).get m = if m = n then some x else t.get m := by
  by_cases h : n < 16
  · rw [Tr.set_a x t h]
    by_cases k : m < 16
    · rw [Tr.get_a _ k, Tr.get_a _ k, get1_upd1 k h]
    · rw [if_neg (by omega)]
      by_cases k2 : m < 256
      · rw [Tr.get_b _ k k2, Tr.get_b _ k k2]
      · by_cases k3 : m < 65536
        · rw [Tr.get_c _ k k2 k3, Tr.get_c _ k k2 k3]
        · rw [Tr.get_d _ k k2 k3, Tr.get_d _ k k2 k3]
  · by_cases h2 : n < 256
    · rw [Tr.set_b x t h h2]
      by_cases k : m < 16
      · rw [if_neg (by omega), Tr.get_a _ k, Tr.get_a _ k]
      · by_cases k2 : m < 256
        · rw [Tr.get_b _ k k2, Tr.get_b _ k k2, get1_upd1 (by omega) (by omega)]
          by_cases e : m / 16 = n / 16
          · rw [if_pos e, get1_upd1 (by omega) (by omega)]
            by_cases e2 : m % 16 = n % 16
            · rw [if_pos e2, if_pos (by omega)]
            · rw [if_neg e2, if_neg (by omega)]
          · rw [if_neg e, if_neg (by omega)]
        · rw [if_neg (by omega)]
          by_cases k3 : m < 65536
          · rw [Tr.get_c _ k k2 k3, Tr.get_c _ k k2 k3]
          · rw [Tr.get_d _ k k2 k3, Tr.get_d _ k k2 k3]
    · by_cases h3 : n < 65536
      · rw [Tr.set_c x t h h2 h3]
        by_cases k : m < 16
        · rw [if_neg (by omega), Tr.get_a _ k, Tr.get_a _ k]
        · by_cases k2 : m < 256
          · rw [if_neg (by omega), Tr.get_b _ k k2, Tr.get_b _ k k2]
          · by_cases k3 : m < 65536
            · rw [Tr.get_c _ k k2 k3, Tr.get_c _ k k2 k3, get1_upd1 (by omega) (by omega)]
              by_cases e : m / 4096 = n / 4096
              · rw [if_pos e, get1_upd1 (by omega) (by omega)]
                by_cases e1 : m / 256 % 16 = n / 256 % 16
                · rw [if_pos e1, get1_upd1 (by omega) (by omega)]
                  by_cases e2 : m / 16 % 16 = n / 16 % 16
                  · rw [if_pos e2, get1_upd1 (by omega) (by omega)]
                    by_cases e3 : m % 16 = n % 16
                    · rw [if_pos e3, if_pos (by omega)]
                    · rw [if_neg e3, if_neg (by omega)]
                  · rw [if_neg e2, if_neg (by omega)]
                · rw [if_neg e1, if_neg (by omega)]
              · rw [if_neg e, if_neg (by omega)]
            · rw [if_neg (by omega), Tr.get_d _ k k2 k3, Tr.get_d _ k k2 k3]
      · rw [Tr.set_d x t h h2 h3]
        by_cases k : m < 16
        · rw [if_neg (by omega), Tr.get_a _ k, Tr.get_a _ k]
        · by_cases k2 : m < 256
          · rw [if_neg (by omega), Tr.get_b _ k k2, Tr.get_b _ k k2]
          · by_cases k3 : m < 65536
            · rw [if_neg (by omega), Tr.get_c _ k k2 k3, Tr.get_c _ k k2 k3]
            · rw [Tr.get_d _ k k2 k3, Tr.get_d _ k k2 k3, Bt.get_set]

end
end Pe

/- The evaluator: the code of a program run over an abstract heap; 'none' where it can not tell. -/
namespace Pe
open Go
noncomputable section

/-! ### Values -/
/-- The capacity of a slice: known; or not (an append has made it): then the cells of one element. -/
inductive Cap where
  | is (c : Nat)
  | up (es : Nat)

def Cap.known : Cap → Option Nat
  | .is c => some c
  | .up _ => none

def Cap.beq : Cap → Cap → Bool
  | .is a, .is b => a.beq b
  | .up a, .up b => a.beq b
  | _, _ => false

inductive AV where
  | int (k : IntKind) (n : Int)
  | bool (b : Bool)
  | str (s : List UInt8)
  | ptr (id off : Nat)
  | nilptr
  | sl (id off len : Nat) (cap : Cap)
  | nilsl
  | map (id : Nat)
  | nilmap
  | func (f : FuncId) (first captured : List AV)
  | yield (l : Nat)
  | nilfunc
  | iface (t : TypeId) (v : AV)
  | niliface
  | agg (cs : List AV)
  | tup (vs : List AV)
  | top
instance : Inhabited AV := ⟨.top⟩

def AV.isCell : AV → Bool
  | .agg _ | .tup _ | .top => false
  | _ => true

def AV.cells : AV → List AV
  | .agg cs => cs
  | v => [v]

/-- Equality of two values that bear no address (or the same), as Go's == has it; none where that can not be told here. -/
def beqBytes : List UInt8 → List UInt8 → Bool
  | [], [] => true
  | a :: x, b :: y => if a.toNat.beq b.toNat then beqBytes x y else false
  | _, _ => false

def eqCell : AV → AV → Option Bool
  | .int k a, .int k' b => if k = k' then some (a == b) else none
  | .bool a, .bool b => some (a == b)
  | .str a, .str b => some (beqBytes a b)
  | _, _ => none

def sameKind : AV → AV → Bool
  | .int k _, .int k' _ => k = k'
  | .bool _, .bool _ | .str _, .str _ => true
  | _, _ => false

def sameKinds : List AV → List AV → Bool
  | [], [] => true
  | a :: x, b :: y => sameKind a b && sameKinds x y
  | _, _ => false

def eqCells : List AV → List AV → Option Bool
  | [], [] => some true
  | a :: x, b :: y => match eqCell a b with
    | some true => eqCells x y
    | some false => some false
    | none => none
  | _, _ => none

inductive Jump where
  | exit (id : Nat)
  | goto (l : Nat)
  | ret
def Jump.code : Jump → Code
  | .exit id => .exit id
  | .goto l => .goto l
  | .ret => .ret

inductive Out where
  | norm
  | jump (j : Jump)

inductive AO where
  /-- n cells: those of t, else z over and over; fz: so many of the first may not be written (more than n: none may); wh: they are a whole block -/
  | cells (n : Nat) (z : List AV) (t : Tr AV) (elem : TypeId) (fz : Nat) (wh : Bool)
  | dead
  | map (es : List (AV × AV)) (ver : Nat)
  | siter (s : List UInt8) (pos : Nat)
  | miter (m : Option (Nat × Nat)) (seen : List AV)
  | loop (state : LoopState) (pending : Option Jump) (nt : Nat) (tmps : Tr AV) (params : List Tmp) (assign body : Code)

structure ADef where
  fv : AV
  args : List AV

structure Fr where
  nt : Nat
  tmps : Tr AV
  /-- deferred calls; none: the mark of a range over a function -/
  defers : List (Option ADef)
  /-- the frame of a round of such a range -/
  rnd : Bool

structure AW where
  heap : Tr AO
  next : Nat
  low : Nat

def AW.new (σ : AW) (o : AO) : AW := { σ with heap := σ.heap.set o σ.next, next := σ.next + 1 }
def AW.put (σ : AW) (id : Nat) (o : AO) : AW := { σ with heap := σ.heap.set o id, low := if id < σ.low then id else σ.low }

/-! ### Constants and types -/
def emb0 : Value → Option AV
  | .bool b => some (.bool b)
  | .int k n => some (.int k n)
  | .string s => some (.str s.data.toList)
  | .pointer none => some .nilptr
  | .slice none 0 0 => some .nilsl
  | .map none => some .nilmap
  | .nilFunc => some .nilfunc
  | .nilIface => some .niliface
  | _ => none

def embs : List Value → Option (List AV)
  | [] => some []
  | v :: vs => match emb0 v, embs vs with
    | some x, some xs => some (x :: xs)
    | _, _ => none

def emb : Value → Option AV
  | .agg cs => (embs cs.toList).map .agg
  | .tuple vs => if vs.size = 0 then some (.tup []) else none
  | v => emb0 v

def isAggT (P : Program) (t : TypeId) : Bool :=
  match P.underlying t with
  | some (.struct _) | some (.array _ _) => true
  | _ => false

def zeroA (P : Program) (t : TypeId) : Option AV := (P.info? t).bind fun i => i.zero.bind emb

def Fr.get (fr : Fr) (t : Tmp) : AV := match fr.tmps.get t with | some v => v | none => .top

def Fr.eval (fr : Fr) : Operand → Option AV
  | .tmp t => some (fr.get t)
  | .const v => emb v
  | .global _ => none
  | .func f => some (.func f [] [])

def Fr.evals (fr : Fr) : List Operand → Option (List AV)
  | [] => some []
  | x :: xs => match fr.eval x, fr.evals xs with
    | some v, some vs => some (v :: vs)
    | _, _ => none

def Fr.put (fr : Fr) (dst : Option Tmp) (v : AV) : Fr :=
  match dst with
  | some d => { fr with tmps := fr.tmps.set v d }
  | none => fr

/-! ### Cells -/
def cellAt (z : List AV) (t : Tr AV) (i : Nat) : Option AV :=
  match t.get i with
  | some v => some v
  | none => z[i % z.length]?

/-- k cells from i on. -/
def cellsFrom (z : List AV) (t : Tr AV) : Nat → Nat → Option (List AV)
  | _, 0 => some []
  | i, k + 1 => match cellAt z t i, cellsFrom z t (i + 1) k with
    | some v, some vs => some (v :: vs)
    | _, _ => none

def setFrom (t : Tr AV) (i : Nat) : List AV → Tr AV
  | [] => t
  | v :: vs => setFrom (t.set v i) (i + 1) vs

def loadC (σ : AW) (id off k : Nat) : Option (List AV) :=
  match σ.heap.get id with
  | some (.cells n z t _ _ _) => if off + k ≤ n then cellsFrom z t off k else none
  | _ => none

def storeC (σ : AW) (id off : Nat) (vs : List AV) : Option AW :=
  match σ.heap.get id with
  | some (.cells n z t e fz wh) => if off + vs.length ≤ n ∧ fz ≤ off ∧ vs.all AV.isCell then some (σ.put id (.cells n z (setFrom t off vs) e fz wh)) else none
  | _ => none

def loadV (P : Program) (σ : AW) (t : TypeId) : AV → Option AV
  | .ptr id off =>
    match P.underlying t with
    | none => none
    | some _ =>
      if P.cellsOf t = 0 then none
      else if isAggT P t then (loadC σ id off (P.cellsOf t)).map .agg
      else match loadC σ id off 1 with
        | some [c] => some c
        | _ => none
  | _ => none

/-! ### Arithmetic -/
def ltBytes : List UInt8 → List UInt8 → Bool
  | _, [] => false
  | [], _ :: _ => true
  | a :: x, b :: y => if a.toNat.blt b.toNat then true else if a.toNat.beq b.toNat then ltBytes x y else false

def binInt (op : BinOp) (k : IntKind) (a b : Int) : Option AV :=
  match op with
  | .add => some (.int k (k.wrap (a + b)))
  | .sub => some (.int k (k.wrap (a - b)))
  | .mul => some (.int k (k.wrap (a * b)))
  | .quo => if b = 0 then none else some (.int k (k.wrap (a.tdiv b)))
  | .rem => if b = 0 then none else some (.int k (a.tmod b))
  | .eql => some (.bool (a == b))
  | .neq => some (.bool (a != b))
  | .lss => some (.bool (decide (a < b)))
  | .leq => some (.bool (decide (a ≤ b)))
  | .gtr => some (.bool (decide (b < a)))
  | .geq => some (.bool (decide (b ≤ a)))
  | .and => some (.int k (k.wrap (BitVec.ofInt k.bits a &&& BitVec.ofInt k.bits b).toNat))
  | .or => some (.int k (k.wrap (BitVec.ofInt k.bits a ||| BitVec.ofInt k.bits b).toNat))
  | .xor => some (.int k (k.wrap (BitVec.ofInt k.bits a ^^^ BitVec.ofInt k.bits b).toNat))
  | .andNot => some (.int k (k.wrap (BitVec.ofInt k.bits a &&& ~~~(BitVec.ofInt k.bits b)).toNat))
  | .shl => if b < 0 then none else some (.int k (k.wrap (a * 2 ^ min b.toNat k.bits)))
  | .shr => if b < 0 then none else some (.int k (a.fdiv (2 ^ min b.toNat k.bits)))

def binStr (op : BinOp) (a b : List UInt8) : Option AV :=
  match op with
  | .add => if a.length + b.length < 4611686018427387904 then some (.str (a ++ b)) else none
  | .eql => some (.bool (beqBytes a b))
  | .neq => some (.bool (!beqBytes a b))
  | .lss => some (.bool (ltBytes a b))
  | .leq => some (.bool (ltBytes a b || beqBytes a b))
  | .gtr => some (.bool (!(ltBytes a b || beqBytes a b)))
  | .geq => some (.bool (!ltBytes a b))
  | _ => none

/-! ### Equality, by the type -/
def scalarT (P : Program) (t : TypeId) : Bool :=
  match P.underlying t with
  | some .bool | some (.int _) | some .string => true
  | _ => false

def flatFields (P : Program) : List Field → Nat → Bool
  | [], _ => true
  | f :: fs, i => scalarT P f.type && (f.name != "_") && f.offset.beq i && (P.cellsOf f.type).beq 1 && flatFields P fs (i + 1)

/-- A struct or an array of so many plain cells. -/
def flatT (P : Program) (t : TypeId) : Option Nat :=
  match P.underlying t with
  | some (.struct fs) => if flatFields P fs.toList 0 && !P.stoodInHeld t then some fs.size else none
  | some (.array n e) => if scalarT P e && (P.cellsOf e).beq 1 then some n else none
  | _ => none

/-- Does a plain value fit a plain type? -/
def scalarFits (P : Program) (t : TypeId) (x : AV) : Bool :=
  match P.underlying t, x with
  | some .bool, .bool _ => true
  | some (.int k), .int k' _ => k = k'
  | some .string, .str _ => true
  | _, _ => false

def fitsFields (P : Program) : List Field → List AV → Bool
  | [], [] => true
  | f :: fs, x :: xs => scalarFits P f.type x && fitsFields P fs xs
  | _, _ => false

def keyFits (P : Program) (t : TypeId) (x : AV) : Bool :=
  match x with
  | .agg cs => match P.underlying t with
    | some (.struct fs) => (flatT P t).isSome && fitsFields P fs.toList cs
    | some (.array n e) => (flatT P t).isSome && cs.length.beq n && cs.all (scalarFits P e)
    | _ => false
  | x => scalarFits P t x

def eqT (P : Program) (t : TypeId) (x y : AV) : Option Bool :=
  match P.underlying t with
  | some .bool => match x, y with
    | .bool a, .bool b => some (a == b)
    | _, _ => none
  | some (.pointer e) => match x, y with
    | .nilptr, .nilptr => some true
    | .nilptr, .ptr .. | .ptr .., .nilptr => some false
    | .ptr i a, .ptr j b => if i = j ∧ a = b ∧ P.cellsOf e ≠ 0 then some true else none
    | _, _ => none
  | some (.slice _) => match x, y with
    | .nilsl, .nilsl => some true
    | .nilsl, .sl .. | .sl .., .nilsl => some false
    | _, _ => none
  | some (.map _ _) => match x, y with
    | .nilmap, .nilmap => some true
    | .nilmap, .map _ | .map _, .nilmap => some false
    | _, _ => none
  | some (.func _ _ _) => match x, y with
    | .nilfunc, .nilfunc => some true
    | .nilfunc, .func .. | .func .., .nilfunc => some false
    | _, _ => none
  | some (.interface _) => match x, y with
    | .niliface, .iface .. | .iface .., .niliface => some false
    | _, _ => none
  | some (.struct _) | some (.array _ _) => match x, y with
    | .agg a, .agg b => if keyFits P t (.agg a) && keyFits P t (.agg b) then eqCells a b else none
    | _, _ => none
  | _ => none

/-- A binary operation; shifts may have operands of two kinds. -/
def bin (P : Program) (op : BinOp) (t : TypeId) (x y : AV) : Option AV :=
  match x, y with
  | .int k a, .int k' b => if k = k' ∨ op = .shl ∨ op = .shr then binInt op k a b else none
  | .str a, .str b => binStr op a b
  | x, y => match op with
    | .eql => (eqT P t x y).map .bool
    | .neq => (eqT P t x y).map fun r => .bool !r
    | _ => none

/-! ### What an operation does, by its operands' values -/
inductive Rd where
  | load (t : TypeId) (a : AV)
  | lookup (zero : AV) (m k : AV) (ok : Bool)
  | len (m : Nat)
  | text (id off len : Nat)
  | entry (it : Nat)
  | cast (id off : Nat) (to : Option TypeId)

inductive Eff where
  | store (t : TypeId) (a v : AV)
  | append (e : TypeId) (s x : AV)
  | copy (e : TypeId) (d x : AV)
  | mapPut (m : Nat) (k v : AV)
  | nextS (it : Nat)
  | share (id off len : Nat) (u : TypeId)

inductive Act1 where
  | val (v : AV)
  | rd (r : Rd)
  | mk (o : AO) (sl : Option (Nat × Cap)) (map : Bool)     -- a pointer, or a slice of so many (and capacity), or a map
  | eff (e : Eff)
  | call (fv : AV) (args : List AV)
  | pan (v : AV)
  | dfr (d : ADef)
  | rcv
  | nextM (it : Nat)
  | rngM (m : Nat)

def mkVal (sl : Option (Nat × Cap)) (map : Bool) (id : Nat) : AV :=
  match sl with
  | some (len, cap) => .sl id 0 len cap
  | none => if map then .map id else .ptr id 0

def findK (k : AV) : List (AV × AV) → Option (Option AV)
  | [] => some none
  | (k', v) :: es => match eqKey k k' with
    | some true => some (some v)
    | some false => findK k es
    | none => none
  where eqKey : AV → AV → Option Bool
  | .agg a, .agg b => if sameKinds a b then eqCells a b else none
  | a, b => eqCell a b

def putK (k v : AV) : List (AV × AV) → Option (List (AV × AV))
  | [] => some [(k, v)]
  | (k', v') :: es => match findK.eqKey k k' with
    | some true => some ((k, v) :: es)
    | some false => (putK k v es).map ((k', v') :: ·)
    | none => none

def bytesOf : List AV → Option (List UInt8)
  | [] => some []
  | .int .u8 n :: vs => (bytesOf vs).map (UInt8.ofNat n.toNat :: ·)
  | _ => none

def rdVal (P : Program) (σ : AW) : Rd → Option AV
  | .load t a => loadV P σ t a
  | .lookup z m k ok =>
    match (match m with
      | .nilmap => some []
      | .map id => match σ.heap.get id with | some (.map es _) => some es | _ => none
      | _ => none) with
    | some es => match findK k es with
      | some (some v) => some (if ok then .tup [v, .bool true] else v)
      | some none => some (if ok then .tup [z, .bool false] else z)
      | none => none
    | none => none
  | .len m => match σ.heap.get m with | some (.map es _) => some (.int .i64 es.length) | _ => none
  | .text id off len => match loadC σ id off len with
    | some cs => (bytesOf cs).map .str
    | none => none
  | .entry it => match σ.heap.get it with
    | some (.miter (some (m, ver)) (k :: _)) => match σ.heap.get m with
      | some (.map es ver') => if ver = ver' then (match findK k es with | some (some v) => some (.tup [k, v]) | _ => none) else none
      | _ => none
    | _ => none
  | .cast id off to => match σ.heap.get id with
    | some (.cells n _ _ e _ wh) => match to with
      | none => if off < n then some (.ptr id off) else none
      | some u => if wh = true ∧ off = 0 ∧ n = P.cellsOf e ∧ 0 < n ∧ P.underlyingId e = P.underlyingId u ∧ P.cellsOf u ≠ 0 then some (.ptr id off) else none
    | _ => none

def lenA : AV → Option Nat
  | .nilsl => some 0
  | .sl _ _ n _ => some n
  | .str s => some s.length
  | _ => none

/-- The first n elements of a slice, or bytes of a string, as cells. -/
def elemsA (σ : AW) (size : Nat) (n : Nat) : AV → Option (List AV)
  | .nilsl => some []
  | .sl id off _ _ => loadC σ id off (n * size)
  | .str s => some ((s.take n).map fun b => .int .u8 b.toNat)
  | _ => none

/-- The greatest number of bytes that an append may ask for here. -/
def roomA : Nat := 2 ^ 40

def appendA (P : Program) (e : TypeId) (s : AV) (new : List AV) (n : Nat) (σ : AW) : Option (AV × AW) :=
  let size := P.cellsOf e
  match P.info? e, zeroA P e with
  | none, _ => none
  | some _, none => none
  | some info, some zr =>
  if new.length ≠ n * size ∨ !new.all AV.isCell ∨ zr.cells.length ≠ size ∨ !zr.cells.all AV.isCell then none else
  match s with
  | .nilsl =>
    if n = 0 then some (.nilsl, σ) else
    if n * (info.bytes + 1) > roomA then none else
    some (.sl σ.next 0 n (.up size), σ.new (.cells (n * size) new .nil e 0 false))
  | .sl id off len cap =>
    if n = 0 then some (s, σ) else
    if (len + n) * (info.bytes + 1) > roomA then none else
    match σ.heap.get id with
    | some (.cells m z t e' fz _) =>
      if off + len * size ≤ m then
        match cap with
        | .is c =>
          if len + n ≤ c then
            (storeC σ id (off + len * size) new).map fun σ' => (.sl id off (len + n) cap, σ')
          else match cellsFrom z t off (len * size) with
            | some old => some (.sl σ.next 0 (len + n) (.up size), σ.new (.cells ((len + n) * size) (old ++ new) .nil e 0 false))
            | none => none
        | .up es =>
          if e' = e ∧ fz ≤ off + len * size ∧ es = size then
            if off = 0 then
              some (.sl σ.next 0 (len + n) (.up size), (σ.put id .dead).new (.cells ((len + n) * size) z (setFrom t (len * size) new) e fz false))
            else match cellsFrom z t off (len * size) with
              | some old => some (.sl σ.next 0 (len + n) (.up size), (σ.put id .dead).new (.cells ((len + n) * size) (old ++ new) .nil e (fz - off) false))
              | none => none
          else none
      else none
    | _ => none
  | _ => none

/-- How many are frozen, once some are. -/
def fzShare (n fz off len : Nat) : Nat := if fz ≤ n then (if fz < off + len then off + len else fz) else n + 1

def effRun (P : Program) (σ : AW) : Eff → Option (AV × AW)
  | .store t a v => match a with
    | .ptr id off =>
      let cs := v.cells
      if cs.length = P.cellsOf t ∧ P.cellsOf t ≠ 0 then (storeC σ id off cs).map fun σ' => (.tup [], σ') else none
    | _ => none
  | .append e s x => match lenA x with
    | some n => match elemsA σ (P.cellsOf e) n x with
      | some cs => appendA P e s cs n σ
      | none => none
    | none => none
  | .copy e d x => if (P.info? e).isNone then none else match lenA x, lenA d with
    | some a, some b => match elemsA σ (P.cellsOf e) (Nat.min a b) x with
      | some cs => match d with
        | .nilsl => some (.int .i64 0, σ)
        | .sl id off _ _ => (storeC σ id off cs).map fun σ' => (.int .i64 (Nat.min a b), σ')
        | _ => none
      | none => none
    | _, _ => none
  | .mapPut m k v => match σ.heap.get m with
    | some (.map es ver) => (putK k v es).map fun es' => (.tup [], σ.put m (.map es' (ver + 1)))
    | _ => none
  | .nextS it => match σ.heap.get it with
    | some (.siter s pos) =>
      if pos < s.length then
        let cw := Utf8.decode ⟨s.toArray⟩ pos
        some (.tup [.bool true, .int .i64 pos, .int .i32 cw.1], σ.put it (.siter s (pos + cw.2)))
      else some (.tup [.bool false], σ)
    | _ => none
  | .share id off len u => match σ.heap.get id with
    | some (.cells n z t e fz wh) => if off + len ≤ n ∧ P.cellsOf e = 1 ∧ P.underlyingId e = P.underlyingId u ∧ len < 4611686018427387904 then
        match cellsFrom z t off len with
        | some cs => (bytesOf cs).map fun s => (.str s, σ.put id (.cells n z t e (fzShare n fz off len) wh))
        | none => none
      else none
    | _ => none

end
end Pe

/- The evaluator, second part: operations, regions, calls. -/
namespace Pe
open Go
noncomputable section

def asI : AV → Option Int
  | .int _ n => some n
  | _ => none

/-- How far a slice expression may go. -/
def limA (len : Nat) : Option Nat → Nat
  | some c => c
  | none => len

/-- The bounds of a slice expression: low, high, and the new capacity's end (counted from the old start). -/
def boundsA (len : Nat) (cap : Option Nat) (lo hi mx : Option AV) : Option (Nat × Nat × Option Nat) :=
  let m : Option (Option Nat) := match mx with
    | none => some cap
    | some v => match asI v with
      | some i => if 0 ≤ i ∧ i ≤ limA len cap then some (some i.toNat) else none
      | none => none
  match m with
  | none => none
  | some m =>
    let h : Option Nat := match hi with
      | none => if mx.isSome then none else some len
      | some v => match asI v with
        | some i => if 0 ≤ i ∧ i ≤ limA len m then some i.toNat else none
        | none => none
    match h with
    | none => none
    | some h => match lo with
      | none => some (0, h, m)
      | some v => match asI v with
        | some i => if 0 ≤ i ∧ i ≤ h then some (i.toNat, h, m) else none
        | none => none

def sliceA (size id off : Nat) (b : Nat × Nat × Option Nat) : AV :=
  match b.2.2 with
  | some m => .sl id (if m = b.1 then off else off + b.1 * size) (b.2.1 - b.1) (.is (m - b.1))
  | none => .sl id (off + b.1 * size) (b.2.1 - b.1) (.up size)

def capFits (size : Nat) : Cap → Bool
  | .is _ => true
  | .up es => es.beq size

def Fr.evalO (fr : Fr) : Option Operand → Option (Option AV)
  | none => some none
  | some x => (fr.eval x).map some

/-- Parts laid into cells. -/
def fillA (place : Nat → Option (Nat × Nat)) (n : Nat) : Tr AV → List (Nat × AV) → Option (Tr AV)
  | t, [] => some t
  | t, (i, v) :: rest => match place i with
    | none => none
    | some (off, size) =>
      if v.cells.length = size ∧ off + size ≤ n ∧ v.cells.all AV.isCell then fillA place n (setFrom t off v.cells) rest else none

def Fr.evalP (fr : Fr) : List (Nat × Operand) → Option (List (Nat × AV))
  | [] => some []
  | (i, x) :: xs => match fr.eval x, fr.evalP xs with
    | some v, some vs => some ((i, v) :: vs)
    | _, _ => none

def partA (P : Program) (t : TypeId) (cs : List AV) (off : Nat) : Option AV :=
  match P.underlying t with
  | none => none
  | some _ =>
    if P.cellsOf t = 0 then none
    else if isAggT P t then (if off + P.cellsOf t ≤ cs.length then some (.agg ((cs.drop off).take (P.cellsOf t))) else none)
    else cs[off]?

def convA (P : Program) (s d : TypeId) (x : AV) : Option Act1 :=
  match P.underlying s, P.underlying d with
  | some (.int _), some (.int k) => match x with | .int _ n => some (.val (.int k (k.wrap n))) | _ => none
  | some .string, some .string => match x with | .str b => some (.val (.str b)) | _ => none
  | some .string, some (.slice e) => match P.underlying e, x with
    | some (.int .u8), .str b => some (.mk (.cells b.length (b.map fun c => .int .u8 c.toNat) .nil e (b.length + 1) false) (some (b.length, .up 1)) false)
    | _, _ => none
  | some (.slice e), some .string => match P.underlying e, x with
    | some (.int .u8), .nilsl => some (.val (.str []))
    | some (.int .u8), .sl id off len _ => some (.rd (.text id off len))
    | _, _ => none
  | some (.pointer t), some .unsafePointer => match x with | .ptr i o => if P.cellsOf t = 0 then none else some (.rd (.cast i o none)) | _ => none
  | some .unsafePointer, some (.pointer u) => match x with | .ptr i o => some (.rd (.cast i o (some u))) | _ => none
  | _, _ => none

def foldI (f : Int → Int → Int) (k : IntKind) : Int → List AV → Option AV
  | a, [] => some (.int k a)
  | a, .int k' b :: xs => if k = k' then foldI f k (f a b) xs else none
  | _, _ => none

def bltin (P : Program) (b : Builtin) (ts : Array TypeId) (xs : List AV) : Option Act1 :=
  match b, xs with
  | .len, [x] => match P.underlying (ts.getD 0 0), x with
    | some .string, .str s => some (.val (.int .i64 s.length))
    | some (.slice _), .nilsl => some (.val (.int .i64 0))
    | some (.slice _), .sl _ _ n _ => some (.val (.int .i64 n))
    | some (.array n _), _ => some (.val (.int .i64 n))
    | some (.map _ _), .nilmap => some (.val (.int .i64 0))
    | some (.map _ _), .map id => some (.rd (.len id))
    | _, _ => none
  | .cap, [.sl _ _ _ (.is c)] => match P.underlying (ts.getD 0 0) with | some (.slice _) => some (.val (.int .i64 c)) | _ => none
  | .cap, [.nilsl] => match P.underlying (ts.getD 0 0) with | some (.slice _) => some (.val (.int .i64 0)) | _ => none
  | .append, [s, x] => match P.underlying (ts.getD 0 0), P.underlying (ts.getD 1 0) with
    | some (.slice e), some .string => some (.eff (.append e s x))
    | some (.slice e), some (.slice _) => some (.eff (.append e s x))
    | _, _ => none
  | .copy, [d, x] => match P.underlying (ts.getD 0 0) with
    | some (.slice e) => some (.eff (.copy e d x))
    | _ => none
  | .min, .int k a :: xs => (foldI (fun a b => if b < a then b else a) k a xs).map .val
  | .max, .int k a :: xs => (foldI (fun a b => if b > a then b else a) k a xs).map .val
  | .recover, [] => some .rcv
  | .panic, [.iface t v] => some (.pan (.iface t v))
  | .unsafeSliceData, [x] => match x with | .nilsl => some (.val .nilptr) | .sl id off len _ => if len = 0 then none else some (.val (.ptr id off)) | _ => none
  | .unsafeString, [p, .int _ n] => match p with
    | .nilptr => if n = 0 then some (.val (.str [])) else none
    | .ptr id off => if 0 < n then (match P.underlying (ts.getD 0 0) with | some (.pointer u) => some (.eff (.share id off n.toNat u)) | _ => none) else if n = 0 then some (.val (.str [])) else none
    | _ => none
  | _, _ => none

def methodOf (P : Program) (t : TypeId) (name : String) : Option FuncId :=
  match P.info? t with
  | none => none
  | some i => match i.methods.find? (·.name == name) with
    | none => none
    | some m => if !m.path.isEmpty then none else match m.func, P.underlying t with
      | some (f, true), some (.pointer _) => some f
      | some (f, false), some d => if (d matches .pointer _) then none else some f
      | _, _ => none

def isConst : Operand → Bool
  | .const _ => true
  | _ => false

/-- Two nil values of an interface type, one of them the literal nil. -/
def nilEq (P : Program) (op : BinOp) (t : TypeId) (x y : Operand) : Option Bool :=
  match P.underlying t with
  | some (.interface _) => if isConst x || isConst y then (match op with | .eql => some true | .neq => some false | _ => none) else none
  | _ => none

/-- What an operation does. -/
def cls (P : Program) (fr : Fr) (o : Oper) : Option Act1 :=
  match o.op with
  | .move x | .assign x => (fr.eval x).map .val
  | .pick c a b => match fr.eval c with
    | some (.bool t) => (fr.eval (if t then a else b)).map .val
    | _ => none
  | .alloc t => match zeroA P t with
    | some z => if z.cells.length = P.cellsOf t ∧ z.cells.all AV.isCell then some (.mk (.cells (P.cellsOf t) z.cells .nil t 0 true) none false) else none
    | none => none
  | .box t x => match fr.eval x with
    | some v => if v.cells.all AV.isCell then some (.mk (.cells v.cells.length v.cells .nil t 0 true) none false) else none
    | none => none
  | .build t ps => match zeroA P t, fr.evalP ps.toList, P.underlying t with
    | some z, some vs, some (.struct fs) =>
      if !(fs.toList.all fun f => (P.info? f.type).isSome) || !z.cells.all AV.isCell then none else
      (fillA (fun i => (fs[i]?).map fun f => (f.offset, P.cellsOf f.type)) z.cells.length .nil vs).bind fun t => (cellsFrom z.cells t 0 z.cells.length).map fun cs => .val (.agg cs)
    | some z, some vs, some (.array _ e) =>
      if !(P.info? e).isSome || !z.cells.all AV.isCell then none else
      (fillA (fun i => some (i * P.cellsOf e, P.cellsOf e)) z.cells.length .nil vs).bind fun t => (cellsFrom z.cells t 0 z.cells.length).map fun cs => .val (.agg cs)
    | _, _, _ => none
  | .buildSlice t len ps => match P.underlying t with
    | some (.slice e) => match zeroA P e, fr.evalP ps.toList with
      | some z, some vs =>
        if z.cells.length = P.cellsOf e ∧ z.cells.all AV.isCell ∧ len * P.cellsOf e ≤ 16777216 then
          (fillA (fun i => some (i * P.cellsOf e, P.cellsOf e)) (len * P.cellsOf e) .nil vs).map fun t => .mk (.cells (len * P.cellsOf e) z.cells t e 0 true) (some (len, .is len)) false
        else none
      | _, _ => none
    | _ => none
  | .load t a => (fr.eval a).map fun v => .rd (.load t v)
  | .store t a v => match fr.eval a, fr.eval v with
    | some a, some v => some (.eff (.store t a v))
    | _, _ => none
  | .nilCheck x => match fr.eval x with
    | some (.ptr i o) => some (.val (.ptr i o))
    | some (.func f a c) => some (.val (.func f a c))
    | _ => none
  | .binOp op t x y _ => match fr.eval x, fr.eval y with
    | some .niliface, some .niliface => (nilEq P op t x y).map fun b => .val (.bool b)
    | some a, some b => (bin P op t a b).map .val
    | _, _ => none
  | .unOp op _ x => match op, fr.eval x with
    | .not, some (.bool b) => some (.val (.bool !b))
    | .neg, some (.int k n) => some (.val (.int k (k.wrap (0 - n))))
    | _, _ => none
  | .convert s d x => (fr.eval x).bind (convA P s d)
  | .makeInterface t x => match P.underlying t with
    | some (.interface _) | none => none
    | _ => (fr.eval x).map fun v => .val (.iface t v)
  | .makeFunc fn a c => match fn, fr.evals a.toList, fr.evals c.toList with
    | .func f, some a, some c => some (.val (.func f a c))
    | _, _, _ => none
  | .makeMap _ r => match r with
    | none => some (.mk (.map [] 0) none true)
    | _ => none
  | .makeSlice t l c => match P.underlying t, fr.eval l, fr.eval c with
    | some (.slice e), some (.int _ l), some (.int _ c) => match zeroA P e, P.info? e with
      | some z, some info =>
        if 0 ≤ l ∧ l ≤ c ∧ c.toNat * info.bytes ≤ roomA ∧ c < 1099511627776 ∧ z.cells.length = P.cellsOf e ∧ z.cells.all AV.isCell then
          some (.mk (.cells (c.toNat * P.cellsOf e) z.cells .nil e 0 true) (some (l.toNat, .is c.toNat)) false) else none
      | _, _ => none
    | _, _, _ => none
  | .slice t x lo hi mx => match fr.eval x, fr.evalO lo, fr.evalO hi, fr.evalO mx, P.underlying t with
    | some (.str s), some lo, some hi, some none, some .string => (boundsA s.length (some s.length) lo hi none).map fun b => .val (.str ((s.take b.2.1).drop b.1))
    | some .nilsl, some lo, some hi, some mx, some (.slice e) => if P.cellsOf e = 0 then none else (boundsA 0 (some 0) lo hi mx).map fun _ => .val .nilsl
    | some (.sl id off len cap), some lo, some hi, some mx, some (.slice e) => if P.cellsOf e = 0 ∨ capFits (P.cellsOf e) cap = false then none else (boundsA len cap.known lo hi mx).map fun b => .val (sliceA (P.cellsOf e) id off b)
    | some (.ptr id off), some lo, some hi, some mx, some (.array n e) => if P.cellsOf e = 0 then none else (boundsA n (some n) lo hi mx).map fun b => .val (sliceA (P.cellsOf e) id off b)
    | _, _, _, _, _ => none
  | .fieldAddr s x i => match P.underlying s, fr.eval x with
    | some (.struct fs), some (.ptr id off) => match fs[i]? with
      | some f => if P.cellsOf f.type = 0 then none else some (.val (.ptr id (off + f.offset)))
      | none => none
    | _, _ => none
  | .field s x i => match P.underlying s, fr.eval x with
    | some (.struct fs), some (.agg cs) => match fs[i]? with
      | some f => (partA P f.type cs f.offset).map .val
      | none => none
    | _, _ => none
  | .indexAddr t x i => match P.underlying t, fr.eval x, fr.eval i with
    | some (.array n e), some (.ptr id off), some (.int _ i) => if 0 ≤ i ∧ i < n ∧ P.cellsOf e ≠ 0 then some (.val (.ptr id (off + i.toNat * P.cellsOf e))) else none
    | some (.slice e), some (.sl id off len _), some (.int _ i) => if 0 ≤ i ∧ i < len ∧ P.cellsOf e ≠ 0 then some (.val (.ptr id (off + i.toNat * P.cellsOf e))) else none
    | _, _, _ => none
  | .index t x i => match P.underlying t, fr.eval x, fr.eval i with
    | some (.array n e), some (.agg cs), some (.int _ i) => if 0 ≤ i ∧ i < n ∧ P.cellsOf e ≠ 0 then (partA P e cs (i.toNat * P.cellsOf e)).map .val else none
    | some .string, some (.str s), some (.int _ i) => if 0 ≤ i then (s[i.toNat]?).map fun b => .val (.int .u8 b.toNat) else none
    | _, _, _ => none
  | .lookup t m k ok => match P.underlying t, fr.eval m, fr.eval k with
    | some (.map kt e), some m, some k => if keyFits P kt k then (zeroA P e).map fun z => .rd (.lookup z m k ok) else none
    | _, _, _ => none
  | .mapUpdate t m k v | .insert t m k v => match P.underlying t, fr.eval m, fr.eval k, fr.eval v with
    | some (.map kt _), some (.map id), some k, some v => if keyFits P kt k then some (.eff (.mapPut id k v)) else none
    | _, _, _, _ => none
  | .range t x => match P.underlying t, fr.eval x with
    | some .string, some (.str s) => some (.mk (.siter s 0) none false)
    | some (.map _ _), some .nilmap => some (.mk (.miter none []) none false)
    | some (.map _ _), some (.map m) => some (.rngM m)
    | _, _ => none
  | .next it isS => match fr.eval it with
    | some (.ptr id 0) => if isS then some (.eff (.nextS id)) else some (.nextM id)
    | _ => none
  | .entry it => match fr.eval it with
    | some (.ptr id 0) => some (.rd (.entry id))
    | _ => none
  | .typeAssert x _ a ok => match P.underlying a, fr.eval x with
    | some (.interface _), _ => none
    | some _, some (.iface t v) => if t = a then some (.val (if ok then .tup [v, .bool true] else v)) else if ok then (zeroA P a).map fun z => .val (.tup [z, .bool false]) else none
    | some _, some .niliface => if ok then (zeroA P a).map fun z => .val (.tup [z, .bool false]) else none
    | _, _ => none
  | .extract x i => match fr.eval x with
    | some (.tup vs) => (vs[i]?).map .val
    | _ => none
  | .call c => match fr.evals c.args.toList with
    | none => none
    | some xs => match c.callee with
      | .builtin b => if c.argTypes.size.beq xs.length then bltin P b c.argTypes xs else none
      | .value f => match fr.eval f with
        | some (.func f a cap) => some (.call (.func f [] []) (a ++ xs ++ cap))
        | some (.yield l) => some (.call (.yield l) xs)
        | _ => none
      | .invoke r name => match fr.eval r with
        | some (.iface t v) => match methodOf P t name with
          | some f => some (.call (.func f [] []) (v :: xs))
          | none => none
        | _ => none
  | .defer c => match fr.evals c.args.toList, c.callee with
    | some xs, .value f => match fr.eval f with
      | some (.func f a cap) => some (.dfr ⟨.func f a cap, xs⟩)
      | _ => none
    | _, _ => none
  | .panic x => match fr.eval x with
    | some (.iface t v) => some (.pan (.iface t v))
    | _ => none
  | _ => none

/-! ### Many results -/
def collect {α β : Type} (f : α → Option (List β)) : List α → Option (List β)
  | [] => some []
  | [x] => f x
  | x :: xs => match f x, collect f xs with
    | some a, some b => some (a ++ b)
    | _, _ => none

abbrev RC := Option (List (Out × Fr × AW))
abbrev RF := Option (List (AV × AW))

structure Evs where
  code : Code → Fr → AW → RC
  call : AV → List AV → AW → RF

structure Cfg where
  P : Program
  /-- pure functions, by contract -/
  ext : FuncId → List AV → AW → Option (AV × AW)
  /-- calls whose results may not depend on the order of a range over a map -/
  multi : FuncId → Bool

def dstOk (fr : Fr) (o : Oper) : Bool := match o.dst with | some d => d.blt fr.nt | none => true

def wantedA (fr : Fr) (ops : Array Oper) (o : Oper) : Option Bool :=
  if !dstOk fr o then none else
  match o.guard with
  | none => some true
  | some (j, b) => match (ops[j]?).bind (·.dst) with
    | none => some false
    | some d => match fr.get d with
      | .bool c => some (c == b)
      | .tup [] => some false
      | _ => none

/-- What a range over a map may give next. -/
def choicesM (σ : AW) (it : Nat) : Option (List (AV × AW)) :=
  match σ.heap.get it with
  | some (.miter none _) => some [(.tup [.bool false], σ)]
  | some (.miter (some (m, ver)) seen) => match σ.heap.get m with
    | some (.map es ver') =>
      if ver = ver' then
        match left es seen with
        | none => none
        | some [] => some [(.tup [.bool false], σ)]
        | some l => some (l.map fun kv => (.tup [.bool true, kv.1, kv.2], σ.put it (.miter (some (m, ver)) (kv.1 :: seen))))
      else none
    | _ => none
  | _ => none
  where
  isIn (k : AV) : List AV → Option Bool
    | [] => some false
    | x :: xs => match findK.eqKey k x with
      | some true => some true
      | some false => isIn k xs
      | none => none
  left : List (AV × AV) → List AV → Option (List (AV × AV))
    | [], _ => some []
    | kv :: es, seen => match isIn kv.1 seen, left es seen with
      | some true, some l => some l
      | some false, some l => some (kv :: l)
      | _, _ => none

/-- A region in the order of its text. -/
def runOps (C : Cfg) (E : Evs) (ops : Array Oper) : List Oper → Fr → AW → RC
  | [], fr, σ => some [(.norm, fr, σ)]
  | o :: rest, fr, σ => match wantedA fr ops o with
    | none => none
    | some false => runOps C E ops rest (fr.put o.dst (.tup [])) σ
    | some true => match cls C.P fr o with
      | none => none
      | some a => match a with
        | .val v => runOps C E ops rest (fr.put o.dst v) σ
        | .rd r => match rdVal C.P σ r with
          | some v => runOps C E ops rest (fr.put o.dst v) σ
          | none => none
        | .mk obj sl mp => runOps C E ops rest (fr.put o.dst (mkVal sl mp σ.next)) (σ.new obj)
        | .eff e => match effRun C.P σ e with
          | some (v, σ') => runOps C E ops rest (fr.put o.dst v) σ'
          | none => none
        | .dfr d => if fr.rnd then none else runOps C E ops rest ({ fr with defers := some d :: fr.defers }.put o.dst (.tup [])) σ
        | .rngM m => match σ.heap.get m with
          | some (.map _ ver) => runOps C E ops rest (fr.put o.dst (.ptr σ.next 0)) (σ.new (.miter (some (m, ver)) []))
          | _ => none
        | .nextM it => match choicesM σ it with
          | some l => collect (fun vs => runOps C E ops rest (fr.put o.dst vs.1) vs.2) l
          | none => none
        | .call fv xs => match E.call fv xs σ with
          | some l => collect (fun r => runOps C E ops rest (fr.put o.dst r.1) r.2) l
          | none => none
        | _ => none

/-- A value that names no object from a number on. -/
def AV.older (n : Nat) : AV → Bool
  | .ptr id _ | .sl id _ _ _ | .map id => id < n
  | .int .. | .bool _ | .str _ | .nilptr | .nilsl | .nilmap | .nilfunc | .niliface => true
  | _ => false

mutual
def AV.same : AV → AV → Bool
  | .int k a, .int k' b => k = k' && a == b
  | .bool a, .bool b => a == b
  | .str a, .str b => beqBytes a b
  | .ptr i a, .ptr j b => i.beq j && a.beq b
  | .sl i a n c, .sl j b m d => i.beq j && a.beq b && n.beq m && c.beq d
  | .map i, .map j => i.beq j
  | .nilptr, .nilptr | .nilsl, .nilsl | .nilmap, .nilmap | .nilfunc, .nilfunc | .niliface, .niliface => true
  | .tup a, .tup b => AV.sames a b
  | .func f a c, .func g b d => f.beq g && (AV.sames a b && AV.sames c d)
  | .iface t v, .iface u w => t.beq u && AV.same v w
  | .agg a, .agg b => AV.sames a b
  | _, _ => false
def AV.sames : List AV → List AV → Bool
  | [], [] => true
  | a :: as, b :: bs => AV.same a b && AV.sames as bs
  | _, _ => false
end


/-! ### A region that draws its order -/
structure TrD where
  /-- the effects so far, the last first: where, and the state before -/
  effs : List (Nat × AW)
  reads : List (Nat × Rd × AV)
  /-- the maps that literals fill, and the keys so far -/
  lits : List (Nat × AV)

def readsAs (P : Program) (σ : AW) (r : Rd) (v : AV) : Bool := match rdVal P σ r with | some v' => AV.same v' v | none => false

/-- Its operands name no object from a number on. -/
def oldV (n : Nat) : AV → Bool
  | .agg cs => cs.all (AV.older n)
  | v => v.older n
def opsOld (n : Nat) (fr : Fr) (o : Oper) : Bool := o.op.operands.toList.all fun x => match fr.eval x with | some u => oldV n u | none => true

/-- A read gives the same before every effect that may come after it. -/
def rdOk (P : Program) (b : Array Nat) (i : Nat) (old : Bool) (r : Rd) (v : AV) (effs : List (Nat × AW)) : Bool :=
  effs.all fun e => (b.getD i 0).testBit e.1 || (old && readsAs P e.2 r v)

/-- The reads that may come last before here give the same here. -/
def lateOk (P : Program) (b : Array Nat) (σ : AW) (t : TrD) : Bool :=
  t.reads.all fun r => (match t.effs with | [] => false | e :: _ => (b.getD e.1 0).testBit r.1) || readsAs P σ r.2.1 r.2.2

def effOk (P : Program) (b : Array Nat) (i : Nat) (σ : AW) (t : TrD) : Bool :=
  (t.effs.all fun e => (b.getD i 0).testBit e.1) && lateOk P b σ t

/-- A key that its literal has not yet. -/
def litOk (m : Nat) (k : AV) (lits : List (Nat × AV)) : Bool :=
  lits.all fun x => !x.1.beq m || (match findK.eqKey k x.2 with | some false => true | _ => false)

/-- The map that an operation fills, if it is a literal's. -/
def fills (o : Oper) : Option Tmp := match o.op with | .insert _ (.tmp t) _ _ => some t | _ => none

def makesMap (o : Oper) : Bool := match o.op with | .makeMap _ none => o.guard.isNone | _ => false

def namesOf (o : Oper) : List Tmp := o.dst.toList ++ o.op.operands.toList.filterMap fun | .tmp t => some t | _ => none

def guardTmp (ops : Array Oper) (o : Oper) : List Tmp := match o.guard with
  | some (j, _) => ((ops[j]?).bind (·.dst)).toList
  | none => []

/-- What is asked of such a region by its text alone. -/
def seesOf (o : Oper) : List Tmp := match o.op with
  | .insert _ (.tmp _) k v => #[k, v].toList.filterMap fun | .tmp t => some t | _ => none
  | op => op.operands.toList.filterMap fun | .tmp t => some t | _ => none

def drawOk (ops : Array Oper) : Bool :=
  let b := Region.before ops
  let zs := ops.toList.zipIdx
  (zs.all fun (o, i) => (o.after.toList.all fun e => !Region.binds .any e || e.on.blt i) && match o.guard with
    | none => true
    | some (j, _) => (b.getD i 0).testBit j && ((ops[j]?).bind (·.dst)).isSome) &&
  (zs.all fun (o, j) => (namesOf o ++ guardTmp ops o).all fun t =>
    zs.all fun (o', i) => (match o'.dst with | some d => !d.beq t | none => true) || i.beq j || (b.getD (if i < j then j else i) 0).testBit (if i < j then i else j)) &&
  (zs.all fun (o, i) => match fills o with
    | none => true
    | some m => (zs.any fun (o', k) => k.blt i && makesMap o' && (match o'.dst with | some d => d.beq m | none => false)) &&
      (zs.all fun (o', _) => !(match o'.dst with | some d => d.beq m | none => false) || makesMap o') &&
      zs.all fun (o', j) => !(seesOf o').any (Nat.beq m) || (b.getD j 0).testBit i)

def runOpsD (C : Cfg) (E : Evs) (ops : Array Oper) (b : Array Nat) (base : Nat) : Nat → List Oper → TrD → Fr → AW → RC
  | _, [], t, fr, σ => if lateOk C.P b σ t then some [(.norm, fr, σ)] else none
  | i, o :: rest, t, fr, σ => match wantedA fr ops o with
    | none => none
    | some false => runOpsD C E ops b base (i + 1) rest t (fr.put o.dst (.tup [])) σ
    | some true => match cls C.P fr o with
      | none => none
      | some a => match a with
        | .val v => runOpsD C E ops b base (i + 1) rest t (fr.put o.dst v) σ
        | .rd r => match rdVal C.P σ r with
          | some v => if rdOk C.P b i (opsOld base fr o) r v t.effs then runOpsD C E ops b base (i + 1) rest { t with reads := (i, r, v) :: t.reads } (fr.put o.dst v) σ else none
          | none => none
        | .mk obj sl mp => runOpsD C E ops b base (i + 1) rest t (fr.put o.dst (mkVal sl mp σ.next)) (σ.new obj)
        | .eff e => match fills o with
          | some _ => match e with
            | .mapPut m k v => match σ.heap.get m with
              | some (.map es ver) => match findK k es with
                | some none => if litOk m k t.lits then runOpsD C E ops b base (i + 1) rest { t with lits := (m, k) :: t.lits } (fr.put o.dst (.tup [])) (σ.put m (.map (es ++ [(k, v)]) (ver + 1))) else none
                | _ => none
              | _ => none
            | _ => none
          | none => match effRun C.P σ e with
            | some (v, σ') => if effOk C.P b i σ t && σ.next.ble σ'.next then runOpsD C E ops b base (i + 1) rest { t with effs := (i, σ) :: t.effs } (fr.put o.dst v) σ' else none
            | none => none
        | .call fv xs => if effOk C.P b i σ t then match E.call fv xs σ with
          | some [(v, σ')] => if σ.next.ble σ'.next then runOpsD C E ops b base (i + 1) rest { t with effs := (i, σ) :: t.effs } (fr.put o.dst v) σ' else none
          | _ => none
          else none
        | _ => none

/-- The temporaries of a frame, laid anew. -/
def canonT (fr : Fr) (n : Nat) : Tr AV := Nat.rec (motive := fun _ => Tr AV) .nil (fun i ih => ih.set (fr.get i) i) n

def evCode (C : Cfg) (E : Evs) (c : Code) (fr : Fr) (σ : AW) : RC :=
  match c with
  | .skip | .label _ => some [(.norm, fr, σ)]
  | .region _ ops draw => if draw then (if drawOk ops then runOpsD C E ops (Region.before ops) σ.next 0 ops.toList ⟨[], [], []⟩ fr σ else none) else runOps C E ops ops.toList fr σ
  | .seq a b => match E.code a fr σ with
    | some l => collect (fun r => match r with
      | (.norm, fr, σ) => E.code b fr σ
      | r => some [r]) l
    | none => none
  | .cond x a b => match fr.eval x with
    | some (.bool t) => E.code (if t then a else b) fr σ
    | _ => none
  | .block id b => match E.code b fr σ with
    | some l => collect (fun r => match r with
      | (.jump (.exit id'), fr, σ) => some [(if id' = id then .norm else .jump (.exit id'), fr, σ)]
      | r => some [r]) l
    | none => none
  | .loop b => match E.code b fr σ with
    | some l => collect (fun r => match r with
      | (.norm, fr, σ) => E.code (.loop b) fr σ
      | r => some [r]) l
    | none => none
  | .exit id => some [(.jump (.exit id), fr, σ)]
  | .goto l => some [(.jump (.goto l), fr, σ)]
  | .ret => some [(.jump .ret, fr, σ)]
  | .rangeFunc f params assign body => match fr.eval f with
    | some (.func g a cap) => if fr.rnd || (C.ext g (a ++ [.yield σ.next] ++ cap) (σ.new (.loop .ready none fr.nt (canonT fr fr.nt) params.toList assign body))).isSome then none else match E.call (.func g [] []) (a ++ [.yield σ.next] ++ cap) (σ.new (.loop .ready none fr.nt (canonT fr fr.nt) params.toList assign body)) with
      | some l => collect (fun r => match r.2.heap.get σ.next with
        | some (.loop st pend nt t p a b) =>
          if st = .busy then none else
          some [(match pend with | none => .norm | some j => .jump j, { fr with defers := none :: fr.defers }, r.2.put σ.next (.loop .exhausted pend nt t p a b))]
        | _ => none) l
      | none => none
    | _ => none
  | .scope b => match E.code b fr σ with
    | some l => collect (fun r => match r with
      | (.jump (.goto _), _, _) => none
      | r => some [r]) l
    | none => none
  | .refuse _ => none

def isRecover (o : Oper) : Bool := match o.op with
  | .call { callee := .builtin .recover, args, .. } => args.isEmpty
  | _ => false

/-- A deferred function's body: its first operation may be a recover, that finds no panic. -/
def evS (C : Cfg) (E : Evs) : Code → Fr → AW → RC
  | .seq x y, fr, σ => match evS C E x fr σ with
    | some l => collect (fun r => match r with
      | (.norm, fr, σ) => E.code y fr σ
      | r => some [r]) l
    | none => none
  | .region _ ops false, fr, σ => match ops.toList with
    | o :: rest => if isRecover o && o.guard.isNone && dstOk fr o then runOps C E ops rest (fr.put o.dst .niliface) σ else runOps C E ops (o :: rest) fr σ
    | [] => some [(.norm, fr, σ)]
  | c, fr, σ => E.code c fr σ

def resVals (P : Program) (fr : Fr) (σ : AW) : List ResultVar → Option (List AV)
  | [] => some []
  | .tmp t :: rs => (resVals P fr σ rs).map (fr.get t :: ·)
  | .cell a t :: rs => match loadV P σ t (fr.get a), resVals P fr σ rs with
    | some v, some vs => some (v :: vs)
    | _, _ => none

def oneOrTup : List AV → AV
  | [v] => v
  | vs => .tup vs

def setArgs (t : Tr AV) (i : Nat) : List AV → Tr AV
  | [] => t
  | v :: vs => setArgs (t.set v i) (i + 1) vs

def setParams (nt : Nat) (t : Tr AV) : List Tmp → List AV → Option (Tr AV)
  | [], [] => some t
  | p :: ps, v :: vs => if p.blt nt then setParams nt (t.set v p) ps vs else none
  | _, _ => none

def frame0 (fn : Func) (xs : List AV) : Fr := { nt := if xs.length < fn.ntmps then fn.ntmps else xs.length, tmps := setArgs .nil 0 xs, defers := [], rnd := false }

def evDefer (C : Cfg) (E : Evs) (d : ADef) (σ : AW) : Option (List AW) :=
  match d.fv with
  | .func f a cap => match C.P.funcs[f]? with
    | none => none
    | some fn => match fn.body with
      | none => none
      | some body =>
        if fn.name == "runtime.NumGoroutine" then none else
        match evS C E body (frame0 fn (a ++ d.args ++ cap)) σ with
        | none => none
        | some l => collect (fun r =>
          let fin (fr : Fr) (σ : AW) : Option (List AW) :=
            if fr.defers.isEmpty then match resVals C.P fr σ fn.results.toList with
              | some _ => some [σ]
              | none => none
            else none
          match r with
          | (.norm, fr, σ) => fin fr σ
          | (.jump .ret, fr, σ) => fin fr σ
          | _ => none) l
  | _ => none

def runDefers (C : Cfg) (E : Evs) : List (Option ADef) → AW → Option (List AW)
  | [], σ => some [σ]
  | none :: ds, σ => runDefers C E ds σ
  | some d :: ds, σ => match evDefer C E d σ with
    | some l => collect (fun σ => runDefers C E ds σ) l
    | none => none

/-- What a call's results come to in the end, if they do not depend on which: a value without new objects, or one new slice of such. -/
inductive Frozen where
  | val (v : AV)
  | slice (len : Nat) (cells : List AV) (e : TypeId)

def freeze1 (P : Program) (n : Nat) : AV × AW → Option Frozen
  | (v, σ) =>
    if σ.low < n then none else
    match v with
    | .sl id 0 len (.up es) =>
      if id < n then some (.val v) else
      match σ.heap.get id with
      | some (.cells m z t e 0 _) => if m = len * P.cellsOf e ∧ es = P.cellsOf e then
          match cellsFrom z t 0 m with
          | some cs => if cs.all (AV.older n) then some (.slice len cs e) else none
          | none => none
        else none
      | _ => none
    | v => if AV.older n v then some (.val v) else none

def Frozen.same : Frozen → Frozen → Bool
  | .val a, .val b => AV.same a b
  | .slice n a e, .slice m b e' => n.beq m && AV.sames a b && e.beq e'
  | _, _ => false

def merge (P : Program) (σ : AW) (l : List (AV × AW)) : RF :=
  match l with
  | [] => none
  | r :: rs => match freeze1 P σ.next r with
    | none => none
    | some z =>
      if rs.all (fun r => match freeze1 P σ.next r with | some z' => Frozen.same z z' | none => false) then
        match z with
        | .val v => some [(v, σ)]
        | .slice len cs e => some [(.sl σ.next 0 len (.up (P.cellsOf e)), σ.new (.cells (len * P.cellsOf e) cs .nil e 0 false))]
      else none

/-- A body, its deferred calls, its results. -/
def evBody (C : Cfg) (E : Evs) (fn : Func) (body : Code) (xs : List AV) (σ : AW) : RF :=
  match E.code body (frame0 fn xs) σ with
  | none => none
  | some l => collect (fun r =>
    let fin (fr : Fr) (σ : AW) : RF :=
      match runDefers C E fr.defers σ with
      | none => none
      | some l => collect (fun σ => match resVals C.P fr σ fn.results.toList with
        | some vs => some [(oneOrTup vs, σ)]
        | none => none) l
    match r with
    | (.norm, fr, σ) => fin fr σ
    | (.jump .ret, fr, σ) => fin fr σ
    | _ => none) l

def evRound (E : Evs) (l nt : Nat) (params : List Tmp) (assign body : Code) (args : List AV) (σ : AW) (tmps : Tr AV) : RF :=
  match setParams nt tmps params args with
  | none => none
  | some t => match E.code assign { nt, tmps := t, defers := [], rnd := true } σ with
    | none => none
    | some rs => collect (fun r => match r with
      | (.norm, fr, σ) => match σ.heap.get l with
        | some (.loop .ready pend nt tm ps asg bd) =>
          match E.code body fr (σ.put l (.loop .busy pend nt tm ps asg bd)) with
          | none => none
          | some rs => collect (fun r => match r.2.2.heap.get l with
            | some (.loop _ _ nt tm ps asg bd) => match r.1 with
              | .norm => some [(.bool true, r.2.2.put l (.loop .ready none nt tm ps asg bd))]
              | .jump j => some [(.bool false, r.2.2.put l (.loop .done (some j) nt tm ps asg bd))]
            | _ => none) rs
        | _ => none
      | _ => none) rs

def evCall (C : Cfg) (E : Evs) (fv : AV) (args : List AV) (σ : AW) : RF :=
  match fv with
  | .func f [] [] =>
    match C.ext f args σ with
    | some r => some [r]
    | none => match C.P.funcs[f]? with
      | none => none
      | some fn => match fn.body with
        | none => none
        | some body =>
          if fn.name == "runtime.NumGoroutine" then none else
          if C.multi f then
            match evBody C E fn body args { σ with low := σ.next } with
            | some l => merge C.P σ l
            | none => none
          else evBody C E fn body args σ
  | .yield l => match σ.heap.get l with
    | some (.loop .ready _ nt tmps params assign body) => evRound E l nt params assign body args σ tmps
    | _ => none
  | _ => none

def evs0 : Evs := ⟨fun _ _ _ => none, fun _ _ _ => none⟩
def evs (C : Cfg) (n : Nat) : Evs := Nat.rec evs0 (fun _ E => ⟨evCode C E, evCall C E⟩) n

end
end Pe

/- What the evaluator's values and objects stand for, and the first facts on them. -/
namespace Pe
open Go

/-! ### Tries -/
/-! ### Values -/
/-- Where an object lies: its block, its first cell there, how many cells are its own. -/
structure Loc where
  b : Nat
  base : Nat
  ext : Nat

abbrev Rho := Nat → Option Loc

mutual
def VR (ρ : Rho) : AV → Value → Prop
  | .int k n, v => v = .int k n
  | .bool b, v => v = .bool b
  | .str s, v => ∃ t : ByteArray, v = .string t ∧ t.data.toList = s
  | .ptr id off, v => ∃ l, ρ id = some l ∧ v = .pointer (some ⟨l.b, l.base + off, none⟩)
  | .nilptr, v => v = .pointer none
  | .sl id off len cap, v => ∃ l c off', ρ id = some l ∧ v = .slice (some ⟨l.b, l.base + off', none⟩) len c ∧
      (match cap with | .is c' => c = c' ∧ len ≤ c ∧ (off' = off ∨ c = 0) | .up es => (off' = off ∧ len ≤ c ∧ off + c * es ≤ l.ext) ∨ (len = 0 ∧ c = 0))
  | .nilsl, v => v = .slice none 0 0
  | .map id, v => ∃ l, ρ id = some l ∧ v = .map (some l.b)
  | .nilmap, v => v = .map none
  | .func f a c, v => ∃ a' c' : Array Value, v = .func (.func f) a' c' ∧ VRs ρ a a'.toList ∧ VRs ρ c c'.toList
  | .yield i, v => ∃ l, ρ i = some l ∧ v = .func (.yield l.b) #[] #[]
  | .nilfunc, v => v = .nilFunc
  | .iface t x, v => ∃ y, v = .iface t y ∧ VR ρ x y
  | .niliface, v => v = .nilIface
  | .agg cs, v => ∃ cs' : Array Value, v = .agg cs' ∧ VRs ρ cs cs'.toList
  | .tup vs, v => ∃ vs' : Array Value, v = .tuple vs' ∧ VRs ρ vs vs'.toList
  | .top, _ => True
def VRs (ρ : Rho) : List AV → List Value → Prop
  | [], l => l = []
  | x :: xs, l => ∃ y ys, l = y :: ys ∧ VR ρ x y ∧ VRs ρ xs ys
end

def Rho.le (ρ ρ' : Rho) : Prop := ∀ id l, ρ id = some l → ρ' id = some l

mutual
theorem VR.mono {ρ ρ' : Rho} (h : ρ.le ρ') : ∀ (x : AV) (v : Value), VR ρ x v → VR ρ' x v
  | .int .., _, hv => by simpa [VR] using hv
  | .bool _, _, hv => by simpa [VR] using hv
  | .str _, _, hv => by simpa [VR] using hv
  | .ptr .., _, hv => by
    simp only [VR] at hv ⊢; obtain ⟨l, hl, rfl⟩ := hv; exact ⟨l, h _ _ hl, rfl⟩
  | .nilptr, _, hv => by simpa [VR] using hv
  | .sl .., _, hv => by
    simp only [VR] at hv ⊢; obtain ⟨l, c, o', hl, rfl, hc⟩ := hv; exact ⟨l, c, o', h _ _ hl, rfl, hc⟩
  | .nilsl, _, hv => by simpa [VR] using hv
  | .map _, _, hv => by
    simp only [VR] at hv ⊢; obtain ⟨l, hl, rfl⟩ := hv; exact ⟨l, h _ _ hl, rfl⟩
  | .nilmap, _, hv => by simpa [VR] using hv
  | .func f a c, _, hv => by
    simp only [VR] at hv ⊢; obtain ⟨a', c', rfl, ha, hc⟩ := hv
    exact ⟨a', c', rfl, VRs.mono h a _ ha, VRs.mono h c _ hc⟩
  | .yield _, _, hv => by
    simp only [VR] at hv ⊢; obtain ⟨l, hl, rfl⟩ := hv; exact ⟨l, h _ _ hl, rfl⟩
  | .nilfunc, _, hv => by simpa [VR] using hv
  | .iface t x, _, hv => by
    simp only [VR] at hv ⊢; obtain ⟨y, rfl, hy⟩ := hv; exact ⟨y, rfl, VR.mono h x _ hy⟩
  | .niliface, _, hv => by simpa [VR] using hv
  | .agg cs, _, hv => by
    simp only [VR] at hv ⊢; obtain ⟨y, rfl, hy⟩ := hv; exact ⟨y, rfl, VRs.mono h cs _ hy⟩
  | .tup vs, _, hv => by
    simp only [VR] at hv ⊢; obtain ⟨y, rfl, hy⟩ := hv; exact ⟨y, rfl, VRs.mono h vs _ hy⟩
  | .top, _, _ => by simp [VR]
theorem VRs.mono {ρ ρ' : Rho} (h : ρ.le ρ') : ∀ (xs : List AV) (vs : List Value), VRs ρ xs vs → VRs ρ' xs vs
  | [], _, hv => by simpa [VRs] using hv
  | x :: xs, _, hv => by
    simp only [VRs] at hv ⊢
    obtain ⟨y, ys, rfl, h1, h2⟩ := hv
    exact ⟨y, ys, rfl, VR.mono h x _ h1, VRs.mono h xs _ h2⟩
end

theorem Rho.le.refl (ρ : Rho) : ρ.le ρ := fun _ _ h => h
theorem Rho.le.trans {a b c : Rho} (h : a.le b) (k : b.le c) : a.le c := fun i l hi => k i l (h i l hi)

theorem VRs_nil {ρ : Rho} {l : List Value} : VRs ρ [] l ↔ l = [] := by simp [VRs]
theorem VRs_cons {ρ : Rho} {x : AV} {xs : List AV} {l : List Value} : VRs ρ (x :: xs) l ↔ ∃ y ys, l = y :: ys ∧ VR ρ x y ∧ VRs ρ xs ys := by simp [VRs]

theorem VRs.length {ρ : Rho} : ∀ {xs : List AV} {l : List Value}, VRs ρ xs l → l.length = xs.length
  | [], _, h => by rw [VRs_nil.1 h]; rfl
  | _ :: xs, _, h => by obtain ⟨y, ys, rfl, _, h2⟩ := VRs_cons.1 h; simp [VRs.length h2]

theorem VRs.append {ρ : Rho} : ∀ {xs ys : List AV} {l m : List Value}, VRs ρ xs l → VRs ρ ys m → VRs ρ (xs ++ ys) (l ++ m)
  | [], _, _, _, h, k => by rw [VRs_nil.1 h]; exact k
  | _ :: xs, _, _, _, h, k => by
    obtain ⟨y, zs, rfl, h1, h2⟩ := VRs_cons.1 h
    exact VRs_cons.2 ⟨y, _, rfl, h1, VRs.append h2 k⟩

theorem VRs.get {ρ : Rho} : ∀ {xs : List AV} {l : List Value} {i : Nat} {x : AV}, VRs ρ xs l → xs[i]? = some x → ∃ v, l[i]? = some v ∧ VR ρ x v
  | [], _, _, _, _, hx => by simp at hx
  | _ :: xs, _, 0, _, h, hx => by
    obtain ⟨y, ys, rfl, h1, _⟩ := VRs_cons.1 h
    simp at hx; subst hx; exact ⟨y, rfl, h1⟩
  | _ :: xs, _, i + 1, _, h, hx => by
    obtain ⟨y, ys, rfl, _, h2⟩ := VRs_cons.1 h
    simp at hx
    obtain ⟨v, hv, hr⟩ := VRs.get h2 hx
    exact ⟨v, by simpa using hv, hr⟩

theorem VRs.drop {ρ : Rho} : ∀ {xs : List AV} {l : List Value} (n : Nat), VRs ρ xs l → VRs ρ (xs.drop n) (l.drop n)
  | _, _, 0, h => h
  | [], _, n + 1, h => by rw [VRs_nil.1 h]; simp [VRs]
  | _ :: xs, _, n + 1, h => by obtain ⟨y, ys, rfl, _, h2⟩ := VRs_cons.1 h; exact VRs.drop n h2

theorem VRs.take {ρ : Rho} : ∀ {xs : List AV} {l : List Value} (n : Nat), VRs ρ xs l → VRs ρ (xs.take n) (l.take n)
  | _, _, 0, h => by simp [VRs]
  | [], _, n + 1, h => by rw [VRs_nil.1 h]; simp [VRs]
  | _ :: xs, _, n + 1, h => by obtain ⟨y, ys, rfl, h1, h2⟩ := VRs_cons.1 h; exact VRs_cons.2 ⟨y, _, rfl, h1, VRs.take n h2⟩

/-- A value of one cell stands for one of one cell. -/
theorem VR.oneCell {ρ : Rho} {x : AV} {v : Value} (h : VR ρ x v) (hc : x.isCell = true) : v.oneCell = true := by
  cases x <;> simp only [VR, AV.isCell] at h hc <;> first
    | (subst h; rfl)
    | (obtain ⟨_, rfl, _⟩ := h; rfl)
    | (obtain ⟨_, _, rfl⟩ := h; rfl)
    | (obtain ⟨_, _, _, _, rfl, _⟩ := h; rfl)
    | (obtain ⟨_, _, _, rfl, _⟩ := h; rfl)
    | (obtain ⟨_, _, rfl, _⟩ := h; rfl)
    | cases hc

theorem VR.cells {ρ : Rho} {x : AV} {v : Value} (h : VR ρ x v) (hc : x.cells.all AV.isCell = true) : VRs ρ x.cells v.cells.toList := by
  cases x <;> simp only [VR, AV.cells] at h hc ⊢ <;> first
    | (subst h; exact VRs_cons.2 ⟨_, _, rfl, by simp [VR], by simp [VRs]⟩)
    | (obtain ⟨cs', rfl, hr⟩ := h; exact hr)
    | (simp [AV.isCell] at hc; done)
    | (refine VRs_cons.2 ⟨v, [], ?_, ?_, by simp [VRs]⟩
       · first
         | (obtain ⟨_, rfl, _⟩ := h; rfl)
         | (obtain ⟨_, _, rfl⟩ := h; rfl)
         | (obtain ⟨_, _, _, _, rfl, _⟩ := h; rfl)
         | (obtain ⟨_, _, _, rfl, _⟩ := h; rfl)
         | (obtain ⟨_, _, rfl, _⟩ := h; rfl)
       · simpa [VR] using h)

theorem emb0_VR {v : Value} {x : AV} (h : emb0 v = some x) (ρ : Rho) : VR ρ x v := by
  unfold emb0 at h
  split at h <;> simp at h <;> (try subst h) <;> simp [VR]

theorem embs_VR : ∀ {vs : List Value} {xs : List AV}, embs vs = some xs → ∀ ρ, VRs ρ xs vs
  | [], _, h, _ => by simp [embs] at h; subst h; simp [VRs]
  | v :: vs, _, h, ρ => by
    unfold embs at h
    split at h
    · rename_i x xs hx hxs
      simp at h; subst h
      exact VRs_cons.2 ⟨_, _, rfl, emb0_VR hx ρ, embs_VR hxs ρ⟩
    · simp at h

theorem emb_VR {v : Value} {x : AV} (h : emb v = some x) (ρ : Rho) : VR ρ x v := by
  unfold emb at h
  split at h
  · simp only [Option.map_eq_some_iff] at h
    obtain ⟨xs, hxs, rfl⟩ := h
    simp only [VR]
    exact ⟨_, rfl, embs_VR hxs ρ⟩
  · split at h
    · rename_i vs hs
      simp at h; subst h
      simp only [VR]
      refine ⟨_, rfl, ?_⟩
      have : vs.toList = [] := by simpa using hs
      rw [this]; simp [VRs]
    · simp at h
  · exact emb0_VR h ρ

end Pe

/- When an abstract heap stands for a world; what a step may do. -/
namespace Pe
open Go

def AO.live : AO → Bool
  | .dead => false
  | _ => true

/-- Entries of a map: two lists, side by side. -/
def ERs (ρ : Rho) : List (AV × AV) → List MapEntry → Prop
  | [], l => l = []
  | kv :: es, l => ∃ e l', l = e :: l' ∧ VR ρ kv.1 e.key ∧ VR ρ kv.2 e.val ∧ ERs ρ es l'

/-- No two keys are equal, and which are can be told. -/
def keysApart : List (AV × AV) → Prop
  | [] => True
  | kv :: es => (∀ kv' ∈ es, findK.eqKey kv.1 kv'.1 = some false ∧ findK.eqKey kv'.1 kv.1 = some false) ∧ keysApart es

def MapRel (ρ : Rho) (es : List (AV × AV)) (ES : Array MapEntry) (clock : Nat) : Prop :=
  keysApart es ∧ (∃ L : List MapEntry, L.Perm ES.toList ∧ ERs ρ es L) ∧ (∀ e ∈ ES.toList, e.born < clock) ∧ (ES.toList.map (·.born)).Nodup

/-- The keys that a range has seen, and their stamps. -/
def SeenRel (ρ : Rho) (ES : Array MapEntry) : List AV → List Nat → Prop
  | [], l => l = []
  | k :: ks, l => ∃ b l', l = b :: l' ∧ (∃ e ∈ ES.toList, e.born = b ∧ VR ρ k e.key) ∧ SeenRel ρ ES ks l'

/-- Which cells of a block are frozen. -/
def frOf (w : World) (b : Nat) : Option (Nat × Nat) := match w.heap[b]? with
  | some (.cells _ _ fr) => some fr
  | _ => none

structure CellsAt (P : Program) (ρ : Rho) (n : Nat) (z : List AV) (t : Tr AV) (e : TypeId) (fz : Nat) (wh : Bool) (l : Loc) (w : World) : Prop where
  size : ∃ N, w.shape? l.b = some (e, N) ∧ l.base + l.ext ≤ N ∧ (wh = true → l.base = 0 ∧ N = n)
  le : n ≤ l.ext
  cell : ∀ i, i < n → ∃ a v, cellAt z t i = some a ∧ a.isCell = true ∧ w.cell? ⟨l.b, l.base + i, none⟩ = some v ∧ VR ρ a v
  top : fz ≤ n → ∀ fr, frOf w l.b = some fr → fr.1 ≠ fr.2 → fr.2 ≤ l.base + fz

theorem CellsAt.free {P : Program} {ρ : Rho} {n : Nat} {z : List AV} {t : Tr AV} {e : TypeId} {fz : Nat} {wh : Bool} {l : Loc} {w : World} (h : CellsAt P ρ n z t e fz wh l w) : fz ≤ n → ∀ i, fz ≤ i → i < l.ext → w.frozen? ⟨l.b, l.base + i, none⟩ = false := by
  intro hn i hi _
  have ht := h.top hn
  unfold frOf at ht
  unfold World.frozen?
  simp only
  cases hh : w.heap[l.b]? with
  | none => rfl
  | some o =>
    cases o <;> try rfl
    rename_i C el fr
    rw [hh] at ht
    obtain ⟨lo, hi'⟩ := fr
    have := ht _ rfl
    simp only at this ⊢
    by_cases h1 : lo ≤ l.base + i
    · by_cases h2 : l.base + i < hi'
      · have := this (by omega); omega
      · simp [h2]
    · simp [h1]

/-- An object stands for what lies at a place. sigma is asked for the map under an iterator alone. -/
def OR (P : Program) (ρ : Rho) (σ : AW) (l : Loc) (w : World) : AO → Prop
  | .cells n z t e fz wh => CellsAt P ρ n z t e fz wh l w
  | .dead => True
  | .map es _ => ∃ ES clock, w.heap[l.b]? = some (.map ES clock) ∧ MapRel ρ es ES clock
  | .siter s pos => l.base = 0 ∧ ∃ S : ByteArray, w.heap[l.b]? = some (.stringIter S pos) ∧ S.data.toList = s
  | .miter none _ => l.base = 0 ∧ ∃ since seen st, w.heap[l.b]? = some (.mapIter none since seen st)
  | .miter (some (m, ver)) ks => l.base = 0 ∧ ∃ lm since seen st es v, ρ m = some lm ∧ w.heap[l.b]? = some (.mapIter (some lm.b) since seen st) ∧
      σ.heap.get m = some (.map es v) ∧ ver ≤ v ∧ (v = ver → ∃ ES, w.heap[lm.b]? = some (.map ES since) ∧ st = since ∧ SeenRel ρ ES ks seen.toList.reverse)
  | .loop st pend nt tmps params assign body => ∃ L : Loop, w.heap[l.b]? = some (.loop L) ∧ L.state = st ∧ L.pending = pend.map Jump.code ∧
      L.params.toList = params ∧ L.assign = assign ∧ L.body = body ∧ L.tmps.size = nt ∧
      ∀ t, VR ρ (match tmps.get t with | some v => v | none => .top) (L.tmps.getD t undef)

structure Sim (P : Program) (ρ : Rho) (σ : AW) (w : World) : Prop where
  obj : ∀ id l, ρ id = some l → id < σ.next ∧ ∃ o, σ.heap.get id = some o ∧ (o.live = true → l.b < w.heap.size) ∧ OR P ρ σ l w o
  inj : ∀ id id' l l' o o', ρ id = some l → ρ id' = some l' → σ.heap.get id = some o → σ.heap.get id' = some o' → o.live = true → o'.live = true → l.b = l'.b → id = id'

/-- A block that an object lies in. -/
def Owned (ρ : Rho) (σ : AW) (b : Nat) : Prop := ∃ id l o, ρ id = some l ∧ σ.heap.get id = some o ∧ o.live = true ∧ l.b = b

/-- The outside and what was put out are as they were. -/
def SameIO (w w' : World) : Prop := w'.os = w.os ∧ w'.output = w.output

/-- What a step does besides: it only adds to ρ; it turns no object that stands for nothing; it turns no block that is not owned. -/
structure Post (ρ : Rho) (σ : AW) (w : World) (ρ' : Rho) (σ' : AW) (w' : World) : Prop where
  le : ρ.le ρ'
  new : ∀ id l, ρ' id = some l → ρ id = none → σ.next ≤ id
  next : σ.next ≤ σ'.next
  kept : ∀ id, id < σ.next → ρ id = none → σ'.heap.get id = σ.heap.get id
  low : σ'.low ≤ σ.low ∧ ∀ id, id < σ.next → id < σ'.low → σ'.heap.get id = σ.heap.get id
  size : w.heap.size ≤ w'.heap.size
  frame : ∀ b, b < w.heap.size → ¬ Owned ρ σ b → w'.heap[b]? = w.heap[b]?
  owned : ∀ b, b < w.heap.size → Owned ρ' σ' b → Owned ρ σ b
  io : SameIO w w'

theorem Post.refl (ρ : Rho) (σ : AW) (w : World) : Post ρ σ w ρ σ w :=
  ⟨Rho.le.refl ρ, fun _ _ h h' => (by rw [h'] at h; cases h), Nat.le_refl _, fun _ _ _ => rfl, ⟨Nat.le_refl _, fun _ _ _ => rfl⟩, Nat.le_refl _, fun _ _ _ => rfl, fun _ _ h => h, rfl, rfl⟩

theorem Post.trans {ρ ρ₁ ρ₂ : Rho} {σ σ₁ σ₂ : AW} {w w₁ w₂ : World} (h : Post ρ σ w ρ₁ σ₁ w₁) (k : Post ρ₁ σ₁ w₁ ρ₂ σ₂ w₂) : Post ρ σ w ρ₂ σ₂ w₂ where
  le := h.le.trans k.le
  new id l hl h0 := by
    cases h1 : ρ₁ id with
    | some l1 => exact h.new id l1 h1 h0
    | none => exact Nat.le_trans h.next (k.new id l hl h1)
  next := Nat.le_trans h.next k.next
  kept id hid h0 := by
    have h1 : ρ₁ id = none := by
      cases h1 : ρ₁ id with
      | none => rfl
      | some l1 => exact absurd (h.new id l1 h1 h0) (by omega)
    rw [k.kept id (by have := h.next; omega) h1, h.kept id hid h0]
  low := ⟨Nat.le_trans k.low.1 h.low.1, fun id hid hl => by
    rw [k.low.2 id (by have := h.next; omega) hl, h.low.2 id hid (by have := k.low.1; omega)]⟩
  size := Nat.le_trans h.size k.size
  frame b hb hn := by
    rw [k.frame b (by have := h.size; omega) (fun ho => hn (h.owned b hb ho)), h.frame b hb hn]
  owned b hb ho := h.owned b hb (k.owned b (by have := h.size; omega) ho)
  io := ⟨k.io.1.trans h.io.1, k.io.2.trans h.io.2⟩

theorem shape?_of_heap {w w' : World} {b : Nat} (h : w'.heap[b]? = w.heap[b]?) : w'.shape? b = w.shape? b := by simp [World.shape?, h]
theorem cell?_of_heap {w w' : World} {a : Addr} (h : w'.heap[a.block]? = w.heap[a.block]?) : w'.cell? a = w.cell? a := by simp [World.cell?, h]
theorem frozen?_of_heap {w w' : World} {a : Addr} (h : w'.heap[a.block]? = w.heap[a.block]?) : w'.frozen? a = w.frozen? a := by simp [World.frozen?, h]

theorem ERs.mono {ρ ρ' : Rho} (h : ρ.le ρ') : ∀ {es : List (AV × AV)} {L : List MapEntry}, ERs ρ es L → ERs ρ' es L
  | [], _, k => k
  | _ :: _, _, ⟨e, l', hl, h1, h2, h3⟩ => ⟨e, l', hl, VR.mono h _ _ h1, VR.mono h _ _ h2, ERs.mono h h3⟩

theorem MapRel.mono {ρ ρ' : Rho} (h : ρ.le ρ') {es : List (AV × AV)} {ES : Array MapEntry} {c : Nat} (k : MapRel ρ es ES c) : MapRel ρ' es ES c :=
  ⟨k.1, k.2.1.imp fun _ hL => ⟨hL.1, hL.2.mono h⟩, k.2.2⟩

theorem SeenRel.mono {ρ ρ' : Rho} (h : ρ.le ρ') {ES : Array MapEntry} : ∀ {ks : List AV} {l : List Nat}, SeenRel ρ ES ks l → SeenRel ρ' ES ks l
  | [], _, k => k
  | _ :: _, _, ⟨b, l', hl, ⟨e, he, h1, h2⟩, h3⟩ => ⟨b, l', hl, ⟨e, he, h1, VR.mono h _ _ h2⟩, SeenRel.mono h h3⟩

/-- An object goes on standing for what lies there: ρ grows, its block lies as it lay, and the map under an iterator too, or it has turned. -/
theorem OR.keep {P : Program} {ρ ρ' : Rho} {σ σ' : AW} {l : Loc} {w w' : World} {o : AO} (h : OR P ρ σ l w o) (hρ : ρ.le ρ') (hw : w'.heap[l.b]? = w.heap[l.b]?)
    (hm : ∀ m ver ks, o = .miter (some (m, ver)) ks → ∀ lm es v, ρ m = some lm → σ.heap.get m = some (.map es v) →
      (σ'.heap.get m = some (.map es v) ∧ w'.heap[lm.b]? = w.heap[lm.b]?) ∨ ∃ es' v', σ'.heap.get m = some (.map es' v') ∧ v < v') :
    OR P ρ' σ' l w' o := by
  cases o with
  | cells n z t e fz wh =>
    obtain ⟨h1, h3, h4, h5⟩ := h
    refine ⟨?_, h3, ?_, ?_⟩
    · rw [shape?_of_heap hw]; exact h1
    · intro i hi
      obtain ⟨a, v, ha, hc, hv, hr⟩ := h4 i hi
      exact ⟨a, v, ha, hc, by rw [cell?_of_heap (by exact hw)]; exact hv, VR.mono hρ _ _ hr⟩
    · intro hn fr hf hne
      rw [show frOf w' l.b = frOf w l.b by simp only [frOf, hw]] at hf
      exact h5 hn fr hf hne
  | dead => trivial
  | map es ver =>
    obtain ⟨ES, c, h1, h2⟩ := h
    exact ⟨ES, c, hw.trans h1, h2.mono hρ⟩
  | siter s pos =>
    obtain ⟨h0, S, h1, h2⟩ := h
    exact ⟨h0, S, hw.trans h1, h2⟩
  | miter m ks =>
    cases m with
    | none =>
      obtain ⟨h0, a, b, c, h1⟩ := h
      exact ⟨h0, a, b, c, hw.trans h1⟩
    | some mv =>
      obtain ⟨m, ver⟩ := mv
      obtain ⟨h0, lm, since, seen, st, es, v, h1, h2, h3, h4, h5⟩ := h
      rcases hm m ver ks rfl lm es v h1 h3 with ⟨g1, g2⟩ | ⟨es', v', g1, g2⟩
      · refine ⟨h0, lm, since, seen, st, es, v, hρ _ _ h1, hw.trans h2, g1, h4, fun hv => ?_⟩
        obtain ⟨ES, k1, k2, k3⟩ := h5 hv
        exact ⟨ES, g2.trans k1, k2, k3.mono hρ⟩
      · exact ⟨h0, lm, since, seen, st, es', v', hρ _ _ h1, hw.trans h2, g1, by omega, fun hv => by omega⟩
  | loop st pend nt tmps params assign body =>
    obtain ⟨L, h1, h2, h3, h4, h5, h6, h7, h8⟩ := h
    exact ⟨L, hw.trans h1, h2, h3, h4, h5, h6, h7, fun t => VR.mono hρ _ _ (h8 t)⟩

/-- A step that touches some objects. -/
theorem Sim.change {P : Program} {ρ ρ' : Rho} {σ σ' : AW} {w w' : World} (h : Sim P ρ σ w) (T : Nat → Prop) (hρ : ρ.le ρ') (hnext : σ.next ≤ σ'.next) (hsize : w.heap.size ≤ w'.heap.size)
    (hnew : ∀ id l, ρ' id = some l → ρ id = none → T id)
    (hT : ∀ id l, ρ' id = some l → T id → id < σ'.next ∧ ∃ o, σ'.heap.get id = some o ∧ (o.live = true → l.b < w'.heap.size) ∧ OR P ρ' σ' l w' o)
    (hkept : ∀ id l, ρ id = some l → ¬ T id → σ'.heap.get id = σ.heap.get id ∧ ∀ o, σ.heap.get id = some o → o.live = true → w'.heap[l.b]? = w.heap[l.b]?)
    (hmaps : ∀ id l es v, ρ id = some l → T id → σ.heap.get id = some (.map es v) → ∃ es' v', σ'.heap.get id = some (.map es' v') ∧ v < v')
    (hinj : ∀ id id' l l' o o', T id → ρ' id = some l → ρ' id' = some l' → σ'.heap.get id = some o → σ'.heap.get id' = some o' → o.live = true → o'.live = true → l.b = l'.b → id = id') :
    Sim P ρ' σ' w' := by
  have old : ∀ id l, ρ' id = some l → ¬ T id → ρ id = some l := by
    intro id l hl ht
    cases h0 : ρ id with
    | none => exact absurd (hnew id l hl h0) ht
    | some l0 => have := hρ id l0 h0; rw [hl] at this; cases this; rfl
  refine ⟨fun id l hl => ?_, fun id id' l l' o o' hl hl' ho ho' hv hv' hb => ?_⟩
  · by_cases ht : T id
    · exact hT id l hl ht
    · have hl0 := old id l hl ht
      obtain ⟨h1, o, ho, hlive, hor⟩ := h.obj id l hl0
      obtain ⟨k1, k2⟩ := hkept id l hl0 ht
      refine ⟨by omega, o, by rw [k1, ho], fun hv => by have := hlive hv; omega, ?_⟩
      by_cases hv : o.live = true
      · refine OR.keep hor hρ (k2 o ho hv) (fun m ver ks hm lm es v hlm hes => ?_)
        by_cases htm : T m
        · exact .inr (hmaps m lm es v hlm htm hes)
        · obtain ⟨g1, g2⟩ := hkept m lm hlm htm
          exact .inl ⟨by rw [g1, hes], g2 _ hes rfl⟩
      · cases o <;> first | trivial | (simp [AO.live] at hv)
  · by_cases ht : T id
    · exact hinj id id' l l' o o' ht hl hl' ho ho' hv hv' hb
    · by_cases ht' : T id'
      · exact (hinj id' id l' l o' o ht' hl' hl ho' ho hv' hv hb.symm).symm
      · have e1 := old id l hl ht
        have e2 := old id' l' hl' ht'
        rw [(hkept id l e1 ht).1] at ho
        rw [(hkept id' l' e2 ht').1] at ho'
        exact h.inj id id' l l' o o' e1 e2 ho ho' hv hv' hb

def Rho.upd (ρ : Rho) (id : Nat) (l : Loc) : Rho := fun i => if i = id then some l else ρ i

theorem Sim.fresh {P : Program} {ρ : Rho} {σ : AW} {w : World} (h : Sim P ρ σ w) {id : Nat} (hid : σ.next ≤ id) : ρ id = none := by
  cases hl : ρ id with
  | none => rfl
  | some l => have := (h.obj id l hl).1; omega

theorem Sim.le_upd {P : Program} {ρ : Rho} {σ : AW} {w : World} (h : Sim P ρ σ w) (l : Loc) : ρ.le (ρ.upd σ.next l) := by
  intro id l' hl
  have := (h.obj id l' hl).1
  simp only [Rho.upd]; rw [if_neg (by omega), hl]

theorem get_new (σ : AW) (o : AO) (id : Nat) : (σ.new o).heap.get id = if id = σ.next then some o else σ.heap.get id := by
  simp only [AW.new]; rw [Tr.get_set]
theorem get_put (σ : AW) (id' : Nat) (o : AO) (id : Nat) : (σ.put id' o).heap.get id = if id = id' then some o else σ.heap.get id := by
  simp only [AW.put]; rw [Tr.get_set]

/-- A new object in a new block. -/
theorem Sim.new {P : Program} {ρ : Rho} {σ : AW} {w w' : World} (h : Sim P ρ σ w) (o : AO) (O : Obj) (l : Loc) (hl : l.b = w.heap.size) (hw : w'.heap = w.heap.push O)
    (ho : OR P (ρ.upd σ.next l) (σ.new o) l w' o) (hio : SameIO w w' := by exact ⟨rfl, rfl⟩) : Sim P (ρ.upd σ.next l) (σ.new o) w' ∧ Post ρ σ w (ρ.upd σ.next l) (σ.new o) w' := by
  have hsz : w'.heap.size = w.heap.size + 1 := by rw [hw]; simp
  have hold : ∀ b, b < w.heap.size → w'.heap[b]? = w.heap[b]? := by
    intro b hb; rw [hw, Array.getElem?_push]; rw [if_neg (by omega)]
  have hup : ∀ id l', (ρ.upd σ.next l) id = some l' → id ≠ σ.next → ρ id = some l' := by
    intro id l' he hne; simp only [Rho.upd] at he; rwa [if_neg hne] at he
  refine ⟨h.change (fun id => id = σ.next) (h.le_upd l) (by simp [AW.new]) (by omega) ?_ ?_ ?_ ?_ ?_, ?_⟩
  · intro id l' he h0
    by_cases hne : id = σ.next
    · exact hne
    · rw [hup id l' he hne] at h0; cases h0
  · intro id l' he ht
    have ht' : id = σ.next := ht
    subst ht'
    simp only [Rho.upd, if_true] at he; cases he
    exact ⟨by simp [AW.new], o, by rw [get_new, if_pos rfl], fun _ => by omega, ho⟩
  · intro id l' he ht
    refine ⟨by rw [get_new, if_neg ht], fun o' ho' hv => hold _ ?_⟩
    obtain ⟨_, o2, ho2, hb, _⟩ := h.obj id l' he
    rw [ho'] at ho2; cases ho2; exact hb hv
  · intro id l' es v he ht _
    have ht' : id = σ.next := ht
    subst ht'
    rw [h.fresh (Nat.le_refl _)] at he; cases he
  · intro id id' l1 l2 o1 o2 ht he he' h1 h2 hv hv' hb
    have ht' : id = σ.next := ht
    subst ht'
    by_cases hne : id' = σ.next
    · exact hne.symm
    · simp only [Rho.upd, if_true] at he; cases he
      have e2 := hup id' l2 he' hne
      rw [get_new, if_neg hne] at h2
      obtain ⟨_, o3, ho3, hb3, _⟩ := h.obj id' l2 e2
      rw [h2] at ho3; cases ho3
      have := hb3 hv'; omega
  · refine ⟨h.le_upd l, ?_, by simp [AW.new], ?_, ⟨Nat.le_refl _, ?_⟩, by omega, fun b hb _ => hold b hb, ?_, hio⟩
    · intro id l' he h0
      by_cases hne : id = σ.next
      · omega
      · rw [hup id l' he hne] at h0; cases h0
    · intro id hid _; rw [get_new, if_neg (by omega)]
    · intro id hid _; rw [get_new, if_neg (by omega)]
    · rintro b hb ⟨id, l', o', he, ho', hv, rfl⟩
      by_cases hne : id = σ.next
      · subst hne; simp only [Rho.upd, if_true] at he; cases he; omega
      · exact ⟨id, l', o', hup id l' he hne, by rw [get_new, if_neg hne] at ho'; exact ho', hv, rfl⟩

/-- An object is turned where it lies. -/
theorem Sim.put {P : Program} {ρ : Rho} {σ : AW} {w w' : World} (h : Sim P ρ σ w) {id : Nat} {l : Loc} {o : AO} (o' : AO) (hl : ρ id = some l) (ho : σ.heap.get id = some o) (hv : o.live = true)
    (hmap : ∀ es v, o = .map es v → ∃ es' v', o' = .map es' v' ∧ v < v') (hsz : w'.heap.size = w.heap.size) (hw : ∀ b, b ≠ l.b → w'.heap[b]? = w.heap[b]?)
    (hor : OR P ρ (σ.put id o') l w' o') (hio : SameIO w w' := by exact ⟨rfl, rfl⟩) : Sim P ρ (σ.put id o') w' ∧ Post ρ σ w ρ (σ.put id o') w' := by
  obtain ⟨hid, o0, ho0, hb0, _⟩ := h.obj id l hl
  rw [ho] at ho0; cases ho0
  refine ⟨h.change (fun i => i = id) (Rho.le.refl ρ) (by simp [AW.put]) (by omega) ?_ ?_ ?_ ?_ ?_, ?_⟩
  · intro i l' he h0; rw [he] at h0; cases h0
  · intro i l' he ht
    have ht' : i = id := ht
    subst ht'
    rw [hl] at he; cases he
    exact ⟨by simpa [AW.put] using hid, o', by rw [get_put, if_pos rfl], fun _ => by rw [hsz]; exact hb0 hv, hor⟩
  · intro i l' he ht
    refine ⟨by rw [get_put, if_neg ht], fun o2 ho2 hv2 => hw _ (fun e => ht (h.inj i id l' l o2 o he hl ho2 ho hv2 hv e))⟩
  · intro i l' es v he ht hes
    have ht' : i = id := ht
    subst ht'
    rw [ho] at hes; cases hes
    obtain ⟨es', v', e1, e2⟩ := hmap es v rfl
    exact ⟨es', v', by rw [get_put, if_pos rfl, e1], e2⟩
  · intro i i' l1 l2 o1 o2 ht he he' h1 h2 hv1 hv2 hb
    have ht' : i = id := ht
    subst ht'
    by_cases hne : i' = i
    · exact hne.symm
    · rw [get_put, if_neg hne] at h2
      rw [hl] at he; cases he
      exact (h.inj i' i l2 l o2 o he' hl h2 ho hv2 hv hb.symm).symm
  · refine ⟨Rho.le.refl ρ, fun i l' he h0 => (by rw [he] at h0; cases h0), by simp [AW.put], ?_, ⟨?_, ?_⟩, by omega, ?_, ?_, hio⟩
    · intro i _ h0
      rw [get_put, if_neg]; rintro rfl; rw [hl] at h0; cases h0
    · simp only [AW.put]; split <;> omega
    · intro i _ hlow
      rw [get_put, if_neg]; rintro rfl
      simp only [AW.put] at hlow; split at hlow <;> omega
    · intro b _ hn
      exact hw b (fun e => hn ⟨id, l, o, hl, ho, hv, e.symm⟩)
    · rintro b _ ⟨i, l', o2, he, ho2, hv2, rfl⟩
      by_cases hne : i = id
      · subst hne; rw [hl] at he; cases he; exact ⟨i, l, o, hl, ho, hv, rfl⟩
      · rw [get_put, if_neg hne] at ho2; exact ⟨i, l', o2, he, ho2, hv2, rfl⟩

/-- Draws, and whatever else leaves the heap alone. -/
theorem Sim.heap {P : Program} {ρ : Rho} {σ : AW} {w w' : World} (h : Sim P ρ σ w) (hw : w'.heap = w.heap) (hio : SameIO w w' := by exact ⟨rfl, rfl⟩) : Sim P ρ σ w' ∧ Post ρ σ w ρ σ w' := by
  refine ⟨h.change (fun _ => False) (Rho.le.refl ρ) (Nat.le_refl _) (by rw [hw]; exact Nat.le_refl _) (fun i l he h0 => (by rw [he] at h0; cases h0)) (fun _ _ _ ht => ht.elim) (fun _ _ _ _ => ⟨rfl, fun _ _ _ => by rw [hw]⟩)
    (fun _ _ _ _ _ ht _ => ht.elim) (fun _ _ _ _ _ _ ht => ht.elim), ?_⟩
  exact ⟨Rho.le.refl ρ, fun i l he h0 => (by rw [he] at h0; cases h0), Nat.le_refl _, fun _ _ _ => rfl, ⟨Nat.le_refl _, fun _ _ _ => rfl⟩, by rw [hw]; exact Nat.le_refl _, fun _ _ _ => by rw [hw], fun _ _ ho => ho, hio⟩

/-- An object dies, and another one takes its block. -/
theorem Sim.reap {P : Program} {ρ : Rho} {σ : AW} {w w' : World} (h : Sim P ρ σ w) {id : Nat} {l : Loc} {o : AO} (o' : AO) (l' : Loc) (hl : ρ id = some l) (ho : σ.heap.get id = some o) (hv : o.live = true)
    (hmap : ∀ es v, o ≠ .map es v) (hl' : l'.b = l.b) (hsz : w'.heap.size = w.heap.size) (hw : ∀ b, b ≠ l.b → w'.heap[b]? = w.heap[b]?)
    (hor : OR P (ρ.upd σ.next l') ((σ.put id .dead).new o') l' w' o') (hio : SameIO w w' := by exact ⟨rfl, rfl⟩) :
    Sim P (ρ.upd σ.next l') ((σ.put id .dead).new o') w' ∧ Post ρ σ w (ρ.upd σ.next l') ((σ.put id .dead).new o') w' := by
  obtain ⟨hid, o0, ho0, hb0, _⟩ := h.obj id l hl
  rw [ho] at ho0; cases ho0
  have hn : (σ.put id .dead).next = σ.next := by simp [AW.put]
  have hup : ∀ i l1, (ρ.upd σ.next l') i = some l1 → i ≠ σ.next → ρ i = some l1 := by
    intro i l1 he hne; simp only [Rho.upd] at he; rwa [if_neg hne] at he
  have hnew : (ρ.upd σ.next l') σ.next = some l' := by simp [Rho.upd]
  have g : ∀ i, ((σ.put id .dead).new o').heap.get i = if i = σ.next then some o' else if i = id then some .dead else σ.heap.get i := by
    intro i; rw [get_new, hn, get_put]
  refine ⟨h.change (fun i => i = id ∨ i = σ.next) (h.le_upd l') (by simp [AW.new, AW.put]) (by omega) ?_ ?_ ?_ ?_ ?_, ?_⟩
  · intro i l1 he h0
    by_cases hne : i = σ.next
    · exact .inr hne
    · rw [hup i l1 he hne] at h0; cases h0
  · intro i l1 he ht
    rcases ht with rfl | rfl
    · rw [g, if_neg (by omega), if_pos rfl]
      exact ⟨by simp only [AW.new, AW.put]; omega, .dead, rfl, fun hd => by simp [AO.live] at hd, trivial⟩
    · rw [hnew] at he; cases he
      rw [g, if_pos rfl]
      exact ⟨by simp [AW.new, AW.put], o', rfl, fun _ => by rw [hsz, hl']; exact hb0 hv, hor⟩
  · intro i l1 he ht
    have h1 : i ≠ id := fun e => ht (.inl e)
    have h2 : i ≠ σ.next := fun e => ht (.inr e)
    refine ⟨by rw [g, if_neg h2, if_neg h1], fun o2 ho2 hv2 => hw _ (fun e => h1 (h.inj i id l1 l o2 o he hl ho2 ho hv2 hv e))⟩
  · intro i l1 es v he ht hes
    rcases ht with rfl | rfl
    · rw [ho] at hes; cases hes; exact absurd rfl (hmap es v)
    · rw [h.fresh (Nat.le_refl _)] at he; cases he
  · intro i i' l1 l2 o1 o2 ht he he' h1 h2 hv1 hv2 hb
    rcases ht with rfl | rfl
    · rw [g, if_neg (by omega), if_pos rfl] at h1; cases h1; simp [AO.live] at hv1
    · by_cases hne : i' = σ.next
      · exact hne.symm
      · rw [hnew] at he; cases he
        have e2 := hup i' l2 he' hne
        rw [g, if_neg hne] at h2
        by_cases hi : i' = id
        · rw [if_pos hi] at h2; cases h2; simp [AO.live] at hv2
        · rw [if_neg hi] at h2
          exact absurd (h.inj i' id l2 l o2 o e2 hl h2 ho hv2 hv (by omega)) hi
  · refine ⟨h.le_upd l', ?_, by simp [AW.new, AW.put], ?_, ⟨?_, ?_⟩, by omega, ?_, ?_, hio⟩
    · intro i l1 he h0
      by_cases hne : i = σ.next
      · omega
      · rw [hup i l1 he hne] at h0; cases h0
    · intro i hi h0
      rw [g, if_neg (by omega), if_neg]; rintro rfl; rw [hl] at h0; cases h0
    · simp only [AW.new, AW.put]; split <;> omega
    · intro i hi hlow
      rw [g, if_neg (by omega), if_neg]; rintro rfl
      simp only [AW.new, AW.put] at hlow; split at hlow <;> omega
    · intro b _ hn'
      exact hw b (fun e => hn' ⟨id, l, o, hl, ho, hv, e.symm⟩)
    · rintro b _ ⟨i, l1, o2, he, ho2, hv2, rfl⟩
      rw [g] at ho2
      by_cases hne : i = σ.next
      · subst hne; rw [hnew] at he; cases he; exact ⟨id, l, o, hl, ho, hv, hl'.symm⟩
      · rw [if_neg hne] at ho2
        by_cases hi : i = id
        · rw [if_pos hi] at ho2; cases ho2; simp [AO.live] at hv2
        · rw [if_neg hi] at ho2
          exact ⟨i, l1, o2, hup i l1 he hne, ho2, hv2, rfl⟩

end Pe

namespace Pe
open Go
variable {P : Program} {ρ : Rho} {fr : Fr} {a : Act} {w : World}

/-- The operands' values stand for one another. -/
def EvalRel (ρ : Rho) (fr : Fr) (a : Act) (xs : List Operand) : Prop := ∀ x ∈ xs, ∀ u, fr.eval x = some u → VR ρ u (a.eval x)

def Gives (P : Program) (a : Act) (o : Oper) (w : World) (v : Value) (w' : World) : Prop :=
  (execOp a.eval o).run P w = .ok (.value v) w' ∨ ((execOp a.eval o).run P w = .ok .skip w' ∧ v = undef)

theorem run_under {t : TypeId} {d : TypeDesc} (h : P.underlying t = some d) : (underlying t).run P w = .ok d w := run_underlying h w

theorem move_ok {o : Oper} {x : Operand} (ho : o.op = .move x ∨ o.op = .assign x) {u : AV} (hu : fr.eval x = some u) (H : EvalRel ρ fr a o.op.operands.toList) :
    ∃ v, Gives P a o w v w ∧ VR ρ u v := by
  refine ⟨a.eval x, .inl ?_, H x ?_ u hu⟩
  · rcases ho with ho | ho <;> simp [execOp, ho]
  · rcases ho with ho | ho <;> simp [ho, Op.operands]

theorem pick_ok {o : Oper} {c x y : Operand} (ho : o.op = .pick c x y) {t : Bool} (hc : fr.eval c = some (.bool t)) {u : AV} (hu : fr.eval (if t then x else y) = some u) (H : EvalRel ρ fr a o.op.operands.toList) :
    ∃ v, Gives P a o w v w ∧ VR ρ u v := by
  have h1 := H c (by simp [ho, Op.operands]) _ hc
  simp only [VR] at h1
  refine ⟨a.eval (if t then x else y), .inl ?_, H _ ?_ u hu⟩
  · simp [execOp, ho, h1, asBool]; cases t <;> rfl
  · cases t <;> simp [ho, Op.operands]

theorem extract_ok {o : Oper} {x : Operand} {i : Nat} (ho : o.op = .extract x i) {vs : List AV} {u : AV} (hx : fr.eval x = some (.tup vs)) (hu : vs[i]? = some u) (H : EvalRel ρ fr a o.op.operands.toList) :
    ∃ v, Gives P a o w v w ∧ VR ρ u v := by
  have h1 := H x (by simp [ho, Op.operands]) _ hx
  simp only [VR] at h1
  obtain ⟨vs', e, hr⟩ := h1
  obtain ⟨v, hv, hvr⟩ := hr.get hu
  refine ⟨v, .inl ?_, hvr⟩
  have : vs'[i]? = some v := by simpa using hv
  simp [execOp, ho, e, Instr.extract, this]

theorem binInt_ok {op : BinOp} {k k' : IntKind} {x y : Int} {u : AV} (hk : k = k' ∨ op = .shl ∨ op = .shr) (h : binInt op k x y = some u) (t : TypeId) :
    ∃ v, (binOp op t (.int k x) (.int k' y)).run P w = .ok v w ∧ VR ρ u v := by
  cases op <;> simp only [binInt] at h <;> (try simp only [reduceCtorEq, or_false] at hk)
  case shl =>
    split at h
    · cases h
    · cases h; exact ⟨_, by simp [binOp, Op.shift, *]; rfl, by simp [VR]⟩
  case shr =>
    split at h
    · cases h
    · cases h; exact ⟨_, by simp [binOp, Op.shift, *]; rfl, by simp [VR]⟩
  all_goals subst hk
  case quo =>
    split at h
    · cases h
    · cases h; exact ⟨_, by simp [binOp, Op.intDiv, *]; rfl, by simp [VR]⟩
  case rem =>
    split at h
    · cases h
    · cases h; exact ⟨_, by simp [binOp, Op.intDiv, *]; rfl, by simp [VR]⟩
  all_goals (cases h; exact ⟨_, by simp [binOp, Op.intArith, Op.intCmp, Op.intBits]; rfl, by simp [VR]⟩)

end Pe
