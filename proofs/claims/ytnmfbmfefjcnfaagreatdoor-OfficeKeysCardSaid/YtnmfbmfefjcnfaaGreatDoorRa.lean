/- The reach of a function, worked out in pieces with a mask: the laws. -/
import Derived.Test.YtnmfbmfefjcnfaaGreatDoorRows
namespace Go.Proofs.YtnmfbmfefjcnfaaGreatDoor
open Go
set_option maxRecDepth 100000
def leadOf (P : Program) (f : FuncId) : List FuncId := (P.funcs[f]?).elim [] P.leadsTo
def viaStep (P : Program) : Nat → List FuncId → Nat → List FuncId → List FuncId × Nat × List FuncId
  | 0, todo, m, seen => (todo, m, seen)
  | _ + 1, [], m, seen => ([], m, seen)
  | n + 1, f :: todo, m, seen => if m.testBit f then viaStep P n todo m seen else viaStep P n (leadOf P f ++ todo) (m ||| (1 <<< f)) (f :: seen)
def MaskOf (m : Nat) (seen : List FuncId) : Prop := ∀ f, m.testBit f = seen.contains f
theorem maskOf_nil : MaskOf 0 [] := fun f => by simp
theorem maskOf_cons {m : Nat} {seen : List FuncId} (h : MaskOf m seen) (f : FuncId) : MaskOf (m ||| (1 <<< f)) (f :: seen) := fun g => by
  rw [Nat.testBit_or, h g, List.contains_cons, Nat.one_shiftLeft, Nat.testBit_two_pow]
  by_cases e : f = g
  · subst e; simp
  · have e2 : ¬ g = f := fun x => e x.symm
    simp [e, e2]
theorem viaStep_ok (P : Program) : ∀ (n : Nat) (todo : List FuncId) (m : Nat) (seen todo' : List FuncId) (m' : Nat) (seen' : List FuncId), MaskOf m seen → viaStep P n todo m seen = (todo', m', seen') →
    MaskOf m' seen' ∧ ∀ F, P.closureVia (n + F) todo seen = P.closureVia F todo' seen'
  | 0, todo, m, seen, todo', m', seen', h, e => by
    simp only [viaStep, Prod.mk.injEq] at e
    obtain ⟨rfl, rfl, rfl⟩ := e
    exact ⟨h, fun F => by rw [Nat.zero_add]⟩
  | n + 1, [], m, seen, todo', m', seen', h, e => by
    simp only [viaStep, Prod.mk.injEq] at e
    obtain ⟨rfl, rfl, rfl⟩ := e
    refine ⟨h, fun F => ?_⟩
    have e1 : ∀ F, P.closureVia F [] seen = seen.reverse := fun F => by cases F <;> rfl
    rw [e1, e1]
  | n + 1, f :: todo, m, seen, todo', m', seen', h, e => by
    have en : ∀ F, n + 1 + F = (n + F) + 1 := fun F => by omega
    simp only [viaStep] at e
    split at e
    · rename_i hb
      obtain ⟨g1, g2⟩ := viaStep_ok P n _ _ _ _ _ _ h e
      refine ⟨g1, fun F => ?_⟩
      rw [en]
      simp only [Program.closureVia]
      rw [if_pos (by rw [← h f]; exact hb)]
      exact g2 F
    · rename_i hb
      obtain ⟨g1, g2⟩ := viaStep_ok P n _ _ _ _ _ _ (maskOf_cons h f) e
      refine ⟨g1, fun F => ?_⟩
      rw [en]
      simp only [Program.closureVia]
      rw [if_neg (by rw [← h f]; exact hb)]
      exact g2 F
def allFrom (p : Nat → Bool) : Nat → Nat → Bool
  | _, 0 => true
  | a, n + 1 => p a && allFrom p (a + 1) n
theorem allFrom_ok {p : Nat → Bool} : ∀ {n a : Nat}, allFrom p a n = true → ∀ i, a ≤ i → i < a + n → p i = true
  | 0, _, _, _, _, _ => by omega
  | n + 1, a, h, i, h1, h2 => by
    simp only [allFrom, Bool.and_eq_true] at h
    rcases Nat.eq_or_lt_of_le h1 with rfl | h3
    · exact h.1
    · exact allFrom_ok h.2 i h3 (by omega)
end Go.Proofs.YtnmfbmfefjcnfaaGreatDoor
