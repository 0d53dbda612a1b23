/- seal.Public of a secret of at most sixty bytes. -/
import Derived.Test.YtnmfbmfefjcnfaaGreatDoorNc
set_option linter.unusedSectionVars false
namespace Pe
open Go
set_option linter.unusedSectionVars false
noncomputable section
variable [PowG]
set_option maxRecDepth 100000
noncomputable def keyC (s : List UInt8) (j : Nat) : List UInt8 := s16 (keyK s j)
noncomputable def ksL (s : List UInt8) (n i : Nat) : List AV := mapT (fun j => .str (Bool.rec (motive := fun _ => List UInt8) [] (keyC s j) (Nat.blt j i))) (upTo n)
noncomputable def ksV (s : List UInt8) (n i : Nat) : VO := ⟨n, ksL s n i, 9, 0, true⟩
noncomputable def ksF (s : List UInt8) (n i : Nat) : Fr := mkFr 23 [(0, .str s), (5, .sl 0 0 n (.is n)), (11, .int .i64 n), (12, .int .i64 i)]
noncomputable def ks0 : Code := bod 26
noncomputable def ksB0 : Code := cL (cR (cR ks0))
noncomputable def ksb : Code := cB (cB (cR ksB0))
noncomputable def ksB : Code := cB (cL (cR (cR ksb)))
noncomputable def ksO : Array Oper := cO (cR ksB)
theorem ks_shape : ks0 = .seq (cL ks0) (.seq (cL (cR ks0)) (.seq (.seq (cL ksB0) (.block 0 (.loop ksb))) (cR (cR (cR ks0))))) := by kernel_rfl
theorem ks_shape2 : ksb = .seq (cL ksb) (.seq (.cond (.tmp 13) .skip (.exit 0)) (.seq (.block 1 (.seq (cL ksB) (.region 5 ksO false))) (cR (cR (cR ksb))))) := by kernel_rfl
theorem ksO_size : ksO.size = 7 := by kernel_rfl
def Pow2 (n : Nat) : Prop := n = 1 ∨ n = 2 ∨ n = 4 ∨ n = 8 ∨ n = 16
theorem ks_a (s : List UInt8) (n i : Nat) (hn : Pow2 n) (hi : i < n) : CodeF P0 0 (cL ksb) (ksF s n i) (mkW [ksV s n i]) (.norm, mkFr 23 [(0, .str s), (5, .sl 0 0 n (.is n)), (11, .int .i64 n), (12, .int .i64 i), (13, .bool true)], mkW [ksV s n i]) := by
  rcases hn with rfl | rfl | rfl | rfl | rfl <;> rcases below16 (show i < 16 by omega) with rfl | rfl | rfl | rfl | rfl | rfl | rfl | rfl | rfl | rfl | rfl | rfl | rfl | rfl | rfl | rfl <;> first | (exfalso; omega) | exact CodeF.symT (d := 10) (N := loopN) (ids := [0]) ext00 mixed (by kernel_rfl) (by kernel_rfl) (by kernel_rfl) (by kernel_rfl) (by kernel_rfl) (by kernel_rfl)
theorem ks_b (s : List UInt8) (n i : Nat) (hn : Pow2 n) (hi : i < n) : CodeF P0 0 (cL ksB) (mkFr 23 [(0, .str s), (5, .sl 0 0 n (.is n)), (11, .int .i64 n), (12, .int .i64 i), (13, .bool true)]) (mkW [ksV s n i]) (.norm, mkFr 23 [(0, .str s), (5, .sl 0 0 n (.is n)), (11, .int .i64 n), (12, .int .i64 i), (6, .int .i64 i)], mkW [ksV s n i]) := by
  rcases hn with rfl | rfl | rfl | rfl | rfl <;> rcases below16 (show i < 16 by omega) with rfl | rfl | rfl | rfl | rfl | rfl | rfl | rfl | rfl | rfl | rfl | rfl | rfl | rfl | rfl | rfl <;> first | (exfalso; omega) | exact CodeF.symT (d := 10) (N := loopN) (ids := [0]) ext00 mixed (by kernel_rfl) (by kernel_rfl) (by kernel_rfl) (by kernel_rfl) (by kernel_rfl) (by kernel_rfl)
theorem ks_c (s : List UInt8) (n i : Nat) (hn : Pow2 n) (hi : i < n) {fr' : Fr} {σ' : AW} (h : OpsF P0 0 ksO 4 (mkFr 23 [(0, .str s), (5, .sl 0 0 n (.is n)), (11, .int .i64 n), (12, .int .i64 i), (15, .sl 0 0 n (.is n)), (16, .int .i64 i), (17, .str s), (18, .int .i64 i)]) (mkW [ksV s n i]) fr' σ') :
    OpsF P0 0 ksO 0 (mkFr 23 [(0, .str s), (5, .sl 0 0 n (.is n)), (11, .int .i64 n), (12, .int .i64 i), (6, .int .i64 i)]) (mkW [ksV s n i]) fr' σ' := by
  rcases hn with rfl | rfl | rfl | rfl | rfl <;> rcases below16 (show i < 16 by omega) with rfl | rfl | rfl | rfl | rfl | rfl | rfl | rfl | rfl | rfl | rfl | rfl | rfl | rfl | rfl | rfl <;> first | (exfalso; omega) | exact OpsF.symT (P := P0) (k := 0) (ops := ksO) (j := 0) (m := 4) (d := 10) (ids := [0]) ext00 mixed h (by kernel_rfl) (by kernel_rfl) (by kernel_rfl) (by kernel_rfl) (by kernel_rfl) (by kernel_rfl) (by kernel_rfl)
theorem ks_d (s : List UInt8) (n i : Nat) (hn : Pow2 n) (hi : i < n) : OpsF P0 0 ksO 5 (mkFr 23 [(19, .str (s16 (keyK s i))), (0, .str s), (5, .sl 0 0 n (.is n)), (11, .int .i64 n), (12, .int .i64 i), (15, .sl 0 0 n (.is n)), (16, .int .i64 i), (17, .str s), (18, .int .i64 i)]) (mkW [ksV s n i]) (ksF s n i) (mkW [ksV s n (i + 1)]) := by
  rcases hn with rfl | rfl | rfl | rfl | rfl <;> rcases below16 (show i < 16 by omega) with rfl | rfl | rfl | rfl | rfl | rfl | rfl | rfl | rfl | rfl | rfl | rfl | rfl | rfl | rfl | rfl <;> first | (exfalso; omega) | exact OpsF.symT (P := P0) (k := 0) (ops := ksO) (j := 5) (m := 2) (d := 10) (ids := [0]) ext00 mixed (@OpsF.done' _ P0 0 ksO 7 _ _ ksO_size) (by kernel_rfl) (by kernel_rfl) (by kernel_rfl) (by kernel_rfl) (by kernel_rfl) (by kernel_rfl) (by kernel_rfl)
theorem ks_e (s : List UInt8) (n i : Nat) (hn : Pow2 n) (hi : i < n) : CodeF P0 0 (cR (cR (cR ksb))) (ksF s n i) (mkW [ksV s n (i + 1)]) (.norm, ksF s n (i + 1), mkW [ksV s n (i + 1)]) := by
  rcases hn with rfl | rfl | rfl | rfl | rfl <;> rcases below16 (show i < 16 by omega) with rfl | rfl | rfl | rfl | rfl | rfl | rfl | rfl | rfl | rfl | rfl | rfl | rfl | rfl | rfl | rfl <;> first | (exfalso; omega) | exact CodeF.symT (d := 10) (N := loopN) (ids := [0]) ext00 mixed (by kernel_rfl) (by kernel_rfl) (by kernel_rfl) (by kernel_rfl) (by kernel_rfl) (by kernel_rfl)
theorem ks_round (s : List UInt8) (hs : s.length ≤ 60) (n i : Nat) (hn : Pow2 n) (hi : i < n) : CodeF P0 0 ksb (ksF s n i) (mkW [ksV s n i]) (.norm, ksF s n (i + 1), mkW [ksV s n (i + 1)]) := by
  have hi6 : i < 16 := by rcases hn with rfl | rfl | rfl | rfl | rfl <;> omega
  rw [ks_shape2]
  refine .seq (ks_a s n i hn hi) (.seq (.cond (t := true) (by kernel_rfl) CodeF.skip) (.seq (.block (.seq (ks_b s n i hn hi) (.region (ks_c s n i hn hi ?_)))) (ks_e s n i hn hi)))
  exact OpsF.call (k' := 1) (j := 4) (o := ksO.getD 4 default) (d := 19) (by kernel_rfl) (by kernel_rfl) (by kernel_rfl) (by kernel_rfl) ((key_fun s hs i hi6).any rfl rfl _) (Nat.zero_le _) (by kernel_rfl) (ks_d s n i hn hi)
theorem ks_x (s : List UInt8) (n : Nat) (hn : Pow2 n) : CodeF P0 0 (cL ksb) (ksF s n n) (mkW [ksV s n n]) (.norm, mkFr 23 [(0, .str s), (5, .sl 0 0 n (.is n)), (11, .int .i64 n), (12, .int .i64 n), (13, .bool false)], mkW [ksV s n n]) := by
  rcases hn with rfl | rfl | rfl | rfl | rfl <;> exact CodeF.symT (d := 10) (N := loopN) (ids := [0]) ext00 mixed (by kernel_rfl) (by kernel_rfl) (by kernel_rfl) (by kernel_rfl) (by kernel_rfl) (by kernel_rfl)
theorem ks_rounds (s : List UInt8) (hs : s.length ≤ 60) (n : Nat) (hn : Pow2 n) : ∀ (m : Nat), m ≤ n → RoundsF P0 0 ksb (m + 1) (ksF s n (n - m)) (mkW [ksV s n (n - m)]) (.jump (.exit 0), mkFr 23 [(0, .str s), (5, .sl 0 0 n (.is n)), (11, .int .i64 n), (12, .int .i64 n), (13, .bool false)], mkW [ksV s n n])
  | 0, _ => by
    refine RoundsF.last ?_
    rw [ks_shape2, Nat.sub_zero]
    exact .seq (ks_x s n hn) (.seqJ (.cond (t := false) (by kernel_rfl) CodeF.exit))
  | m + 1, hm => by
    have h := ks_round s hs n (n - (m + 1)) hn (by omega)
    have ih := ks_rounds s hs n hn m (by omega)
    rw [show n - (m + 1) + 1 = n - m by omega] at h
    exact RoundsF.next h ih
def Hts (h n : Nat) : Prop := (h = 0 ∧ n = 1) ∨ (h = 1 ∧ n = 2) ∨ (h = 2 ∧ n = 4) ∨ (h = 3 ∧ n = 8) ∨ (h = 4 ∧ n = 16)
theorem Hts.pow {h n : Nat} (hh : Hts h n) : Pow2 n := by
  unfold Pow2; rcases hh with ⟨_, rfl⟩ | ⟨_, rfl⟩ | ⟨_, rfl⟩ | ⟨_, rfl⟩ | ⟨_, rfl⟩ <;> simp
theorem ks_r0 (s : List UInt8) (h : Nat) : CodeF P0 0 (cL ks0) (mkFr 23 [(1, .int .i64 h), (0, .str s)]) (mkW []) (.norm, mkFr 23 [(1, .int .i64 h), (0, .str s)], mkW []) := CodeF.symT (d := 10) (N := loopN) (ids := []) ext00 mixed (by kernel_rfl) (by kernel_rfl) (by kernel_rfl) (by kernel_rfl) (by kernel_rfl) (by kernel_rfl)
theorem ks_r1 (s : List UInt8) (h n : Nat) (hh : Hts h n) : CodeF P0 0 (cL (cR ks0)) (mkFr 23 [(1, .int .i64 h), (0, .str s)]) (mkW []) (.norm, mkFr 23 [(0, .str s), (5, .sl 0 0 n (.is n))], mkW [ksV s n 0]) := by
  rcases hh with ⟨rfl, rfl⟩ | ⟨rfl, rfl⟩ | ⟨rfl, rfl⟩ | ⟨rfl, rfl⟩ | ⟨rfl, rfl⟩ <;> exact CodeF.symT (d := 10) (N := loopN) (ids := [0]) ext00 mixed (by kernel_rfl) (by kernel_rfl) (by kernel_rfl) (by kernel_rfl) (by kernel_rfl) (by kernel_rfl)
theorem ks_r2 (s : List UInt8) (n : Nat) (hn : Pow2 n) : CodeF P0 0 (cL ksB0) (mkFr 23 [(0, .str s), (5, .sl 0 0 n (.is n))]) (mkW [ksV s n 0]) (.norm, ksF s n 0, mkW [ksV s n 0]) := by
  rcases hn with rfl | rfl | rfl | rfl | rfl <;> exact CodeF.symT (d := 10) (N := loopN) (ids := [0]) ext00 mixed (by kernel_rfl) (by kernel_rfl) (by kernel_rfl) (by kernel_rfl) (by kernel_rfl) (by kernel_rfl)
theorem ks_z (s : List UInt8) (n : Nat) (hn : Pow2 n) : CodeF P0 0 (cR (cR (cR ks0))) (mkFr 23 [(0, .str s), (5, .sl 0 0 n (.is n)), (11, .int .i64 n), (12, .int .i64 n), (13, .bool false)]) (mkW [ksV s n n]) (.jump .ret, mkFr 23 [(4, .sl 0 0 n (.is n))], mkW [ksV s n n]) := by
  rcases hn with rfl | rfl | rfl | rfl | rfl <;> exact CodeF.symT (d := 10) (N := loopN) (ids := [0]) ext00 mixed (by kernel_rfl) (by kernel_rfl) (by kernel_rfl) (by kernel_rfl) (by kernel_rfl) (by kernel_rfl)
theorem keys_fun (s : List UInt8) (hs : s.length ≤ 60) (h n : Nat) (hh : Hts h n) : FunF P0 0 26 [.str s, .int .i64 h] (mkW []) (.sl 0 0 n (.is n)) (mkW [ksV s n n]) :=
  FunF.body (fn := funAt 26) (c := ks0) (o := .jump .ret) (fr := mkFr 23 [(4, .sl 0 0 n (.is n))]) (vs := [.sl 0 0 n (.is n)]) (by kernel_rfl) (by kernel_rfl) (by kernel_rfl) (by
    have : frame0 (funAt 26) [.str s, .int .i64 h] = mkFr 23 [(1, .int .i64 h), (0, .str s)] := by kernel_rfl
    rw [this, ks_shape]
    have hr := ks_rounds s hs n hh.pow n (Nat.le_refl _)
    rw [Nat.sub_self] at hr
    exact .seq (ks_r0 s h) (.seq (ks_r1 s h n hh) (.seq (.seq (ks_r2 s n hh.pow) (.blockX (.loop hr))) (ks_z s n hh.pow)))) (.inr rfl) rfl (by kernel_rfl)

/-! ### The root -/
noncomputable def leafK (x : List UInt8) : List UInt8 := s16 (sumK (rtL (frL [[108, 101, 97, 102], x])))
noncomputable def nodeK (x y : List UInt8) : List UInt8 := s16 (sumK (rtL (frL [[110, 111, 100, 101], x, y])))
noncomputable def rootT (f : Nat → List UInt8) (h : Nat) : Nat → List UInt8 := Nat.rec (motive := fun _ => Nat → List UInt8) (fun o => leafK (f o)) (fun h ih o => nodeK (ih o) (ih (Nat.add o (Nat.pow 2 h)))) h
noncomputable def pubK (h : Nat) (s : List UInt8) : List UInt8 := rootT (keyC s) h 0
noncomputable def pb0 : Code := bod 8
noncomputable def pbO : Array Oper := cO (cL (cR (cR pb0)))
theorem pbO_size : pbO.size = 6 := by kernel_rfl
theorem pb_a (s : List UInt8) (h n : Nat) (hh : Hts h n) : CodeF P0 0 (cL pb0) (mkFr 16 [(1, .int .i64 h), (0, .str s)]) (mkW []) (.norm, mkFr 16 [(1, .int .i64 h), (0, .str s)], mkW []) := by
  rcases hh with ⟨rfl, rfl⟩ | ⟨rfl, rfl⟩ | ⟨rfl, rfl⟩ | ⟨rfl, rfl⟩ | ⟨rfl, rfl⟩ <;> exact CodeF.symT (d := 10) (N := loopN) (ids := []) ext00 mixed (by kernel_rfl) (by kernel_rfl) (by kernel_rfl) (by kernel_rfl) (by kernel_rfl) (by kernel_rfl)
theorem pb_b (s : List UInt8) (h n : Nat) (hh : Hts h n) : CodeF P0 0 (cL (cR pb0)) (mkFr 16 [(1, .int .i64 h), (0, .str s)]) (mkW []) (.norm, mkFr 16 [(1, .int .i64 h), (0, .str s)], mkW []) := by
  rcases hh with ⟨rfl, rfl⟩ | ⟨rfl, rfl⟩ | ⟨rfl, rfl⟩ | ⟨rfl, rfl⟩ | ⟨rfl, rfl⟩ <;> exact CodeF.symT (d := 10) (N := loopN) (ids := []) ext00 mixed (by kernel_rfl) (by kernel_rfl) (by kernel_rfl) (by kernel_rfl) (by kernel_rfl) (by kernel_rfl)
theorem pb_c (s : List UInt8) (h n : Nat) (hh : Hts h n) {fr' : Fr} {σ' : AW} (g : OpsF P0 0 pbO 2 (mkFr 16 [(12, .str s), (13, .int .i64 h)]) (mkW []) fr' σ') : OpsF P0 0 pbO 0 (mkFr 16 [(1, .int .i64 h), (0, .str s)]) (mkW []) fr' σ' := by
  rcases hh with ⟨rfl, rfl⟩ | ⟨rfl, rfl⟩ | ⟨rfl, rfl⟩ | ⟨rfl, rfl⟩ | ⟨rfl, rfl⟩ <;> exact OpsF.symT (P := P0) (k := 0) (ops := pbO) (j := 0) (m := 2) (d := 10) (ids := []) ext00 mixed g (by kernel_rfl) (by kernel_rfl) (by kernel_rfl) (by kernel_rfl) (by kernel_rfl) (by kernel_rfl) (by kernel_rfl)
theorem pb_d (s : List UInt8) (h n : Nat) (hh : Hts h n) : OpsF P0 0 pbO 3 (mkFr 16 [(14, .sl 0 0 n (.is n)), (12, .str s), (13, .int .i64 h)]) (mkW [ksV s n n]) (mkFr 16 [(4, .str (pubK h s)), (5, .int .i64 0)]) (mkW []) := by
  rcases hh with ⟨rfl, rfl⟩ | ⟨rfl, rfl⟩ | ⟨rfl, rfl⟩ | ⟨rfl, rfl⟩ | ⟨rfl, rfl⟩ <;> exact OpsF.symT (P := P0) (k := 0) (ops := pbO) (j := 3) (m := 3) (X := xOf XL5) (multi := no1) (d := 100) (ids := []) ext5 mixed (@OpsF.done' _ P0 0 pbO 6 _ _ pbO_size) (by kernel_rfl) (by kernel_rfl) (by kernel_rfl) (by kernel_rfl) (by kernel_rfl) (by kernel_rfl) (by kernel_rfl)
theorem pub_fun (s : List UInt8) (hs : s.length ≤ 60) (h n : Nat) (hh : Hts h n) : FunF P0 0 8 [.str s, .int .i64 h] (mkW []) (.tup [.str (pubK h s), .int .i64 0]) (mkW []) :=
  FunF.body (fn := funAt 8) (c := pb0) (o := .jump .ret) (fr := mkFr 16 [(4, .str (pubK h s)), (5, .int .i64 0)]) (vs := [.str (pubK h s), .int .i64 0]) (by kernel_rfl) (by kernel_rfl) (by kernel_rfl) (by
    have e1 : frame0 (funAt 8) [.str s, .int .i64 h] = mkFr 16 [(1, .int .i64 h), (0, .str s)] := by kernel_rfl
    have e2 : pb0 = .seq (cL pb0) (.seq (cL (cR pb0)) (.seq (.region 3 pbO false) .ret)) := by kernel_rfl
    rw [e1, e2]
    refine .seq (pb_a s h n hh) (.seq (pb_b s h n hh) (.seq (.region (pb_c s h n hh ?_)) .ret))
    exact OpsF.call (k' := 0) (j := 2) (o := pbO.getD 2 default) (d := 14) (by kernel_rfl) (by kernel_rfl) (by kernel_rfl) (by kernel_rfl) (keys_fun s hs h n hh) (Nat.le_refl _) (by kernel_rfl) (pb_d s h n hh)) (.inr rfl) rfl (by kernel_rfl)
end
end Pe
