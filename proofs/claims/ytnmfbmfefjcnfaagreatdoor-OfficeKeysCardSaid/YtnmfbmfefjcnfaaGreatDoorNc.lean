/- seal.start and seal.key of a secret of at most sixty bytes. -/
import Derived.Test.YtnmfbmfefjcnfaaGreatDoorNa
import Derived.Test.YtnmfbmfefjcnfaaGreatDoorNb
import Derived.Test.YtnmfbmfefjcnfaaGreatDoorKj
set_option linter.unusedSectionVars false
/- seal.start of a secret of at most sixty bytes. -/
namespace Pe
open Go
set_option linter.unusedSectionVars false
noncomputable section
variable [PowG]
set_option maxRecDepth 100000
theorem l3_all : ∀ (n : Nat), n ≤ 60 → L3 n 1 1 ∧ L3 n 1 2 ∧ L3 n 2 1 ∧ L3 n 2 2
  | 0, _ => l3_0
  | 1, _ => l3_1
  | 2, _ => l3_2
  | 3, _ => l3_3
  | 4, _ => l3_4
  | 5, _ => l3_5
  | 6, _ => l3_6
  | 7, _ => l3_7
  | 8, _ => l3_8
  | 9, _ => l3_9
  | 10, _ => l3_10
  | 11, _ => l3_11
  | 12, _ => l3_12
  | 13, _ => l3_13
  | 14, _ => l3_14
  | 15, _ => l3_15
  | 16, _ => l3_16
  | 17, _ => l3_17
  | 18, _ => l3_18
  | 19, _ => l3_19
  | 20, _ => l3_20
  | 21, _ => l3_21
  | 22, _ => l3_22
  | 23, _ => l3_23
  | 24, _ => l3_24
  | 25, _ => l3_25
  | 26, _ => l3_26
  | 27, _ => l3_27
  | 28, _ => l3_28
  | 29, _ => l3_29
  | 30, _ => l3_30
  | 31, _ => l3_31
  | 32, _ => l3_32
  | 33, _ => l3_33
  | 34, _ => l3_34
  | 35, _ => l3_35
  | 36, _ => l3_36
  | 37, _ => l3_37
  | 38, _ => l3_38
  | 39, _ => l3_39
  | 40, _ => l3_40
  | 41, _ => l3_41
  | 42, _ => l3_42
  | 43, _ => l3_43
  | 44, _ => l3_44
  | 45, _ => l3_45
  | 46, _ => l3_46
  | 47, _ => l3_47
  | 48, _ => l3_48
  | 49, _ => l3_49
  | 50, _ => l3_50
  | 51, _ => l3_51
  | 52, _ => l3_52
  | 53, _ => l3_53
  | 54, _ => l3_54
  | 55, _ => l3_55
  | 56, _ => l3_56
  | 57, _ => l3_57
  | 58, _ => l3_58
  | 59, _ => l3_59
  | 60, _ => l3_60
  | n + 61, h => by omega
theorem list3 (s x y : List UInt8) (hs : s.length ≤ 60) (hx : x.length = 1 ∨ x.length = 2) (hy : y.length = 1 ∨ y.length = 2) :
    FunF P0 1 42 [.sl 0 0 3 (.is 3)] (mkW [root3 s x y]) (.str (fr3 s x y)) (mkW [root3 s x y]) := by
  obtain ⟨h1, h2, h3, h4⟩ := l3_all s.length hs
  have key : L3 s.length x.length y.length := by
    rcases hx with hx | hx <;> rcases hy with hy | hy <;> rw [hx, hy] <;> assumption
  have := key (fun i => s.getD i 0) (fun i => x.getD i 0) (fun i => y.getD i 0)
  rwa [tab_eq, tab_eq, tab_eq] at this
/-- of: the same. -/
noncomputable def Oof : Array Oper := cO (cL (cR (bod 139)))
theorem of_shape : bod 139 = .seq (cL (bod 139)) (.seq (.region 1 Oof false) .ret) := by kernel_rfl
theorem Oof_size : Oof.size = 3 := by kernel_rfl
theorem of3 (s x y : List UInt8) (hs : s.length ≤ 60) (hx : x.length = 1 ∨ x.length = 2) (hy : y.length = 1 ∨ y.length = 2) :
    FunF P0 1 139 [.sl 0 0 3 (.is 3)] (mkW [root3 s x y]) (.str (fr3 s x y)) (mkW [root3 s x y]) :=
  FunF.body (fn := funAt 139) (c := bod 139) (o := .jump .ret) (fr := mkFr 5 [(2, .str (fr3 s x y))]) (vs := [.str (fr3 s x y)]) (by kernel_rfl) (by kernel_rfl) (by kernel_rfl) (by
    have : frame0 (funAt 139) [.sl 0 0 3 (.is 3)] = mkFr 5 [(0, .sl 0 0 3 (.is 3))] := by kernel_rfl
    rw [this, of_shape]
    refine .seq (CodeF.sym (d := 10) (N := loopN) (ts := [0]) (ids := [0]) (vs := [.sl 0 0 3 (.is 3)]) (os := [root3 s x y]) ext00 mixed (by kernel_rfl) (by kernel_rfl) (by kernel_rfl) (by kernel_rfl) (by kernel_rfl) (by kernel_rfl)) ?_
    refine .seq (.region ?_) .ret
    refine OpsF.sym (P := P0) (k := 1) (ops := Oof) (j := 0) (d := 10) (m := 1) (ts := [3]) (ids := [0]) (vs := [.sl 0 0 3 (.is 3)]) (os := [root3 s x y]) ext00 mixed (by kernel_rfl) (by kernel_rfl) (by kernel_rfl) (by kernel_rfl) (by kernel_rfl) (by kernel_rfl) (by kernel_rfl) ?_
    refine OpsF.call (j := 1) (o := Oof.getD 1 default) (d := 4) (by kernel_rfl) (by kernel_rfl) (by kernel_rfl) (by kernel_rfl) (list3 s x y hs hx hy) (Nat.le_refl _) (by kernel_rfl) ?_
    exact OpsF.sym (P := P0) (k := 1) (ops := Oof) (j := 2) (d := 10) (m := 1) (ts := [2]) (ids := [0]) (vs := [.str (fr3 s x y)]) (os := [root3 s x y]) ext00 mixed (by kernel_rfl) (by kernel_rfl) (by kernel_rfl) (by kernel_rfl) (by kernel_rfl) (by kernel_rfl) (by kernel_rfl) (@OpsF.done' _ P0 1 Oof 3 _ _ Oof_size)) (.inr rfl) rfl (by kernel_rfl)
theorem below18 {a : Nat} (h : a < 18) : a = 0 ∨ a = 1 ∨ a = 2 ∨ a = 3 ∨ a = 4 ∨ a = 5 ∨ a = 6 ∨ a = 7 ∨ a = 8 ∨ a = 9 ∨ a = 10 ∨ a = 11 ∨ a = 12 ∨ a = 13 ∨ a = 14 ∨ a = 15 ∨ a = 16 ∨ a = 17 := by omega
theorem itoa_len {n : Nat} (h : n < 18) : (itoaK n).length = 1 ∨ (itoaK n).length = 2 := by
  rcases below18 h with rfl | rfl | rfl | rfl | rfl | rfl | rfl | rfl | rfl | rfl | rfl | rfl | rfl | rfl | rfl | rfl | rfl | rfl
  · exact .inl (by kernel_rfl)
  · exact .inl (by kernel_rfl)
  · exact .inl (by kernel_rfl)
  · exact .inl (by kernel_rfl)
  · exact .inl (by kernel_rfl)
  · exact .inl (by kernel_rfl)
  · exact .inl (by kernel_rfl)
  · exact .inl (by kernel_rfl)
  · exact .inl (by kernel_rfl)
  · exact .inl (by kernel_rfl)
  · exact .inr (by kernel_rfl)
  · exact .inr (by kernel_rfl)
  · exact .inr (by kernel_rfl)
  · exact .inr (by kernel_rfl)
  · exact .inr (by kernel_rfl)
  · exact .inr (by kernel_rfl)
  · exact .inr (by kernel_rfl)
  · exact .inr (by kernel_rfl)
noncomputable def startK (s : List UInt8) (i k : Nat) : List UInt8 := fr3 s (itoaK i) (itoaK k)
noncomputable def Ost : Array Oper := cO (cL (cR (bod 138)))
theorem st_shape : bod 138 = .seq (cL (bod 138)) (.seq (.region 1 Ost false) .ret) := by kernel_rfl
theorem Ost_size : Ost.size = 8 := by kernel_rfl
theorem st_ops (s : List UInt8) (i k : Nat) (hi : i < 16) (hk : k < 18) {fr' : Fr} {σ' : AW} (h : OpsF P0 0 Ost 6 (mkFr 14 [(12, .sl 0 0 3 (.is 3))]) (mkW [root3 s (itoaK i) (itoaK k)]) fr' σ') :
    OpsF P0 0 Ost 0 (mkFr 14 [(0, .str s), (1, .int .i64 i), (2, .int .i64 k)]) (mkW []) fr' σ' := by
  rcases below16 hi with rfl | rfl | rfl | rfl | rfl | rfl | rfl | rfl | rfl | rfl | rfl | rfl | rfl | rfl | rfl | rfl <;> rcases below18 hk with rfl | rfl | rfl | rfl | rfl | rfl | rfl | rfl | rfl | rfl | rfl | rfl | rfl | rfl | rfl | rfl | rfl | rfl <;> exact OpsF.sym (P := P0) (k := 0) (ops := Ost) (j := 0) (X := xOf XL2) (multi := no1) (fr' := fr') (σ' := σ') (d := 10) (m := 6) (ts := [12]) (ids := [0]) (vs := [.sl 0 0 3 (.is 3)]) (os := [root3 s (itoaK _) (itoaK _)]) ext2 mixed (by kernel_rfl) (by kernel_rfl) (by kernel_rfl) (by kernel_rfl) (by kernel_rfl) (by kernel_rfl) (by kernel_rfl) h
theorem start_fun (s : List UInt8) (hs : s.length ≤ 60) (i k : Nat) (hi : i < 16) (hk : k < 18) : FunF P0 0 138 [.str s, .int .i64 i, .int .i64 k] (mkW []) (.str (startK s i k)) (mkW []) :=
  FunF.body (fn := funAt 138) (c := bod 138) (o := .jump .ret) (fr := mkFr 14 [(6, .str (startK s i k))]) (vs := [.str (startK s i k)]) (by kernel_rfl) (by kernel_rfl) (by kernel_rfl) (by
    have : frame0 (funAt 138) [.str s, .int .i64 i, .int .i64 k] = mkFr 14 [(2, .int .i64 k), (1, .int .i64 i), (0, .str s)] := by kernel_rfl
    rw [this, st_shape]
    refine .seq (CodeF.sym (d := 10) (N := loopN) (ts := [0, 1, 2]) (ids := []) (vs := [.str s, .int .i64 i, .int .i64 k]) (os := []) ext00 mixed (by kernel_rfl) (by kernel_rfl) (by kernel_rfl) (by kernel_rfl) (by kernel_rfl) (by kernel_rfl)) ?_
    refine .seq (.region ?_) .ret
    refine st_ops s i k hi hk ?_
    refine OpsF.call (k' := 1) (j := 6) (o := Ost.getD 6 default) (d := 13) (by kernel_rfl) (by kernel_rfl) (by kernel_rfl) (by kernel_rfl) (of3 s _ _ hs (itoa_len (by omega)) (itoa_len hk)) (Nat.zero_le _) (by kernel_rfl) ?_
    exact OpsF.sym (P := P0) (k := 0) (ops := Ost) (j := 7) (d := 10) (m := 1) (ts := [6]) (ids := []) (vs := [.str (startK s i k)]) (os := []) ext00 mixed (by kernel_rfl) (by kernel_rfl) (by kernel_rfl) (by kernel_rfl) (by kernel_rfl) (by kernel_rfl) (by kernel_rfl) (@OpsF.done' _ P0 0 Ost 8 _ _ Ost_size)) (.inr rfl) rfl (by kernel_rfl)
end
end Pe

/- seal.key of a secret of at most sixty bytes. -/
namespace Pe
open Go
set_option linter.unusedSectionVars false
noncomputable section
variable [PowG]
set_option maxRecDepth 100000
/-- A function that needs nothing of the heap, from any heap. -/
theorem FunF.any {P : Program} {k : Nat} {f : FuncId} {xs : List AV} {v : AV} {σ0 : AW} (h : FunF P 0 f xs (mkW []) v σ0) (hxs : xs.all flatV = true) (hv : scalarV v = true) (σ : AW) : FunF P k f xs σ v σ := by
  intro ρ w args hs hg hx
  obtain ⟨h1, h2⟩ := h (fun _ => none) w args (sim00 _ _) (fun b O hb => ⟨(hg b O hb).1, fun ⟨_, _, _, hh, _⟩ => by cases hh⟩) (flats_VR hxs hx)
  refine ⟨h1, fun n => (h2 n).mono fun e w' he => ?_⟩
  obtain ⟨u, h3, ρ', g1, _, g3⟩ := he
  have hframe : ∀ b, b < w.heap.size → w'.heap[b]? = w.heap[b]? := fun b hb => g3.frame b hb fun ⟨id, l, o, hh, _⟩ => by cases hh
  exact ⟨u, h3, ρ, scalar_VR hv g1, hs.touch g3.size (fun b hb => hframe b (owned_lt hs hb)), ⟨fun _ _ => rfl, g3.size, fun b hb _ => hframe b hb, fun _ _ ho => ho, g3.io⟩⟩

/-! ### Sixteen bytes, one by one -/
noncomputable def nthU (l : List UInt8) (i : Nat) : UInt8 := Option.rec (motive := fun _ => UInt8) 0 (fun b => b) (nthF l i)
noncomputable def s16 (l : List UInt8) : List UInt8 := [nthU l 0, nthU l 1, nthU l 2, nthU l 3, nthU l 4, nthU l 5, nthU l 6, nthU l 7, nthU l 8, nthU l 9, nthU l 10, nthU l 11, nthU l 12, nthU l 13, nthU l 14, nthU l 15]
theorem s16_eq {l : List UInt8} (h : l.length = 16) : s16 l = l := by
  match l, h with
  | [a0, a1, a2, a3, a4, a5, a6, a7, a8, a9, a10, a11, a12, a13, a14, a15], _ => rfl
theorem sumK_len (s : List UInt8) : (sumK s).length = 16 := by
  unfold sumK
  rw [forceNat_eq]
  simp only [forceNat_eq]
  rfl
noncomputable def xSum16 : XF := one fun x => AV.onStr none (fun s => some (.str (s16 (sumK s)))) x
theorem con_sum16 : ConOk P0 102 xSum16 := by
  intro xs σ r h ρ w args hs hg hx
  obtain ⟨x, v, h1, h2, hr⟩ := one_run h
  clear h
  subst h1
  subst hr
  obtain ⟨s, rfl, h⟩ := onStr h2 (by simp)
  cases h
  have := sum_fun s
  rw [sumI_eq] at this
  rw [s16_eq (sumK_len s)]
  exact this.plain rfl rfl hs hg hx
noncomputable def itK (n : Nat) (s : List UInt8) : List UInt8 := Nat.rec (motive := fun _ => List UInt8) s (fun _ ih => sumK ih) n
theorem chain_fun (t : List UInt8) : FunF P0 0 137 [.str t, .int .i64 15] (mkW []) (.str (itK 15 t)) (mkW []) :=
  FunF.body (fn := funAt 137) (c := bod 137) (o := .jump .ret) (fr := mkFr 14 [(4, .str (itK 15 t))]) (vs := [.str (itK 15 t)]) (by kernel_rfl) (by kernel_rfl) (by kernel_rfl) (by
    have : frame0 (funAt 137) [.str t, .int .i64 15] = mkFr 14 [(1, .int .i64 15), (0, .str t)] := by kernel_rfl
    rw [this]
    exact CodeF.sym (X := xOf XL1) (multi := no1) (d := 10) (N := loopN) (ts := [4]) (ids := []) (vs := [.str (itK 15 t)]) (os := []) ext1 mixed (by kernel_rfl) (by kernel_rfl) (by kernel_rfl) (by kernel_rfl) (by kernel_rfl) (by kernel_rfl)) (.inr rfl) rfl (by kernel_rfl)
noncomputable def xChain : XF := two fun x y => AV.onStr none (fun s => AV.onInt none (fun k n => IntKind.casesOn (motive := fun _ => Option AV) k none none none (Int.rec (motive := fun _ => Option AV) (fun c => Bool.rec (motive := fun _ => Option AV) none (some (.str (s16 (itK 15 s)))) (Nat.beq c 15)) (fun _ => none) n) none none none none) y) x
theorem con_chain : ConOk P0 137 xChain := by
  intro xs σ r h ρ w args hs hg hx
  obtain ⟨x, y, v, h1, h2, hr⟩ := two_run h
  clear h
  subst h1
  subst hr
  obtain ⟨s, rfl, h3⟩ := onStr h2 (by simp)
  obtain ⟨k, n, rfl, h4⟩ := onInt h3 (by simp)
  cases k <;> try (cases h4; done)
  cases n with
  | negSucc n => cases h4
  | ofNat c =>
    have h5 : Bool.rec (motive := fun _ => Option AV) none (some (.str (s16 (itK 15 s)))) (Nat.beq c 15) = some v := h4
    obtain ⟨h6, h7⟩ := boolRec h5 (by simp)
    cases h7
    rw [Nat.eq_of_beq_eq_true h6] at hx
    have hl : (itK 15 s).length = 16 := sumK_len (itK 14 s)
    rw [s16_eq hl]
    exact (chain_fun s).plain rfl rfl hs hg hx
noncomputable def XL5 : List (FuncId × XF) := [(102, xSum16), (137, xChain), (94, xItoa), (427, xIdx), (201, xEsc), (407, xMnz), (339, xDig), (123, tableX repTab), (52, tableX atoiTab)]
theorem con5 : ∀ e ∈ XL5, ConOk P0 e.1 e.2 := by
  simp only [XL5, List.forall_mem_cons, List.not_mem_nil, false_implies, implies_true, and_true]
  exact ⟨con_sum16, con_chain, con_itoa, con_idx, con_esc, con_mnz, con_dig, con_rep, con_atoi⟩
theorem ext5 {multi : FuncId → Bool} : ExtOk (cfgX P0 (xOf XL5) multi) := extOk_of con5

/-! ### The rounds of key -/
noncomputable def endK (s : List UInt8) (i j : Nat) : List UInt8 := s16 (itK 15 (startK s i j))
noncomputable def endsL (s : List UInt8) (i k : Nat) : List AV := mapT (fun j => .str (endK s i j)) (upTo k)
noncomputable def kW (s : List UInt8) (i : Nat) : Nat → List VO
  | 0 => []
  | k + 1 => [⟨k + 1, endsL s i (k + 1), 9, 0, false⟩]
noncomputable def kS : Nat → AV
  | 0 => .nilsl
  | k + 1 => .sl 0 0 (k + 1) (.up 1)
noncomputable def kF (s : List UInt8) (i k : Nat) : Fr := mkFr 21 [(0, .str s), (1, .int .i64 i), (5, kS k), (7, .int .i64 k)]
noncomputable def kq0 : Code := bod 79
noncomputable def kL : Code := cL (cR (cR kq0))
noncomputable def kb : Code := cB (cB (cR kL))
noncomputable def kB : Code := cB (cL (cR (cR kb)))
noncomputable def kO : Array Oper := cO (cR kB)
theorem key_shape : kq0 = .seq (cL kq0) (.seq (cL (cR kq0)) (.seq (.seq (cL kL) (.block 0 (.loop kb))) (cR (cR (cR kq0))))) := by kernel_rfl
theorem key_shape2 : kb = .seq (cL kb) (.seq (.cond (.tmp 8) .skip (.exit 0)) (.seq (.block 1 (.seq (cL kB) (.region 5 kO false))) (cR (cR (cR kb))))) := by kernel_rfl
theorem kO_size : kO.size = 9 := by kernel_rfl
theorem key_a (s : List UInt8) (i k : Nat) (hk : k < 18) : CodeF P0 0 (cL kb) (kF s i k) (mkW (kW s i k)) (.norm, mkFr 21 [(0, .str s), (1, .int .i64 i), (5, kS k), (7, .int .i64 k), (8, .bool true)], mkW (kW s i k)) := by
  rcases below18 hk with rfl | rfl | rfl | rfl | rfl | rfl | rfl | rfl | rfl | rfl | rfl | rfl | rfl | rfl | rfl | rfl | rfl | rfl
  · exact CodeF.symT (d := 10) (N := loopN) (ids := []) ext00 mixed (by kernel_rfl) (by kernel_rfl) (by kernel_rfl) (by kernel_rfl) (by kernel_rfl) (by kernel_rfl)
  · exact CodeF.symT (d := 10) (N := loopN) (ids := [0]) ext00 mixed (by kernel_rfl) (by kernel_rfl) (by kernel_rfl) (by kernel_rfl) (by kernel_rfl) (by kernel_rfl)
  · exact CodeF.symT (d := 10) (N := loopN) (ids := [0]) ext00 mixed (by kernel_rfl) (by kernel_rfl) (by kernel_rfl) (by kernel_rfl) (by kernel_rfl) (by kernel_rfl)
  · exact CodeF.symT (d := 10) (N := loopN) (ids := [0]) ext00 mixed (by kernel_rfl) (by kernel_rfl) (by kernel_rfl) (by kernel_rfl) (by kernel_rfl) (by kernel_rfl)
  · exact CodeF.symT (d := 10) (N := loopN) (ids := [0]) ext00 mixed (by kernel_rfl) (by kernel_rfl) (by kernel_rfl) (by kernel_rfl) (by kernel_rfl) (by kernel_rfl)
  · exact CodeF.symT (d := 10) (N := loopN) (ids := [0]) ext00 mixed (by kernel_rfl) (by kernel_rfl) (by kernel_rfl) (by kernel_rfl) (by kernel_rfl) (by kernel_rfl)
  · exact CodeF.symT (d := 10) (N := loopN) (ids := [0]) ext00 mixed (by kernel_rfl) (by kernel_rfl) (by kernel_rfl) (by kernel_rfl) (by kernel_rfl) (by kernel_rfl)
  · exact CodeF.symT (d := 10) (N := loopN) (ids := [0]) ext00 mixed (by kernel_rfl) (by kernel_rfl) (by kernel_rfl) (by kernel_rfl) (by kernel_rfl) (by kernel_rfl)
  · exact CodeF.symT (d := 10) (N := loopN) (ids := [0]) ext00 mixed (by kernel_rfl) (by kernel_rfl) (by kernel_rfl) (by kernel_rfl) (by kernel_rfl) (by kernel_rfl)
  · exact CodeF.symT (d := 10) (N := loopN) (ids := [0]) ext00 mixed (by kernel_rfl) (by kernel_rfl) (by kernel_rfl) (by kernel_rfl) (by kernel_rfl) (by kernel_rfl)
  · exact CodeF.symT (d := 10) (N := loopN) (ids := [0]) ext00 mixed (by kernel_rfl) (by kernel_rfl) (by kernel_rfl) (by kernel_rfl) (by kernel_rfl) (by kernel_rfl)
  · exact CodeF.symT (d := 10) (N := loopN) (ids := [0]) ext00 mixed (by kernel_rfl) (by kernel_rfl) (by kernel_rfl) (by kernel_rfl) (by kernel_rfl) (by kernel_rfl)
  · exact CodeF.symT (d := 10) (N := loopN) (ids := [0]) ext00 mixed (by kernel_rfl) (by kernel_rfl) (by kernel_rfl) (by kernel_rfl) (by kernel_rfl) (by kernel_rfl)
  · exact CodeF.symT (d := 10) (N := loopN) (ids := [0]) ext00 mixed (by kernel_rfl) (by kernel_rfl) (by kernel_rfl) (by kernel_rfl) (by kernel_rfl) (by kernel_rfl)
  · exact CodeF.symT (d := 10) (N := loopN) (ids := [0]) ext00 mixed (by kernel_rfl) (by kernel_rfl) (by kernel_rfl) (by kernel_rfl) (by kernel_rfl) (by kernel_rfl)
  · exact CodeF.symT (d := 10) (N := loopN) (ids := [0]) ext00 mixed (by kernel_rfl) (by kernel_rfl) (by kernel_rfl) (by kernel_rfl) (by kernel_rfl) (by kernel_rfl)
  · exact CodeF.symT (d := 10) (N := loopN) (ids := [0]) ext00 mixed (by kernel_rfl) (by kernel_rfl) (by kernel_rfl) (by kernel_rfl) (by kernel_rfl) (by kernel_rfl)
  · exact CodeF.symT (d := 10) (N := loopN) (ids := [0]) ext00 mixed (by kernel_rfl) (by kernel_rfl) (by kernel_rfl) (by kernel_rfl) (by kernel_rfl) (by kernel_rfl)
theorem key_b (s : List UInt8) (i k : Nat) (hk : k < 18) : CodeF P0 0 (cL kB) (mkFr 21 [(0, .str s), (1, .int .i64 i), (5, kS k), (7, .int .i64 k), (8, .bool true)]) (mkW (kW s i k)) (.norm, mkFr 21 [(0, .str s), (1, .int .i64 i), (5, kS k), (7, .int .i64 k), (6, .int .i64 k)], mkW (kW s i k)) := by
  rcases below18 hk with rfl | rfl | rfl | rfl | rfl | rfl | rfl | rfl | rfl | rfl | rfl | rfl | rfl | rfl | rfl | rfl | rfl | rfl
  · exact CodeF.symT (d := 10) (N := loopN) (ids := []) ext00 mixed (by kernel_rfl) (by kernel_rfl) (by kernel_rfl) (by kernel_rfl) (by kernel_rfl) (by kernel_rfl)
  · exact CodeF.symT (d := 10) (N := loopN) (ids := [0]) ext00 mixed (by kernel_rfl) (by kernel_rfl) (by kernel_rfl) (by kernel_rfl) (by kernel_rfl) (by kernel_rfl)
  · exact CodeF.symT (d := 10) (N := loopN) (ids := [0]) ext00 mixed (by kernel_rfl) (by kernel_rfl) (by kernel_rfl) (by kernel_rfl) (by kernel_rfl) (by kernel_rfl)
  · exact CodeF.symT (d := 10) (N := loopN) (ids := [0]) ext00 mixed (by kernel_rfl) (by kernel_rfl) (by kernel_rfl) (by kernel_rfl) (by kernel_rfl) (by kernel_rfl)
  · exact CodeF.symT (d := 10) (N := loopN) (ids := [0]) ext00 mixed (by kernel_rfl) (by kernel_rfl) (by kernel_rfl) (by kernel_rfl) (by kernel_rfl) (by kernel_rfl)
  · exact CodeF.symT (d := 10) (N := loopN) (ids := [0]) ext00 mixed (by kernel_rfl) (by kernel_rfl) (by kernel_rfl) (by kernel_rfl) (by kernel_rfl) (by kernel_rfl)
  · exact CodeF.symT (d := 10) (N := loopN) (ids := [0]) ext00 mixed (by kernel_rfl) (by kernel_rfl) (by kernel_rfl) (by kernel_rfl) (by kernel_rfl) (by kernel_rfl)
  · exact CodeF.symT (d := 10) (N := loopN) (ids := [0]) ext00 mixed (by kernel_rfl) (by kernel_rfl) (by kernel_rfl) (by kernel_rfl) (by kernel_rfl) (by kernel_rfl)
  · exact CodeF.symT (d := 10) (N := loopN) (ids := [0]) ext00 mixed (by kernel_rfl) (by kernel_rfl) (by kernel_rfl) (by kernel_rfl) (by kernel_rfl) (by kernel_rfl)
  · exact CodeF.symT (d := 10) (N := loopN) (ids := [0]) ext00 mixed (by kernel_rfl) (by kernel_rfl) (by kernel_rfl) (by kernel_rfl) (by kernel_rfl) (by kernel_rfl)
  · exact CodeF.symT (d := 10) (N := loopN) (ids := [0]) ext00 mixed (by kernel_rfl) (by kernel_rfl) (by kernel_rfl) (by kernel_rfl) (by kernel_rfl) (by kernel_rfl)
  · exact CodeF.symT (d := 10) (N := loopN) (ids := [0]) ext00 mixed (by kernel_rfl) (by kernel_rfl) (by kernel_rfl) (by kernel_rfl) (by kernel_rfl) (by kernel_rfl)
  · exact CodeF.symT (d := 10) (N := loopN) (ids := [0]) ext00 mixed (by kernel_rfl) (by kernel_rfl) (by kernel_rfl) (by kernel_rfl) (by kernel_rfl) (by kernel_rfl)
  · exact CodeF.symT (d := 10) (N := loopN) (ids := [0]) ext00 mixed (by kernel_rfl) (by kernel_rfl) (by kernel_rfl) (by kernel_rfl) (by kernel_rfl) (by kernel_rfl)
  · exact CodeF.symT (d := 10) (N := loopN) (ids := [0]) ext00 mixed (by kernel_rfl) (by kernel_rfl) (by kernel_rfl) (by kernel_rfl) (by kernel_rfl) (by kernel_rfl)
  · exact CodeF.symT (d := 10) (N := loopN) (ids := [0]) ext00 mixed (by kernel_rfl) (by kernel_rfl) (by kernel_rfl) (by kernel_rfl) (by kernel_rfl) (by kernel_rfl)
  · exact CodeF.symT (d := 10) (N := loopN) (ids := [0]) ext00 mixed (by kernel_rfl) (by kernel_rfl) (by kernel_rfl) (by kernel_rfl) (by kernel_rfl) (by kernel_rfl)
  · exact CodeF.symT (d := 10) (N := loopN) (ids := [0]) ext00 mixed (by kernel_rfl) (by kernel_rfl) (by kernel_rfl) (by kernel_rfl) (by kernel_rfl) (by kernel_rfl)
theorem key_c (s : List UInt8) (i k : Nat) (hk : k < 18) {fr' : Fr} {σ' : AW} (h : OpsF P0 0 kO 4 (mkFr 21 [(0, .str s), (1, .int .i64 i), (7, .int .i64 k), (10, kS k), (11, .str s), (12, .int .i64 i), (13, .int .i64 k)]) (mkW (kW s i k)) fr' σ') :
    OpsF P0 0 kO 0 (mkFr 21 [(0, .str s), (1, .int .i64 i), (5, kS k), (7, .int .i64 k), (6, .int .i64 k)]) (mkW (kW s i k)) fr' σ' := by
  rcases below18 hk with rfl | rfl | rfl | rfl | rfl | rfl | rfl | rfl | rfl | rfl | rfl | rfl | rfl | rfl | rfl | rfl | rfl | rfl
  · exact OpsF.symT (P := P0) (k := 0) (ops := kO) (j := 0) (m := 4) (d := 10) (ids := []) ext00 mixed h (by kernel_rfl) (by kernel_rfl) (by kernel_rfl) (by kernel_rfl) (by kernel_rfl) (by kernel_rfl) (by kernel_rfl)
  · exact OpsF.symT (P := P0) (k := 0) (ops := kO) (j := 0) (m := 4) (d := 10) (ids := [0]) ext00 mixed h (by kernel_rfl) (by kernel_rfl) (by kernel_rfl) (by kernel_rfl) (by kernel_rfl) (by kernel_rfl) (by kernel_rfl)
  · exact OpsF.symT (P := P0) (k := 0) (ops := kO) (j := 0) (m := 4) (d := 10) (ids := [0]) ext00 mixed h (by kernel_rfl) (by kernel_rfl) (by kernel_rfl) (by kernel_rfl) (by kernel_rfl) (by kernel_rfl) (by kernel_rfl)
  · exact OpsF.symT (P := P0) (k := 0) (ops := kO) (j := 0) (m := 4) (d := 10) (ids := [0]) ext00 mixed h (by kernel_rfl) (by kernel_rfl) (by kernel_rfl) (by kernel_rfl) (by kernel_rfl) (by kernel_rfl) (by kernel_rfl)
  · exact OpsF.symT (P := P0) (k := 0) (ops := kO) (j := 0) (m := 4) (d := 10) (ids := [0]) ext00 mixed h (by kernel_rfl) (by kernel_rfl) (by kernel_rfl) (by kernel_rfl) (by kernel_rfl) (by kernel_rfl) (by kernel_rfl)
  · exact OpsF.symT (P := P0) (k := 0) (ops := kO) (j := 0) (m := 4) (d := 10) (ids := [0]) ext00 mixed h (by kernel_rfl) (by kernel_rfl) (by kernel_rfl) (by kernel_rfl) (by kernel_rfl) (by kernel_rfl) (by kernel_rfl)
  · exact OpsF.symT (P := P0) (k := 0) (ops := kO) (j := 0) (m := 4) (d := 10) (ids := [0]) ext00 mixed h (by kernel_rfl) (by kernel_rfl) (by kernel_rfl) (by kernel_rfl) (by kernel_rfl) (by kernel_rfl) (by kernel_rfl)
  · exact OpsF.symT (P := P0) (k := 0) (ops := kO) (j := 0) (m := 4) (d := 10) (ids := [0]) ext00 mixed h (by kernel_rfl) (by kernel_rfl) (by kernel_rfl) (by kernel_rfl) (by kernel_rfl) (by kernel_rfl) (by kernel_rfl)
  · exact OpsF.symT (P := P0) (k := 0) (ops := kO) (j := 0) (m := 4) (d := 10) (ids := [0]) ext00 mixed h (by kernel_rfl) (by kernel_rfl) (by kernel_rfl) (by kernel_rfl) (by kernel_rfl) (by kernel_rfl) (by kernel_rfl)
  · exact OpsF.symT (P := P0) (k := 0) (ops := kO) (j := 0) (m := 4) (d := 10) (ids := [0]) ext00 mixed h (by kernel_rfl) (by kernel_rfl) (by kernel_rfl) (by kernel_rfl) (by kernel_rfl) (by kernel_rfl) (by kernel_rfl)
  · exact OpsF.symT (P := P0) (k := 0) (ops := kO) (j := 0) (m := 4) (d := 10) (ids := [0]) ext00 mixed h (by kernel_rfl) (by kernel_rfl) (by kernel_rfl) (by kernel_rfl) (by kernel_rfl) (by kernel_rfl) (by kernel_rfl)
  · exact OpsF.symT (P := P0) (k := 0) (ops := kO) (j := 0) (m := 4) (d := 10) (ids := [0]) ext00 mixed h (by kernel_rfl) (by kernel_rfl) (by kernel_rfl) (by kernel_rfl) (by kernel_rfl) (by kernel_rfl) (by kernel_rfl)
  · exact OpsF.symT (P := P0) (k := 0) (ops := kO) (j := 0) (m := 4) (d := 10) (ids := [0]) ext00 mixed h (by kernel_rfl) (by kernel_rfl) (by kernel_rfl) (by kernel_rfl) (by kernel_rfl) (by kernel_rfl) (by kernel_rfl)
  · exact OpsF.symT (P := P0) (k := 0) (ops := kO) (j := 0) (m := 4) (d := 10) (ids := [0]) ext00 mixed h (by kernel_rfl) (by kernel_rfl) (by kernel_rfl) (by kernel_rfl) (by kernel_rfl) (by kernel_rfl) (by kernel_rfl)
  · exact OpsF.symT (P := P0) (k := 0) (ops := kO) (j := 0) (m := 4) (d := 10) (ids := [0]) ext00 mixed h (by kernel_rfl) (by kernel_rfl) (by kernel_rfl) (by kernel_rfl) (by kernel_rfl) (by kernel_rfl) (by kernel_rfl)
  · exact OpsF.symT (P := P0) (k := 0) (ops := kO) (j := 0) (m := 4) (d := 10) (ids := [0]) ext00 mixed h (by kernel_rfl) (by kernel_rfl) (by kernel_rfl) (by kernel_rfl) (by kernel_rfl) (by kernel_rfl) (by kernel_rfl)
  · exact OpsF.symT (P := P0) (k := 0) (ops := kO) (j := 0) (m := 4) (d := 10) (ids := [0]) ext00 mixed h (by kernel_rfl) (by kernel_rfl) (by kernel_rfl) (by kernel_rfl) (by kernel_rfl) (by kernel_rfl) (by kernel_rfl)
  · exact OpsF.symT (P := P0) (k := 0) (ops := kO) (j := 0) (m := 4) (d := 10) (ids := [0]) ext00 mixed h (by kernel_rfl) (by kernel_rfl) (by kernel_rfl) (by kernel_rfl) (by kernel_rfl) (by kernel_rfl) (by kernel_rfl)
noncomputable def kI : Nat → List Nat
  | 0 => [1]
  | _ + 1 => [2]
theorem key_d (s : List UInt8) (i k : Nat) (hk : k < 18) : OpsF P0 0 kO 5 (mkFr 21 [(14, .str (startK s i k)), (0, .str s), (1, .int .i64 i), (7, .int .i64 k), (10, kS k), (11, .str s), (12, .int .i64 i), (13, .int .i64 k)]) (mkW (kW s i k)) (mkFr 21 [(0, .str s), (1, .int .i64 i), (5, kS (k + 1)), (7, .int .i64 k)]) (mkW (kW s i (k + 1))) := by
  rcases below18 hk with rfl | rfl | rfl | rfl | rfl | rfl | rfl | rfl | rfl | rfl | rfl | rfl | rfl | rfl | rfl | rfl | rfl | rfl
  · exact OpsF.symT (P := P0) (k := 0) (ops := kO) (j := 5) (m := 4) (X := xOf XL5) (multi := no1) (d := 10) (ids := [1]) ext5 mixed (@OpsF.done' _ P0 0 kO 9 _ _ kO_size) (by kernel_rfl) (by kernel_rfl) (by kernel_rfl) (by kernel_rfl) (by kernel_rfl) (by kernel_rfl) (by kernel_rfl)
  · exact OpsF.symT (P := P0) (k := 0) (ops := kO) (j := 5) (m := 4) (X := xOf XL5) (multi := no1) (d := 10) (ids := [2]) ext5 mixed (@OpsF.done' _ P0 0 kO 9 _ _ kO_size) (by kernel_rfl) (by kernel_rfl) (by kernel_rfl) (by kernel_rfl) (by kernel_rfl) (by kernel_rfl) (by kernel_rfl)
  · exact OpsF.symT (P := P0) (k := 0) (ops := kO) (j := 5) (m := 4) (X := xOf XL5) (multi := no1) (d := 10) (ids := [2]) ext5 mixed (@OpsF.done' _ P0 0 kO 9 _ _ kO_size) (by kernel_rfl) (by kernel_rfl) (by kernel_rfl) (by kernel_rfl) (by kernel_rfl) (by kernel_rfl) (by kernel_rfl)
  · exact OpsF.symT (P := P0) (k := 0) (ops := kO) (j := 5) (m := 4) (X := xOf XL5) (multi := no1) (d := 10) (ids := [2]) ext5 mixed (@OpsF.done' _ P0 0 kO 9 _ _ kO_size) (by kernel_rfl) (by kernel_rfl) (by kernel_rfl) (by kernel_rfl) (by kernel_rfl) (by kernel_rfl) (by kernel_rfl)
  · exact OpsF.symT (P := P0) (k := 0) (ops := kO) (j := 5) (m := 4) (X := xOf XL5) (multi := no1) (d := 10) (ids := [2]) ext5 mixed (@OpsF.done' _ P0 0 kO 9 _ _ kO_size) (by kernel_rfl) (by kernel_rfl) (by kernel_rfl) (by kernel_rfl) (by kernel_rfl) (by kernel_rfl) (by kernel_rfl)
  · exact OpsF.symT (P := P0) (k := 0) (ops := kO) (j := 5) (m := 4) (X := xOf XL5) (multi := no1) (d := 10) (ids := [2]) ext5 mixed (@OpsF.done' _ P0 0 kO 9 _ _ kO_size) (by kernel_rfl) (by kernel_rfl) (by kernel_rfl) (by kernel_rfl) (by kernel_rfl) (by kernel_rfl) (by kernel_rfl)
  · exact OpsF.symT (P := P0) (k := 0) (ops := kO) (j := 5) (m := 4) (X := xOf XL5) (multi := no1) (d := 10) (ids := [2]) ext5 mixed (@OpsF.done' _ P0 0 kO 9 _ _ kO_size) (by kernel_rfl) (by kernel_rfl) (by kernel_rfl) (by kernel_rfl) (by kernel_rfl) (by kernel_rfl) (by kernel_rfl)
  · exact OpsF.symT (P := P0) (k := 0) (ops := kO) (j := 5) (m := 4) (X := xOf XL5) (multi := no1) (d := 10) (ids := [2]) ext5 mixed (@OpsF.done' _ P0 0 kO 9 _ _ kO_size) (by kernel_rfl) (by kernel_rfl) (by kernel_rfl) (by kernel_rfl) (by kernel_rfl) (by kernel_rfl) (by kernel_rfl)
  · exact OpsF.symT (P := P0) (k := 0) (ops := kO) (j := 5) (m := 4) (X := xOf XL5) (multi := no1) (d := 10) (ids := [2]) ext5 mixed (@OpsF.done' _ P0 0 kO 9 _ _ kO_size) (by kernel_rfl) (by kernel_rfl) (by kernel_rfl) (by kernel_rfl) (by kernel_rfl) (by kernel_rfl) (by kernel_rfl)
  · exact OpsF.symT (P := P0) (k := 0) (ops := kO) (j := 5) (m := 4) (X := xOf XL5) (multi := no1) (d := 10) (ids := [2]) ext5 mixed (@OpsF.done' _ P0 0 kO 9 _ _ kO_size) (by kernel_rfl) (by kernel_rfl) (by kernel_rfl) (by kernel_rfl) (by kernel_rfl) (by kernel_rfl) (by kernel_rfl)
  · exact OpsF.symT (P := P0) (k := 0) (ops := kO) (j := 5) (m := 4) (X := xOf XL5) (multi := no1) (d := 10) (ids := [2]) ext5 mixed (@OpsF.done' _ P0 0 kO 9 _ _ kO_size) (by kernel_rfl) (by kernel_rfl) (by kernel_rfl) (by kernel_rfl) (by kernel_rfl) (by kernel_rfl) (by kernel_rfl)
  · exact OpsF.symT (P := P0) (k := 0) (ops := kO) (j := 5) (m := 4) (X := xOf XL5) (multi := no1) (d := 10) (ids := [2]) ext5 mixed (@OpsF.done' _ P0 0 kO 9 _ _ kO_size) (by kernel_rfl) (by kernel_rfl) (by kernel_rfl) (by kernel_rfl) (by kernel_rfl) (by kernel_rfl) (by kernel_rfl)
  · exact OpsF.symT (P := P0) (k := 0) (ops := kO) (j := 5) (m := 4) (X := xOf XL5) (multi := no1) (d := 10) (ids := [2]) ext5 mixed (@OpsF.done' _ P0 0 kO 9 _ _ kO_size) (by kernel_rfl) (by kernel_rfl) (by kernel_rfl) (by kernel_rfl) (by kernel_rfl) (by kernel_rfl) (by kernel_rfl)
  · exact OpsF.symT (P := P0) (k := 0) (ops := kO) (j := 5) (m := 4) (X := xOf XL5) (multi := no1) (d := 10) (ids := [2]) ext5 mixed (@OpsF.done' _ P0 0 kO 9 _ _ kO_size) (by kernel_rfl) (by kernel_rfl) (by kernel_rfl) (by kernel_rfl) (by kernel_rfl) (by kernel_rfl) (by kernel_rfl)
  · exact OpsF.symT (P := P0) (k := 0) (ops := kO) (j := 5) (m := 4) (X := xOf XL5) (multi := no1) (d := 10) (ids := [2]) ext5 mixed (@OpsF.done' _ P0 0 kO 9 _ _ kO_size) (by kernel_rfl) (by kernel_rfl) (by kernel_rfl) (by kernel_rfl) (by kernel_rfl) (by kernel_rfl) (by kernel_rfl)
  · exact OpsF.symT (P := P0) (k := 0) (ops := kO) (j := 5) (m := 4) (X := xOf XL5) (multi := no1) (d := 10) (ids := [2]) ext5 mixed (@OpsF.done' _ P0 0 kO 9 _ _ kO_size) (by kernel_rfl) (by kernel_rfl) (by kernel_rfl) (by kernel_rfl) (by kernel_rfl) (by kernel_rfl) (by kernel_rfl)
  · exact OpsF.symT (P := P0) (k := 0) (ops := kO) (j := 5) (m := 4) (X := xOf XL5) (multi := no1) (d := 10) (ids := [2]) ext5 mixed (@OpsF.done' _ P0 0 kO 9 _ _ kO_size) (by kernel_rfl) (by kernel_rfl) (by kernel_rfl) (by kernel_rfl) (by kernel_rfl) (by kernel_rfl) (by kernel_rfl)
  · exact OpsF.symT (P := P0) (k := 0) (ops := kO) (j := 5) (m := 4) (X := xOf XL5) (multi := no1) (d := 10) (ids := [2]) ext5 mixed (@OpsF.done' _ P0 0 kO 9 _ _ kO_size) (by kernel_rfl) (by kernel_rfl) (by kernel_rfl) (by kernel_rfl) (by kernel_rfl) (by kernel_rfl) (by kernel_rfl)
theorem key_e (s : List UInt8) (i k : Nat) (hk : k < 18) : CodeF P0 0 (cR (cR (cR kb))) (mkFr 21 [(0, .str s), (1, .int .i64 i), (5, kS (k + 1)), (7, .int .i64 k)]) (mkW (kW s i (k + 1))) (.norm, kF s i (k + 1), mkW (kW s i (k + 1))) := by
  rcases below18 hk with rfl | rfl | rfl | rfl | rfl | rfl | rfl | rfl | rfl | rfl | rfl | rfl | rfl | rfl | rfl | rfl | rfl | rfl <;> exact CodeF.symT (d := 10) (N := loopN) (ids := [0]) ext00 mixed (by kernel_rfl) (by kernel_rfl) (by kernel_rfl) (by kernel_rfl) (by kernel_rfl) (by kernel_rfl)
theorem kS_under (k : Nat) : AV.under 1 (kS k) = true := by cases k <;> rfl
theorem key_round (s : List UInt8) (hs : s.length ≤ 60) (i k : Nat) (hi : i < 16) (hk : k < 18) : CodeF P0 0 kb (kF s i k) (mkW (kW s i k)) (.norm, kF s i (k + 1), mkW (kW s i (k + 1))) := by
  rw [key_shape2]
  refine .seq (key_a s i k hk) (.seq (.cond (t := true) (by kernel_rfl) CodeF.skip) (.seq (.block (.seq (key_b s i k hk) (.region (key_c s i k hk ?_)))) (key_e s i k hk)))
  refine OpsF.call (k' := 1) (j := 4) (o := kO.getD 4 default) (d := 14) (by kernel_rfl) (by kernel_rfl) (by kernel_rfl) (by kernel_rfl) ((start_fun s hs i k hi hk).any rfl rfl _) (Nat.zero_le _) ?_ (key_d s i k hk)
  simp only [List.all_cons, List.all_nil, kS_under, AV.under, Bool.and_self]
theorem key_x (s : List UInt8) (i : Nat) : CodeF P0 0 (cL kb) (kF s i 18) (mkW (kW s i 18)) (.norm, mkFr 21 [(0, .str s), (1, .int .i64 i), (5, kS 18), (7, .int .i64 18), (8, .bool false)], mkW (kW s i 18)) :=
  CodeF.sym (d := 10) (N := loopN) (ts := [0, 1, 5, 7, 8]) (ids := [0]) (vs := [.str s, .int .i64 i, kS 18, .int .i64 18, .bool false]) (os := kW s i 18) ext00 mixed (by kernel_rfl) (by kernel_rfl) (by kernel_rfl) (by kernel_rfl) (by kernel_rfl) (by kernel_rfl)
theorem key_rounds (s : List UInt8) (hs : s.length ≤ 60) (i : Nat) (hi : i < 16) : ∀ (m : Nat), m ≤ 18 → RoundsF P0 0 kb (m + 1) (kF s i (18 - m)) (mkW (kW s i (18 - m))) (.jump (.exit 0), mkFr 21 [(0, .str s), (1, .int .i64 i), (5, kS 18), (7, .int .i64 18), (8, .bool false)], mkW (kW s i 18))
  | 0, _ => by
    refine RoundsF.last ?_
    rw [key_shape2]
    exact .seq (key_x s i) (.seqJ (.cond (t := false) (by kernel_rfl) CodeF.exit))
  | m + 1, hm => by
    have h := key_round s hs i (17 - m) hi (by omega)
    have ih := key_rounds s hs i hi m (by omega)
    rw [show 17 - m + 1 = 18 - m by omega] at h
    rw [show 18 - (m + 1) = 17 - m by omega]
    exact RoundsF.next h ih
noncomputable def frL (l : List (List UInt8)) : List UInt8 := List.rec (motive := fun _ => List UInt8) [] (fun x _ ih => frK x ih) l
noncomputable def keyK (s : List UInt8) (i : Nat) : List UInt8 := sumK (rtL (frL (mapT (fun j => endK s i j) (upTo 18))))
theorem key_z (s : List UInt8) (i : Nat) : CodeF P0 0 (cR (cR (cR kq0))) (mkFr 21 [(0, .str s), (1, .int .i64 i), (5, kS 18), (7, .int .i64 18), (8, .bool false)]) (mkW (kW s i 18)) (.jump .ret, mkFr 21 [(4, .str (s16 (keyK s i)))], mkW []) :=
  CodeF.sym (X := xOf XL5) (multi := no1) (d := 100) (N := loopN) (ts := [4]) (ids := []) (vs := [.str (s16 (keyK s i))]) (os := []) ext5 mixed (by kernel_rfl) (by kernel_rfl) (by kernel_rfl) (by kernel_rfl) (by kernel_rfl) (by kernel_rfl)
theorem key_fun (s : List UInt8) (hs : s.length ≤ 60) (i : Nat) (hi : i < 16) : FunF P0 0 79 [.str s, .int .i64 i] (mkW []) (.str (s16 (keyK s i))) (mkW []) :=
  FunF.body (fn := funAt 79) (c := kq0) (o := .jump .ret) (fr := mkFr 21 [(4, .str (s16 (keyK s i)))]) (vs := [.str (s16 (keyK s i))]) (by kernel_rfl) (by kernel_rfl) (by kernel_rfl) (by
    have : frame0 (funAt 79) [.str s, .int .i64 i] = mkFr 21 [(1, .int .i64 i), (0, .str s)] := by kernel_rfl
    rw [this, key_shape]
    refine .seq (CodeF.sym (d := 10) (N := loopN) (ts := [0, 1]) (ids := []) (vs := [.str s, .int .i64 i]) (os := []) ext00 mixed (by kernel_rfl) (by kernel_rfl) (by kernel_rfl) (by kernel_rfl) (by kernel_rfl) (by kernel_rfl)) ?_
    refine .seq (CodeF.sym (d := 10) (N := loopN) (ts := [0, 1, 5]) (ids := []) (vs := [.str s, .int .i64 i, .nilsl]) (os := []) ext00 mixed (by kernel_rfl) (by kernel_rfl) (by kernel_rfl) (by kernel_rfl) (by kernel_rfl) (by kernel_rfl)) ?_
    refine .seq (.seq (CodeF.sym (d := 10) (N := loopN) (ts := [0, 1, 5, 7]) (ids := []) (vs := [.str s, .int .i64 i, .nilsl, .int .i64 (0 : Nat)]) (os := []) ext00 mixed (by kernel_rfl) (by kernel_rfl) (by kernel_rfl) (by kernel_rfl) (by kernel_rfl) (by kernel_rfl)) (.blockX (.loop (key_rounds s hs i hi 18 (Nat.le_refl _))))) (key_z s i)) (.inr rfl) rfl (by kernel_rfl)
end
end Pe
