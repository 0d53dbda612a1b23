/- Operations: the abstract answer is the answer. -/
import Derived.Test.YtnmfbmfefjcnfaaGreatDoorKa
import Derived.Laws.StructEq
import Derived.ChangeKeysEq
import Derived.Laws.IdiomCopy
import Derived.Laws.AppendOwn
set_option linter.unusedSectionVars false
namespace Pe
open Go
variable {P : Program} {ρ : Rho} {w : World}

theorem beqBytes_eq : ∀ (a b : List UInt8), beqBytes a b = (a == b)
  | [], [] => rfl
  | [], _ :: _ => rfl
  | _ :: _, [] => rfl
  | a :: x, b :: y => by
    have h : (a.toNat.beq b.toNat) = (a == b) := by
      rw [Bool.eq_iff_iff, Nat.beq_eq, beq_iff_eq, UInt8.toNat_inj]
    unfold beqBytes
    rw [h, beqBytes_eq x y]
    cases hab : a == b <;> simp [hab]

theorem ltBytes_eq : ∀ (a b : List UInt8), ltBytes a b = Op.bytesLess a b
  | [], [] => rfl
  | [], _ :: _ => rfl
  | _ :: _, [] => rfl
  | a :: x, b :: y => by
    have h : (a.toNat.beq b.toNat) = (a == b) := by
      rw [Bool.eq_iff_iff, Nat.beq_eq, beq_iff_eq, UInt8.toNat_inj]
    have h2 : (a.toNat.blt b.toNat) = decide (a < b) := by
      rw [Bool.eq_iff_iff, Nat.blt_eq, decide_eq_true_iff, UInt8.lt_iff_toNat_lt]
    unfold ltBytes Op.bytesLess
    rw [h, h2, ltBytes_eq x y]
    cases hab : a == b <;> cases hlt : decide (a < b) <;> simp_all

theorem binStr_ok {op : BinOp} {x y : List UInt8} {u : AV} (h : binStr op x y = some u) (t : TypeId) {s r : ByteArray} (hs : s.data.toList = x) (hr : r.data.toList = y) :
    ∃ v, (binOp op t (.string s) (.string r)).run P w = .ok v w ∧ VR ρ u v := by
  have e1 : s.toList = x := by rw [ByteArray.toList_eq, hs]
  have e2 : r.toList = y := by rw [ByteArray.toList_eq, hr]
  cases op <;> simp only [binStr] at h <;> (try cases h)
  case add =>
    split at h
    · rename_i hl
      cases h
      have l1 : s.size = x.length := by show s.data.size = _; rw [← hs, Array.length_toList]
      have l2 : r.size = y.length := by show r.data.size = _; rw [← hr, Array.length_toList]
      have hm : IntKind.i64.max = 9223372036854775807 := by decide
      refine ⟨.string (s ++ r), ?_, ?_⟩
      · have : ¬ ((s.size + r.size : Nat) : Int) > IntKind.i64.max := by
          rw [l1, l2, hm]; omega
        simp only [binOp, Op.stringOp]
        rw [if_neg this]; rfl
      · simp only [VR]; exact ⟨_, rfl, by rw [ByteArray.data_append]; simp [hs, hr]⟩
    · cases h
  all_goals exact ⟨_, by simp only [binOp, Op.stringOp, e1, e2, ← beqBytes_eq, ← ltBytes_eq]; rfl, by simp [VR, beqBytes_eq]⟩

theorem scalar_eq {t : TypeId} {x y : AV} {r : Bool} {v u : Value} (d : Nat) (hx : scalarFits P t x = true) (hy : scalarFits P t y = true) (h : eqCell x y = some r) (hv : VR ρ x v) (hu : VR ρ y u) :
    (Op.equalIn (d + 1) t v u).run P w = .ok r w := by
  unfold scalarFits at hx
  split at hx
  · rename_i a hT
    unfold scalarFits at hy; rw [hT] at hy
    cases y <;> simp at hy
    simp only [VR] at hv hu; subst hv hu
    simp only [eqCell, Option.some.injEq] at h; subst h
    exact run_equalIn_bool w d t _ _ hT
  · rename_i k k' a hT
    unfold scalarFits at hy; rw [hT] at hy
    cases y <;> simp at hy
    rename_i k2 b
    have hk : k = k' := by simpa using hx
    subst hk; subst hy
    simp only [VR] at hv hu; subst hv hu
    simp only [eqCell, if_true, Option.some.injEq] at h; subst h
    exact run_equalIn_int w d t _ _ _ _ hT
  · rename_i a hT
    unfold scalarFits at hy; rw [hT] at hy
    cases y <;> simp at hy
    simp only [VR] at hv hu
    obtain ⟨s, rfl, hs⟩ := hv
    obtain ⟨q, rfl, hq⟩ := hu
    simp only [eqCell, Option.some.injEq] at h; subst h
    rw [run_equalIn_string w d t _ _ hT, ByteArray.toList_eq, ByteArray.toList_eq, hs, hq, beqBytes_eq]
  · cases hx

theorem scalar_part {t : TypeId} {X : Array Value} {off : Nat} {v : Value} (h : scalarT P t = true) (hx : X[off]? = some v) : (part t X off).run P w = .ok v w := by
  unfold scalarT at h
  split at h <;> first | (cases h; done) | skip
  all_goals (rename_i hT; simp [part, isAgg, run_under hT, hx])

theorem fields_eq (d : Nat) (X Y : Array Value) : ∀ (fs : List Field) (i : Nat) (xs ys : List AV) (r : Bool), flatFields P fs i = true → fitsFields P fs xs = true → fitsFields P fs ys = true →
    eqCells xs ys = some r → VRs ρ xs (X.toList.drop i) → VRs ρ ys (Y.toList.drop i) → (Op.eqFields (d + 1) X Y fs).run P w = .ok r w
  | [], i, xs, ys, r, _, hx, hy, h, _, _ => by
    cases xs <;> simp [fitsFields] at hx
    cases ys <;> simp [fitsFields] at hy
    simp [eqCells] at h; subst h; simp [Op.eqFields]
  | f :: fs, i, xs, ys, r, hf, hx, hy, h, hX, hY => by
    cases xs with
    | nil => simp [fitsFields] at hx
    | cons x xs =>
    cases ys with
    | nil => simp [fitsFields] at hy
    | cons y ys =>
    simp only [fitsFields, Bool.and_eq_true] at hx hy
    simp only [flatFields, Bool.and_eq_true, Nat.beq_eq, bne_iff_ne] at hf
    obtain ⟨⟨⟨⟨hs, hn⟩, ho⟩, _⟩, hrest⟩ := hf
    obtain ⟨v, vs, e1, hv, hvs⟩ := VRs_cons.1 hX
    obtain ⟨u, us, e2, hu, hus⟩ := VRs_cons.1 hY
    have gx : X[i]? = some v := by
      have := congrArg (·[0]?) e1; simpa using this
    have gy : Y[i]? = some u := by
      have := congrArg (·[0]?) e2; simpa using this
    have dx : X.toList.drop (i + 1) = vs := by
      have := congrArg (·.drop 1) e1; simpa [Nat.add_comm] using this
    have dy : Y.toList.drop (i + 1) = us := by
      have := congrArg (·.drop 1) e2; simpa [Nat.add_comm] using this
    have p1 := scalar_part (P := P) (w := w) hs (X := X) (off := f.offset) (v := v) (by rw [ho]; exact gx)
    have p2 := scalar_part (P := P) (w := w) hs (X := Y) (off := f.offset) (v := u) (by rw [ho]; exact gy)
    simp only [eqCells] at h
    cases hc : eqCell x y with
    | none => rw [hc] at h; cases h
    | some b =>
      rw [hc] at h
      have p3 := scalar_eq (P := P) (w := w) d hx.1 hy.1 hc hv hu
      simp only [Op.eqFields, ne_eq, hn, not_false_eq_true, if_true, Sem.run_bind, p1, p2, p3, Result.andThen_ok]
      cases b
      · simp only [Option.some.injEq] at h; subst h; simp
      · simp only [Bool.not_true, Bool.false_eq_true, if_false]
        exact fields_eq d X Y fs (i + 1) xs ys r hrest hx.2 hy.2 h (by rw [dx]; exact hvs) (by rw [dy]; exact hus)

theorem items_eq (d : Nat) (e : TypeId) (X Y : Array Value) (hs : scalarT P e = true) : ∀ (n i : Nat) (xs ys : List AV) (r : Bool), xs.length = n → ys.length = n → xs.all (scalarFits P e) = true → ys.all (scalarFits P e) = true →
    eqCells xs ys = some r → VRs ρ xs (X.toList.drop i) → VRs ρ ys (Y.toList.drop i) → (Op.eqItems (d + 1) e 1 X Y (List.range' i n)).run P w = .ok r w
  | 0, i, xs, ys, r, hx, hy, _, _, h, _, _ => by
    cases xs <;> simp at hx
    cases ys <;> simp at hy
    simp [eqCells] at h; subst h; simp [Op.eqItems]
  | n + 1, i, xs, ys, r, hx, hy, fx, fy, h, hX, hY => by
    cases xs with
    | nil => simp at hx
    | cons x xs =>
    cases ys with
    | nil => simp at hy
    | cons y ys =>
    simp only [List.all_cons, Bool.and_eq_true] at fx fy
    obtain ⟨v, vs, e1, hv, hvs⟩ := VRs_cons.1 hX
    obtain ⟨u, us, e2, hu, hus⟩ := VRs_cons.1 hY
    have gx : X[i]? = some v := by
      have := congrArg (·[0]?) e1; simpa using this
    have gy : Y[i]? = some u := by
      have := congrArg (·[0]?) e2; simpa using this
    have dx : X.toList.drop (i + 1) = vs := by
      have := congrArg (·.drop 1) e1; simpa [Nat.add_comm] using this
    have dy : Y.toList.drop (i + 1) = us := by
      have := congrArg (·.drop 1) e2; simpa [Nat.add_comm] using this
    have p1 := scalar_part (P := P) (w := w) hs (X := X) (off := i * 1) (v := v) (by rw [Nat.mul_one]; exact gx)
    have p2 := scalar_part (P := P) (w := w) hs (X := Y) (off := i * 1) (v := u) (by rw [Nat.mul_one]; exact gy)
    simp only [eqCells] at h
    cases hc : eqCell x y with
    | none => rw [hc] at h; cases h
    | some b =>
      rw [hc] at h
      have p3 := scalar_eq (P := P) (w := w) d fx.1 fy.1 hc hv hu
      simp only [List.range'_succ, Op.eqItems, Sem.run_bind, p1, p2, p3, Result.andThen_ok]
      cases b
      · simp only [Option.some.injEq] at h; subst h; simp
      · simp only [Bool.not_true, Bool.false_eq_true, if_false]
        exact items_eq d e X Y hs n (i + 1) xs ys r (by simpa using hx) (by simpa using hy) fx.2 fy.2 h (by rw [dx]; exact hvs) (by rw [dy]; exact hus)

def eqKey' : AV → AV → Option Bool
  | .agg a, .agg b => eqCells a b
  | a, b => eqCell a b

/-- Two keys, or two plain structs or arrays. -/
theorem key_eq {t : TypeId} {x y : AV} {r : Bool} {v u : Value} (d : Nat) (hx : keyFits P t x = true) (hy : keyFits P t y = true) (h : eqKey' x y = some r) (hv : VR ρ x v) (hu : VR ρ y u) :
    (Op.equalIn (d + 2) t v u).run P w = .ok r w := by
  by_cases hagg : ∃ cs, x = .agg cs
  · obtain ⟨cs, rfl⟩ := hagg
    cases y <;> simp only [eqKey', eqCell, reduceCtorEq] at h
    rename_i ds
    simp only [VR] at hv hu
    obtain ⟨X, rfl, hX⟩ := hv
    obtain ⟨Y, rfl, hY⟩ := hu
    simp only [keyFits] at hx hy
    cases hT : P.underlying t with
    | none => rw [hT] at hx; cases hx
    | some D =>
      rw [hT] at hx hy
      cases D <;> simp only [reduceCtorEq] at hx
      case struct fs =>
        simp only [Bool.and_eq_true] at hx hy
        have hflat := hx.1
        simp only [flatT, hT] at hflat
        split at hflat
        · rename_i hfl
          simp only [Bool.and_eq_true, Bool.not_eq_true'] at hfl
          rw [run_equalIn_struct w (d + 1) t X Y (by simp [Program.fieldsOf, hT]) hfl.2]
          have hf : (P.fieldsOf t) = fs := by simp [Program.fieldsOf, hT]
          rw [hf]
          exact fields_eq d X Y fs.toList 0 cs ds r hfl.1 hx.2 hy.2 h (by simpa using hX) (by simpa using hY)
        · cases hflat
      case array n e =>
        simp only [Bool.and_eq_true, Nat.beq_eq] at hx hy
        have hflat := hx.1.1
        simp only [flatT, hT] at hflat
        split at hflat
        · rename_i hfl
          simp only [Bool.and_eq_true, Nat.beq_eq] at hfl
          obtain ⟨i, hi⟩ : ∃ i, P.info? e = some i := by
            have h1 := hfl.1
            unfold scalarT at h1
            cases hu2 : P.underlying e with
            | none => rw [hu2] at h1; cases h1
            | some D => exact info_of_underlying hu2
          rw [run_equalIn_array w (d + 1) X Y hT hi, hfl.2, List.range_eq_range']
          exact items_eq d e X Y hfl.1 n 0 cs ds r hx.1.2 hy.1.2 hx.2 hy.2 h (by simpa using hX) (by simpa using hY)
        · cases hflat
  · have hk : eqKey' x y = eqCell x y := by
      cases x <;> first | rfl | (exact absurd ⟨_, rfl⟩ hagg)
    have hy2 : ∀ ds, y ≠ .agg ds := by
      rintro ds rfl; rw [hk] at h; cases x <;> simp [eqCell] at h
    have fx : keyFits P t x = scalarFits P t x := by cases x <;> first | rfl | (exact absurd ⟨_, rfl⟩ hagg)
    have fy : keyFits P t y = scalarFits P t y := by cases y <;> first | rfl | (exact absurd rfl (hy2 _))
    exact scalar_eq (d + 1) (by rw [← fx]; exact hx) (by rw [← fy]; exact hy) (by rw [← hk]; exact h) hv hu

end Pe

namespace Pe
open Go
variable {P : Program} {ρ : Rho} {fr : Fr} {a : Act} {w : World}

theorem guard_scalar {t : TypeId} (d : Nat) (h : scalarT P t = true) : P.eqGuardType (d + 1) t = false := by
  unfold scalarT at h
  split at h <;> first | (cases h; done) | skip
  all_goals (rename_i hT; simp [Program.eqGuardType, hT])

theorem flatFields_all : ∀ (fs : List Field) (i : Nat), flatFields P fs i = true → ∀ f ∈ fs, scalarT P f.type = true
  | [], _, _ => by simp
  | f :: fs, i, h => by
    simp only [flatFields, Bool.and_eq_true] at h
    intro g hg
    rcases List.mem_cons.1 hg with rfl | hg
    · exact h.1.1.1.1
    · exact flatFields_all fs (i + 1) h.2 g hg

theorem guard_flat {t : TypeId} (h : (flatT P t).isSome = true) : P.eqGuardType P.depth t = false := by
  have hd : P.depth = (2 * (P.types.size + Made.depth)) + 1 + 1 := rfl
  rw [hd]
  generalize 2 * (P.types.size + Made.depth) = d
  unfold flatT at h
  split at h
  · rename_i fs hT
    split at h
    · rename_i hf
      simp only [Bool.and_eq_true] at hf
      rw [Program.eqGuardType]; simp only [hT]
      rw [Array.any_eq_false']
      intro f hfm
      have := guard_scalar (P := P) d (flatFields_all _ 0 hf.1 f (by simpa using hfm))
      rw [this]; simp
    · cases h
  · rename_i n e hT
    split at h
    · rename_i hf
      simp only [Bool.and_eq_true] at hf
      simp only [Program.eqGuardType, hT]
      exact guard_scalar (P := P) d hf.1
    · cases h
  · cases h

theorem keyFits_flat {t : TypeId} {cs : List AV} (h : keyFits P t (.agg cs) = true) : (flatT P t).isSome = true := by
  simp only [keyFits] at h
  split at h
  · simp only [Bool.and_eq_true] at h; exact h.1
  · simp only [Bool.and_eq_true] at h; exact h.1.1
  · cases h

def plainPair : Value → Value → Bool
  | .int .., .int .. | .string _, .string _ | .float .., .float .. | .complex .., .complex .. => false
  | _, _ => true

theorem binOp_eq {op : BinOp} (hop : op = .eql ∨ op = .neq) {t : TypeId} {v u : Value} {r : Bool} (hp : plainPair v u = true) (he : (Op.equalIn 10000 t v u).run P w = .ok r w) :
    (binOp op t v u).run P w = .ok (.bool (if op = .eql then r else !r)) w := by
  have he' : (Op.equal t v u).run P w = .ok r w := he
  rcases hop with rfl | rfl
  all_goals cases v <;> cases u <;> first | (cases hp; done) | (simp only [binOp, Sem.run_bind, he', Result.andThen_ok, Sem.run_pure]; rfl)

theorem guard_no {op : BinOp} {t : TypeId} {v u : Value} (ox oy : Operand) (h1 : v ≠ .nilIface ∨ u ≠ .nilIface) (h2 : (∀ cs, v ≠ .agg cs) ∨ ∀ cs, u ≠ .agg cs) : (eqGuard op t ox oy v u).run P w = .ok () w := by
  have hv : ∀ (x y : Value), x = v → y = u → ¬ (x = .nilIface ∧ y = .nilIface) ∧ ¬ ((∃ cs, x = .agg cs) ∧ ∃ cs, y = .agg cs) := by
    rintro x y rfl rfl
    refine ⟨fun h => ?_, fun h => ?_⟩
    · rcases h1 with h1 | h1
      · exact h1 h.1
      · exact h1 h.2
    · obtain ⟨⟨c, h3⟩, ⟨c', h4⟩⟩ := h
      rcases h2 with h2 | h2
      · exact h2 _ h3
      · exact h2 _ h4
  have hv := hv v u rfl rfl
  clear h1 h2
  cases op <;> first
    | rfl
    | (cases v <;> cases u <;> first
        | rfl
        | (exfalso; exact hv.1 ⟨rfl, rfl⟩)
        | (exfalso; exact hv.2 ⟨⟨_, rfl⟩, ⟨_, rfl⟩⟩))

section
variable (d : Nat)
theorem ei_ptr {t e : TypeId} (hT : P.underlying t = some (.pointer e)) (b : Option Addr) : (Op.equalIn (d + 1) t (.pointer none) (.pointer b)).run P w = .ok b.isNone w := by
  simp [Op.equalIn, run_under hT]
theorem ei_ptr' {t e : TypeId} (hT : P.underlying t = some (.pointer e)) (b : Addr) : (Op.equalIn (d + 1) t (.pointer (some b)) (.pointer none)).run P w = .ok false w := by
  simp [Op.equalIn, run_under hT]
theorem ei_ptr2 {t e : TypeId} {i : TypeInfo} (hT : P.underlying t = some (.pointer e)) (hi : P.info? e = some i) (b : Addr) : (Op.equalIn (d + 1) t (.pointer (some b)) (.pointer (some b))).run P w = .ok true w := by
  simp [Op.equalIn, run_under hT, run_sizeOf w hi, sameAddr]
theorem ei_sl {t e : TypeId} (hT : P.underlying t = some (.slice e)) (n m : Nat) (b : Option Addr) (n' m' : Nat) : (Op.equalIn (d + 1) t (.slice none n m) (.slice b n' m')).run P w = .ok b.isNone w := by
  simp [Op.equalIn, run_under hT]
theorem ei_sl' {t e : TypeId} (hT : P.underlying t = some (.slice e)) (n m : Nat) (b : Addr) (n' m' : Nat) : (Op.equalIn (d + 1) t (.slice (some b) n m) (.slice none n' m')).run P w = .ok false w := by
  simp [Op.equalIn, run_under hT]
theorem ei_map {t k e : TypeId} (hT : P.underlying t = some (.map k e)) (b : Option Nat) : (Op.equalIn (d + 1) t (.map none) (.map b)).run P w = .ok b.isNone w := by
  simp [Op.equalIn, run_under hT]
theorem ei_map' {t k e : TypeId} (hT : P.underlying t = some (.map k e)) (b : Nat) : (Op.equalIn (d + 1) t (.map (some b)) (.map none)).run P w = .ok false w := by
  simp [Op.equalIn, run_under hT]
theorem ei_fn0 {t : TypeId} {a b c} (hT : P.underlying t = some (.func a b c)) : (Op.equalIn (d + 1) t .nilFunc .nilFunc).run P w = .ok true w := by
  simp [Op.equalIn, run_under hT]
theorem ei_fn {t : TypeId} {a b c} (hT : P.underlying t = some (.func a b c)) (f x y) : (Op.equalIn (d + 1) t .nilFunc (.func f x y)).run P w = .ok false w := by
  simp [Op.equalIn, run_under hT]
theorem ei_fn' {t : TypeId} {a b c} (hT : P.underlying t = some (.func a b c)) (f x y) : (Op.equalIn (d + 1) t (.func f x y) .nilFunc).run P w = .ok false w := by
  simp [Op.equalIn, run_under hT]
theorem ei_if0 {t : TypeId} {ms} (hT : P.underlying t = some (.interface ms)) : (Op.equalIn (d + 1) t .nilIface .nilIface).run P w = .ok true w := by
  simp [Op.equalIn, run_under hT]
theorem ei_if {t : TypeId} {ms} (hT : P.underlying t = some (.interface ms)) (f x) : (Op.equalIn (d + 1) t .nilIface (.iface f x)).run P w = .ok false w := by
  simp [Op.equalIn, run_under hT]
theorem ei_if' {t : TypeId} {ms} (hT : P.underlying t = some (.interface ms)) (f x) : (Op.equalIn (d + 1) t (.iface f x) .nilIface).run P w = .ok false w := by
  simp [Op.equalIn, run_under hT]
end

/-- == by the type. -/
theorem eqT_ok {t : TypeId} {x y : AV} {r : Bool} {v u : Value} (h : eqT P t x y = some r) (hv : VR ρ x v) (hu : VR ρ y u) (op : BinOp) (hop : op = .eql ∨ op = .neq) (ox oy : Operand) :
    (eqGuard op t ox oy v u).run P w = .ok () w ∧ (binOp op t v u).run P w = .ok (.bool (if op = .eql then r else !r)) w := by
  unfold eqT at h
  split at h
  · rename_i hT
    split at h <;> simp at h
    subst h
    simp only [VR] at hv hu; subst hv hu
    exact ⟨guard_no ox oy (.inl (by simp)) (.inl (by simp)), binOp_eq hop rfl (run_equalIn_bool w 9999 t _ _ hT)⟩
  · rename_i e hT
    split at h
    · simp at h; subst h
      simp only [VR] at hv hu; subst hv hu
      exact ⟨guard_no ox oy (.inl (by simp)) (.inl (by simp)), binOp_eq hop rfl (ei_ptr 9999 hT none)⟩
    · simp at h; subst h
      simp only [VR] at hv hu; obtain ⟨l, _, rfl⟩ := hu; subst hv
      exact ⟨guard_no ox oy (.inl (by simp)) (.inl (by simp)), binOp_eq hop rfl (ei_ptr 9999 hT (some _))⟩
    · simp at h; subst h
      simp only [VR] at hv hu; obtain ⟨l, _, rfl⟩ := hv; subst hu
      exact ⟨guard_no ox oy (.inl (by simp)) (.inl (by simp)), binOp_eq hop rfl (ei_ptr' 9999 hT _)⟩
    · split at h
      · rename_i hc
        simp at h; subst h
        obtain ⟨rfl, rfl, hsz⟩ := hc
        simp only [VR] at hv hu
        obtain ⟨l, hl, rfl⟩ := hv
        obtain ⟨l', hl', rfl⟩ := hu
        rw [hl] at hl'; cases hl'
        have hi : ∃ i, P.info? e = some i := by
          cases hi : P.info? e with
          | none => exact absurd (by simp [Program.cellsOf, hi]) hsz
          | some i => exact ⟨i, rfl⟩
        obtain ⟨i, hi⟩ := hi
        exact ⟨guard_no ox oy (.inl (by simp)) (.inl (by simp)), binOp_eq hop rfl (ei_ptr2 9999 hT hi _)⟩
      · cases h
    · cases h
  · rename_i hT
    split at h <;> simp at h
    · subst h
      simp only [VR] at hv hu; subst hv hu
      exact ⟨guard_no ox oy (.inl (by simp)) (.inl (by simp)), binOp_eq hop rfl (ei_sl 9999 hT 0 0 none 0 0)⟩
    · subst h
      simp only [VR] at hv hu; obtain ⟨l, c, _, _, rfl, _⟩ := hu; subst hv
      exact ⟨guard_no ox oy (.inl (by simp)) (.inl (by simp)), binOp_eq hop rfl (ei_sl 9999 hT 0 0 (some _) _ _)⟩
    · subst h
      simp only [VR] at hv hu; obtain ⟨l, c, _, _, rfl, _⟩ := hv; subst hu
      exact ⟨guard_no ox oy (.inl (by simp)) (.inl (by simp)), binOp_eq hop rfl (ei_sl' 9999 hT _ _ _ 0 0)⟩
  · rename_i hT
    split at h <;> simp at h
    · subst h
      simp only [VR] at hv hu; subst hv hu
      exact ⟨guard_no ox oy (.inl (by simp)) (.inl (by simp)), binOp_eq hop rfl (ei_map 9999 hT none)⟩
    · subst h
      simp only [VR] at hv hu; obtain ⟨l, _, rfl⟩ := hu; subst hv
      exact ⟨guard_no ox oy (.inl (by simp)) (.inl (by simp)), binOp_eq hop rfl (ei_map 9999 hT (some _))⟩
    · subst h
      simp only [VR] at hv hu; obtain ⟨l, _, rfl⟩ := hv; subst hu
      exact ⟨guard_no ox oy (.inl (by simp)) (.inl (by simp)), binOp_eq hop rfl (ei_map' 9999 hT _)⟩
  · rename_i hT
    split at h <;> simp at h
    · subst h
      simp only [VR] at hv hu; subst hv hu
      exact ⟨guard_no ox oy (.inl (by simp)) (.inl (by simp)), binOp_eq hop rfl (ei_fn0 9999 hT)⟩
    · subst h
      simp only [VR] at hv hu; obtain ⟨l, c, rfl, _⟩ := hu; subst hv
      exact ⟨guard_no ox oy (.inl (by simp)) (.inl (by simp)), binOp_eq hop rfl (ei_fn 9999 hT _ _ _)⟩
    · subst h
      simp only [VR] at hv hu; obtain ⟨l, c, rfl, _⟩ := hv; subst hu
      exact ⟨guard_no ox oy (.inl (by simp)) (.inl (by simp)), binOp_eq hop rfl (ei_fn' 9999 hT _ _ _)⟩
  · rename_i hT
    split at h <;> simp at h
    · subst h
      simp only [VR] at hv hu; obtain ⟨l, rfl, _⟩ := hu; subst hv
      exact ⟨guard_no ox oy (.inr (by simp)) (.inl (by simp)), binOp_eq hop rfl (ei_if 9999 hT _ _)⟩
    · subst h
      simp only [VR] at hv hu; obtain ⟨l, rfl, _⟩ := hv; subst hu
      exact ⟨guard_no ox oy (.inl (by simp)) (.inl (by simp)), binOp_eq hop rfl (ei_if' 9999 hT _ _)⟩
  all_goals
    first
      | (cases h; done)
      | (split at h
         · split at h
           · rename_i hc
             simp only [Bool.and_eq_true] at hc
             have hq := key_eq (P := P) (w := w) 9998 hc.1 hc.2 h hv hu
             have hg := guard_flat (keyFits_flat hc.1)
             simp only [VR] at hv hu
             obtain ⟨X, rfl, _⟩ := hv
             obtain ⟨Y, rfl, _⟩ := hu
             exact ⟨run_eqGuard_agg w op t ox oy X Y hg, binOp_eq hop rfl hq⟩
           · cases h
         · cases h)

theorem bin_ok {o : Oper} {op : BinOp} {t t' : TypeId} {x y : Operand} (ho : o.op = .binOp op t x y t') {p q u : AV} (hx : fr.eval x = some p) (hy : fr.eval y = some q) (h : bin P op t p q = some u) (H : EvalRel ρ fr a o.op.operands.toList) :
    ∃ v, Gives P a o w v w ∧ VR ρ u v := by
  have h1 := H x (by simp [ho, Op.operands]) _ hx
  have h2 := H y (by simp [ho, Op.operands]) _ hy
  have fin : ∀ v, (eqGuard op t x y (a.eval x) (a.eval y)).run P w = .ok () w → (binOp op t (a.eval x) (a.eval y)).run P w = .ok v w → Gives P a o w v w := by
    intro v g1 g2
    left; simp [execOp, ho, g1, g2]
  unfold bin at h
  split at h
  · split at h
    · rename_i k i k' j hk
      simp only [VR] at h1 h2
      rw [h1, h2] at fin
      obtain ⟨v, hv, hr⟩ := binInt_ok (P := P) (ρ := ρ) (w := w) hk h t
      refine ⟨v, fin v ?_ hv, hr⟩
      unfold eqGuard; split <;> simp
    · cases h
  · simp only [VR] at h1 h2
    obtain ⟨s, e1, hs⟩ := h1
    obtain ⟨r, e2, hr⟩ := h2
    rw [e1, e2] at fin
    obtain ⟨v, hv, hvr⟩ := binStr_ok (P := P) (ρ := ρ) (w := w) h t hs hr
    refine ⟨v, fin v ?_ hv, hvr⟩
    unfold eqGuard; split <;> simp
  · split at h
    · simp only [Option.map_eq_some_iff] at h
      obtain ⟨r, hr, rfl⟩ := h
      obtain ⟨g1, g2⟩ := eqT_ok (P := P) (w := w) hr h1 h2 .eql (.inl rfl) x y
      exact ⟨_, fin _ g1 g2, by simp [VR]⟩
    · simp only [Option.map_eq_some_iff] at h
      obtain ⟨r, hr, rfl⟩ := h
      obtain ⟨g1, g2⟩ := eqT_ok (P := P) (w := w) hr h1 h2 .neq (.inr rfl) x y
      exact ⟨_, fin _ g1 g2, by simp [VR]⟩
    · cases h

end Pe

namespace Pe
open Go
variable {P : Program} {ρ : Rho} {fr : Fr} {a : Act} {w : World}

theorem add_none (b o n : Nat) : (⟨b, o, none⟩ : Addr).add n = ⟨b, o + n, none⟩ := by
  unfold Addr.add; split
  · rename_i h; subst h; rfl
  · rfl

theorem info_of_cells {t : TypeId} (h : P.cellsOf t ≠ 0) : ∃ i, P.info? t = some i := by
  cases hi : P.info? t with
  | none => exact absurd (by simp [Program.cellsOf, hi]) h
  | some i => exact ⟨i, rfl⟩

theorem run_size {t : TypeId} (h : P.cellsOf t ≠ 0) : (Go.sizeOf t).run P w = .ok (P.cellsOf t) w := by
  obtain ⟨i, hi⟩ := info_of_cells h
  exact run_sizeOf w hi

theorem run_isAgg {t : TypeId} {d : TypeDesc} (h : P.underlying t = some d) : (isAgg t).run P w = .ok (isAggT P t) w := by
  unfold isAggT
  rw [h]
  simp only [isAgg, Sem.run_bind, run_under h, Result.andThen_ok]
  split <;> first | rfl | (rename_i h1 h2; cases d <;> first | rfl | (exfalso; exact h1 _ rfl) | (exfalso; exact h2 _ _ rfl))


theorem not_ok {o : Oper} {x : Operand} {t : TypeId} (ho : o.op = .unOp .not t x) {b : Bool} (hx : fr.eval x = some (.bool b)) (H : EvalRel ρ fr a o.op.operands.toList) : ∃ v, Gives P a o w v w ∧ VR ρ (.bool !b) v := by
  have h1 := H x (by simp [ho, Op.operands]) _ hx
  simp only [VR] at h1
  exact ⟨_, .inl (by simp [execOp, ho, h1, Op.unary]; rfl), by simp [VR]⟩

theorem neg_ok {o : Oper} {x : Operand} {t : TypeId} (ho : o.op = .unOp .neg t x) {k : IntKind} {n : Int} (hx : fr.eval x = some (.int k n)) (H : EvalRel ρ fr a o.op.operands.toList) : ∃ v, Gives P a o w v w ∧ VR ρ (.int k (k.wrap (0 - n))) v := by
  have h1 := H x (by simp [ho, Op.operands]) _ hx
  simp only [VR] at h1
  exact ⟨.int k (k.wrap (0 - n)), .inl (by simp [execOp, ho, h1, Op.unary, Op.intArith]), by simp [VR]⟩

theorem nilCheck_ok {o : Oper} {x : Operand} (ho : o.op = .nilCheck x) {u : AV} (hx : fr.eval x = some u) (hu : (∃ i j, u = .ptr i j) ∨ ∃ f b c, u = .func f b c) (H : EvalRel ρ fr a o.op.operands.toList) : ∃ v, Gives P a o w v w ∧ VR ρ u v := by
  have h1 := H x (by simp [ho, Op.operands]) _ hx
  refine ⟨a.eval x, .inl ?_, h1⟩
  rcases hu with ⟨i, j, rfl⟩ | ⟨f, b, c, rfl⟩
  · simp only [VR] at h1; obtain ⟨l, _, e⟩ := h1
    simp [execOp, ho, e]
  · simp only [VR] at h1; obtain ⟨l, _, e, _⟩ := h1
    simp [execOp, ho, e]

theorem makeInterface_ok {o : Oper} {x : Operand} {t : TypeId} (ho : o.op = .makeInterface t x) {d : TypeDesc} (hT : P.underlying t = some d) (hd : ∀ ms, d ≠ .interface ms) {u : AV} (hx : fr.eval x = some u) (H : EvalRel ρ fr a o.op.operands.toList) :
    ∃ v, Gives P a o w v w ∧ VR ρ (.iface t u) v := by
  have h1 := H x (by simp [ho, Op.operands]) _ hx
  refine ⟨.iface t (a.eval x), .inl ?_, by simp only [VR]; exact ⟨_, rfl, h1⟩⟩
  simp only [execOp, ho, Instr.makeInterface, Sem.run_bind, run_under hT, Result.andThen_ok]
  cases d <;> first | rfl | (exfalso; exact hd _ rfl)

theorem evals_VR : ∀ {xs : List Operand} {us : List AV}, fr.evals xs = some us → (∀ x ∈ xs, ∀ u, fr.eval x = some u → VR ρ u (a.eval x)) → VRs ρ us (xs.map a.eval)
  | [], us, h, _ => by simp [Fr.evals] at h; subst h; simp [VRs]
  | x :: xs, us, h, H => by
    simp only [Fr.evals] at h
    split at h
    · rename_i v vs hv hvs
      cases h
      exact VRs_cons.2 ⟨_, _, rfl, H x (by simp) _ hv, evals_VR hvs (fun y hy => H y (by simp [hy]))⟩
    · cases h

theorem makeFunc_ok {o : Oper} {f : FuncId} {x y : Array Operand} (ho : o.op = .makeFunc (.func f) x y) {us vs : List AV} (hx : fr.evals x.toList = some us) (hy : fr.evals y.toList = some vs) (H : EvalRel ρ fr a o.op.operands.toList) :
    ∃ v, Gives P a o w v w ∧ VR ρ (.func f us vs) v := by
  have h1 := evals_VR (ρ := ρ) (a := a) hx (fun z hz => H z (by simp [ho, Op.operands] at hz ⊢; exact .inl hz))
  have h2 := evals_VR (ρ := ρ) (a := a) hy (fun z hz => H z (by simp [ho, Op.operands] at hz ⊢; exact .inr hz))
  refine ⟨.func (.func f) (x.map a.eval) (y.map a.eval), .inl (by simp [execOp, ho, Instr.makeFunc]), ?_⟩
  simp only [VR]
  exact ⟨_, _, rfl, by simpa using h1, by simpa using h2⟩

theorem fieldAddr_ok {o : Oper} {x : Operand} {s : TypeId} {i : Nat} (ho : o.op = .fieldAddr s x i) {fs : Array Field} {f : Field} (hT : P.underlying s = some (.struct fs)) (hf : fs[i]? = some f) (hz : P.cellsOf f.type ≠ 0)
    {id off : Nat} (hx : fr.eval x = some (.ptr id off)) (H : EvalRel ρ fr a o.op.operands.toList) : ∃ v, Gives P a o w v w ∧ VR ρ (.ptr id (off + f.offset)) v := by
  have h1 := H x (by simp [ho, Op.operands]) _ hx
  simp only [VR] at h1
  obtain ⟨l, hl, e⟩ := h1
  refine ⟨.pointer (some ⟨l.b, l.base + off + f.offset, none⟩), .inl ?_, by simp only [VR]; exact ⟨l, hl, by rw [Nat.add_assoc]⟩⟩
  simp [execOp, ho, e, Instr.fieldAt, run_under hT, hf, Instr.sureAddr, fieldPlace, run_size hz, hz, add_none]

theorem indexAddr_arr_ok {o : Oper} {x y : Operand} {t e : TypeId} {n : Nat} (ho : o.op = .indexAddr t x y) (hT : P.underlying t = some (.array n e)) (hz : P.cellsOf e ≠ 0)
    {id off : Nat} {k : IntKind} {i : Int} (hx : fr.eval x = some (.ptr id off)) (hy : fr.eval y = some (.int k i)) (h0 : 0 ≤ i) (h2 : i < n) (H : EvalRel ρ fr a o.op.operands.toList) :
    ∃ v, Gives P a o w v w ∧ VR ρ (.ptr id (off + i.toNat * P.cellsOf e)) v := by
  have h1 := H x (by simp [ho, Op.operands]) _ hx
  have h3 := H y (by simp [ho, Op.operands]) _ hy
  simp only [VR] at h1 h3
  obtain ⟨l, hl, e1⟩ := h1
  refine ⟨.pointer (some ⟨l.b, l.base + off + i.toNat * P.cellsOf e, none⟩), .inl ?_, by simp only [VR]; exact ⟨l, hl, by rw [Nat.add_assoc]⟩⟩
  simp [execOp, ho, e1, h3, Instr.indexAt, asIntOf, run_under hT, Instr.sureAddr, h0, h2, run_size hz, add_none]

theorem indexAddr_sl_ok {o : Oper} {x y : Operand} {t e : TypeId} (ho : o.op = .indexAddr t x y) (hT : P.underlying t = some (.slice e)) (hz : P.cellsOf e ≠ 0)
    {id off len : Nat} {cap : Cap} {k : IntKind} {i : Int} (hx : fr.eval x = some (.sl id off len cap)) (hy : fr.eval y = some (.int k i)) (h0 : 0 ≤ i) (h2 : i < len) (H : EvalRel ρ fr a o.op.operands.toList) :
    ∃ v, Gives P a o w v w ∧ VR ρ (.ptr id (off + i.toNat * P.cellsOf e)) v := by
  have h1 := H x (by simp [ho, Op.operands]) _ hx
  have h3 := H y (by simp [ho, Op.operands]) _ hy
  simp only [VR] at h1 h3
  obtain ⟨l, c, o', hl, e1, hc⟩ := h1
  have ho' : o' = off := by
    cases cap <;> simp only at hc
    · rcases hc.2.2 with h | h
      · exact h
      · omega
    · rcases hc with hc | hc
      · exact hc.1
      · omega
  subst ho'
  refine ⟨.pointer (some ⟨l.b, l.base + o' + i.toNat * P.cellsOf e, none⟩), .inl ?_, by simp only [VR]; exact ⟨l, hl, by rw [Nat.add_assoc]⟩⟩
  simp [execOp, ho, e1, h3, Instr.indexAt, asIntOf, run_under hT, h0, h2, run_size hz, add_none]

end Pe

namespace Pe
open Go
variable {P : Program} {ρ : Rho} {fr : Fr} {a : Act} {w : World}

/-- An optional operand's value. -/
def OptRel (ρ : Rho) : Option AV → Option Value → Prop
  | none, v => v = none
  | some x, v => ∃ y, v = some y ∧ VR ρ x y

theorem evalO_rel {x : Option Operand} {u : Option AV} (h : fr.evalO x = some u) (H : ∀ y ∈ x.toList, ∀ u, fr.eval y = some u → VR ρ u (a.eval y)) : OptRel ρ u (x.map a.eval) := by
  cases x with
  | none => simp [Fr.evalO] at h; subst h; simp [OptRel]
  | some y =>
    simp only [Fr.evalO, Option.map_eq_some_iff] at h
    obtain ⟨v, hv, rfl⟩ := h
    exact ⟨_, rfl, H y (by simp) v hv⟩

theorem run_sliceBound {x : AV} {v : Value} {i : Int} {y : Nat} {c : BoundsCode} (hx : asI x = some i) (hv : VR ρ x v) (h0 : 0 ≤ i) (h1 : i ≤ y) : (Instr.sliceBound v y c).run P w = .ok i.toNat w := by
  cases x <;> simp only [asI, reduceCtorEq, Option.some.injEq] at hx
  subst hx
  simp only [VR] at hv; subst hv
  simp [Instr.sliceBound, asIntOf, h0, h1]

theorem bounds_ok (isS : Bool) {len C : Nat} {cap : Option Nat} {lo hi mx : Option AV} {l h : Nat} {m : Option Nat} {vlo vhi vmx : Option Value}
    (hb : boundsA len cap lo hi mx = some (l, h, m)) (hcap : ∀ c, cap = some c → C = c) (hle : len ≤ C) (h1 : OptRel ρ lo vlo) (h2 : OptRel ρ hi vhi) (h3 : OptRel ρ mx vmx) :
    ∃ M, (Instr.sliceBounds isS len C vlo vhi vmx).run P w = .ok (l, h, M) w ∧ (∀ m', m = some m' → M = m') ∧ (m = none → cap = none ∧ M = C ∧ h ≤ len) ∧ l ≤ h ∧ h ≤ M ∧ M ≤ C := by
  unfold boundsA at hb
  cases mx with
  | none =>
    simp only [OptRel] at h3; subst h3
    simp only at hb
    have hM : ∀ hh : Nat, (Instr.sliceBounds isS len C vlo vhi none) = (do
        let h ← (match vhi with | some v => Instr.sliceBound v C (if isS then .sliceAcap else .sliceAlen) | none => pure len)
        let l ← (match vlo with | some v => Instr.sliceBound v h .sliceB | none => pure 0)
        pure (l, h, C)) := by
      intro _
      unfold Instr.sliceBounds
      cases vhi <;> cases vlo <;> simp
    rw [hM 0]
    cases hi with
    | none =>
      simp only [OptRel] at h2; subst h2
      simp only [Option.isSome_none, Bool.false_eq_true, if_false] at hb
      cases lo with
      | none =>
        simp only [OptRel] at h1; subst h1
        simp only [Option.some.injEq, Prod.mk.injEq] at hb
        obtain ⟨rfl, rfl, rfl⟩ := hb
        exact ⟨C, by simp, fun m' hm => hcap m' hm, fun hm => ⟨hm, rfl, Nat.le_refl _⟩, Nat.zero_le _, hle, Nat.le_refl _⟩
      | some x =>
        obtain ⟨v, rfl, hv⟩ := h1
        simp only at hb
        split at hb
        · rename_i i hi'
          split at hb
          · rename_i hc
            simp only [Option.some.injEq, Prod.mk.injEq] at hb
            obtain ⟨rfl, rfl, rfl⟩ := hb
            refine ⟨C, ?_, fun m' hm => hcap m' hm, fun hm => ⟨hm, rfl, Nat.le_refl _⟩, by omega, hle, Nat.le_refl _⟩
            simp [run_sliceBound (P := P) (w := w) (c := .sliceB) hi' hv hc.1 hc.2]
          · cases hb
        · cases hb
    | some y =>
      obtain ⟨u, rfl, hu⟩ := h2
      simp only at hb
      cases hy : asI y with
      | none => simp [hy] at hb
      | some j =>
      simp only [hy] at hb
      by_cases hj : 0 ≤ j ∧ j ≤ (limA len cap : Int)
      · rw [if_pos hj] at hb
        have hjC : j ≤ (C : Int) := by
          cases cap with
          | none => have h2 := hj.2; simp only [limA] at h2; omega
          | some c => have := hcap c rfl; have h2 := hj.2; simp only [limA] at h2; omega
        have hjl : cap = none → j ≤ (len : Int) := by rintro rfl; exact hj.2
        simp only at hb
        cases lo with
        | none =>
          simp only [OptRel] at h1; subst h1
          simp only [Option.some.injEq, Prod.mk.injEq] at hb
          obtain ⟨rfl, rfl, rfl⟩ := hb
          refine ⟨C, ?_, fun m' hm => hcap m' hm, fun hm => ⟨hm, rfl, by have := hjl hm; omega⟩, Nat.zero_le _, by omega, Nat.le_refl _⟩
          simp [run_sliceBound (P := P) (w := w) (c := if isS then .sliceAcap else .sliceAlen) hy hu hj.1 hjC]
        | some x =>
          obtain ⟨v, rfl, hv⟩ := h1
          simp only at hb
          split at hb
          · rename_i i hi'
            split at hb
            · rename_i hc
              simp only [Option.some.injEq, Prod.mk.injEq] at hb
              obtain ⟨rfl, rfl, rfl⟩ := hb
              refine ⟨C, ?_, fun m' hm => hcap m' hm, fun hm => ⟨hm, rfl, by have := hjl hm; omega⟩, by omega, by omega, Nat.le_refl _⟩
              simp [run_sliceBound (P := P) (w := w) (c := if isS then .sliceAcap else .sliceAlen) hy hu hj.1 hjC, run_sliceBound (P := P) (w := w) (c := .sliceB) hi' hv hc.1 hc.2]
            · cases hb
          · cases hb
      · rw [if_neg hj] at hb; cases hb
  | some z =>
    obtain ⟨t, rfl, ht⟩ := h3
    simp only at hb
    cases hz : asI z with
    | none => simp [hz] at hb
    | some q =>
    simp only [hz] at hb
    by_cases hq : 0 ≤ q ∧ q ≤ (limA len cap : Int)
    · rw [if_pos hq] at hb
      have hqC : q ≤ (C : Int) := by
        cases cap with
        | none => have h2 := hq.2; simp only [limA] at h2; omega
        | some c => have := hcap c rfl; have h2 := hq.2; simp only [limA] at h2; omega
      simp only [Option.isSome_some, if_true] at hb
      cases hi with
      | none => simp at hb
      | some y =>
        obtain ⟨u, rfl, hu⟩ := h2
        simp only at hb
        cases hy : asI y with
        | none => simp [hy] at hb
        | some j =>
        simp only [hy] at hb
        by_cases hj : 0 ≤ j ∧ j ≤ (limA len (some q.toNat) : Int)
        · rw [if_pos hj] at hb
          simp only at hb
          have hM : (Instr.sliceBounds isS len C vlo (some u) (some t)) = (do
              let m ← Instr.sliceBound t C (if isS then .slice3Acap else .slice3Alen)
              let h ← Instr.sliceBound u m .slice3B
              let l ← (match vlo with | some v => Instr.sliceBound v h .slice3C | none => pure 0)
              pure (l, h, m)) := by
            unfold Instr.sliceBounds
            cases vlo <;> simp
          rw [hM]
          cases lo with
          | none =>
            simp only [OptRel] at h1; subst h1
            simp only [Option.some.injEq, Prod.mk.injEq] at hb
            obtain ⟨rfl, rfl, rfl⟩ := hb
            refine ⟨q.toNat, ?_, fun m' hm => (by cases hm; rfl), fun hm => (by cases hm), by omega, by have := hj.2; simp only [limA] at this; omega, by omega⟩
            simp [run_sliceBound (P := P) (w := w) (c := if isS then .slice3Acap else .slice3Alen) hz ht hq.1 hqC, run_sliceBound (P := P) (w := w) (c := .slice3B) hy hu hj.1 (show j ≤ (q.toNat : Int) from hj.2)]
          | some x =>
            obtain ⟨v, rfl, hv⟩ := h1
            simp only at hb
            split at hb
            · rename_i i hi'
              split at hb
              · rename_i hc
                simp only [Option.some.injEq, Prod.mk.injEq] at hb
                obtain ⟨rfl, rfl, rfl⟩ := hb
                refine ⟨q.toNat, ?_, fun m' hm => (by cases hm; rfl), fun hm => (by cases hm), by omega, by have := hj.2; simp only [limA] at this; omega, by omega⟩
                simp [run_sliceBound (P := P) (w := w) (c := if isS then .slice3Acap else .slice3Alen) hz ht hq.1 hqC, run_sliceBound (P := P) (w := w) (c := .slice3B) hy hu hj.1 (show j ≤ (q.toNat : Int) from hj.2), run_sliceBound (P := P) (w := w) (c := .slice3C) hi' hv hc.1 hc.2]
              · cases hb
            · cases hb
        · rw [if_neg hj] at hb; cases hb
    · rw [if_neg hq] at hb; cases hb

theorem sliceStr_ok {o : Oper} {x : Operand} {lo hi : Option Operand} {t : TypeId} (ho : o.op = .slice t x lo hi none) (hT : P.underlying t = some .string) {s : List UInt8} {l2 h2 : Option AV} {l h : Nat} {m : Option Nat}
    (hx : fr.eval x = some (.str s)) (hl : fr.evalO lo = some l2) (hh : fr.evalO hi = some h2) (hb : boundsA s.length (some s.length) l2 h2 none = some (l, h, m)) (H : EvalRel ρ fr a o.op.operands.toList) :
    ∃ v, Gives P a o w v w ∧ VR ρ (.str ((s.take h).drop l)) v := by
  have h1 := H x (by simp [ho, Op.operands]) _ hx
  simp only [VR] at h1
  obtain ⟨S, e, hs⟩ := h1
  have hlen : S.size = s.length := by show S.data.size = _; rw [← hs, Array.length_toList]
  have r1 := evalO_rel (ρ := ρ) (a := a) hl (fun y hy => H y (by simp [ho, Op.operands] at hy ⊢; exact .inr (.inl hy)))
  have r2 := evalO_rel (ρ := ρ) (a := a) hh (fun y hy => H y (by simp [ho, Op.operands] at hy ⊢; exact .inr (.inr hy)))
  obtain ⟨M, hrun, _⟩ := bounds_ok (P := P) (w := w) false (C := S.size) hb (fun c hc => by cases hc; exact hlen) (by omega) r1 r2 (by simp [OptRel] : OptRel ρ none none)
  refine ⟨.string (S.extract l h), .inl ?_, ?_⟩
  · rw [hlen] at hrun
    simp [execOp, ho, e, Instr.sliceAt, Instr.slice, run_under hT, hlen, hrun]
  · simp only [VR]
    exact ⟨_, rfl, by rw [ByteArray.data_extract, Array.toList_extract, hs, List.extract_eq_take_drop, List.drop_take]⟩

theorem sliceSl_ok {o : Oper} {x : Operand} {lo hi mx : Option Operand} {t e : TypeId} (ho : o.op = .slice t x lo hi mx) (hT : P.underlying t = some (.slice e)) (hz : P.cellsOf e ≠ 0) {id off len : Nat} {cap : Cap} (hc : capFits (P.cellsOf e) cap = true)
    {l2 h2 m2 : Option AV} {b : Nat × Nat × Option Nat}
    (hx : fr.eval x = some (.sl id off len cap)) (hl : fr.evalO lo = some l2) (hh : fr.evalO hi = some h2) (hm : fr.evalO mx = some m2) (hb : boundsA len cap.known l2 h2 m2 = some b) (H : EvalRel ρ fr a o.op.operands.toList) :
    ∃ v, Gives P a o w v w ∧ VR ρ (sliceA (P.cellsOf e) id off b) v := by
  obtain ⟨l, h, m⟩ := b
  have h1 := H x (by simp [ho, Op.operands]) _ hx
  simp only [VR] at h1
  obtain ⟨L, C, o', hL, e1, hcap⟩ := h1
  have r1 := evalO_rel (ρ := ρ) (a := a) hl (fun y hy => H y (by simp [ho, Op.operands] at hy ⊢; exact .inr (.inl hy)))
  have r2 := evalO_rel (ρ := ρ) (a := a) hh (fun y hy => H y (by simp [ho, Op.operands] at hy ⊢; exact .inr (.inr (.inl hy))))
  have r3 := evalO_rel (ρ := ρ) (a := a) hm (fun y hy => H y (by simp [ho, Op.operands] at hy ⊢; exact .inr (.inr (.inr hy))))
  obtain ⟨M, hrun, g1, g2, g3, g4, g5⟩ := bounds_ok (P := P) (w := w) true (C := C) hb
    (fun c hk => by cases cap <;> simp only [Cap.known, Option.some.injEq, reduceCtorEq] at hk hcap; subst hk; exact hcap.1)
    (by cases cap <;> simp only at hcap; (exact hcap.2.1); (rcases hcap with hcap | hcap <;> omega)) r1 r2 r3
  have hrun2 : Gives P a o w (.slice (if M = l then some ⟨L.b, L.base + o', none⟩ else some ⟨L.b, L.base + o' + l * P.cellsOf e, none⟩) (h - l) (M - l)) w := by
    left
    simp only [execOp, ho, e1, Instr.sliceAt, Instr.slice, Sem.run_bind, run_under hT, Result.andThen_ok, hrun, run_size hz, Sem.run_pure, Option.map_some, add_none]
  refine ⟨_, hrun2, ?_⟩
  cases m with
  | some m' =>
    have hM := g1 m' rfl
    subst hM
    simp only [sliceA]
    cases cap with
    | is c =>
      simp only at hcap
      obtain ⟨rfl, _, hoff⟩ := hcap
      simp only [VR]
      by_cases hml : M = l
      · subst hml
        rw [if_pos rfl, if_pos rfl]
        exact ⟨L, M - M, o', hL, rfl, rfl, by omega, .inr (by omega)⟩
      · rw [if_neg hml, if_neg hml]
        rcases hoff with rfl | h0
        · exact ⟨L, M - l, o' + l * P.cellsOf e, hL, by rw [Nat.add_assoc], rfl, by omega, .inl rfl⟩
        · have := g5; omega
    | up es =>
      simp only at hcap
      simp only [VR]
      rcases hcap with ⟨rfl, _, _⟩ | ⟨rfl, rfl⟩
      · by_cases hml : M = l
        · subst hml
          rw [if_pos rfl, if_pos rfl]
          exact ⟨L, M - M, o', hL, rfl, rfl, by omega, .inl rfl⟩
        · rw [if_neg hml, if_neg hml]
          exact ⟨L, M - l, o' + l * P.cellsOf e, hL, by rw [Nat.add_assoc], rfl, by omega, .inl rfl⟩
      · have h0 : M = 0 := by omega
        subst h0
        have hl0 : l = 0 := by omega
        subst hl0
        rw [if_pos rfl, if_pos rfl]
        exact ⟨L, 0 - 0, o', hL, rfl, rfl, by omega, .inr rfl⟩
  | none =>
    obtain ⟨k1, rfl, k4⟩ := g2 rfl
    simp only [sliceA]
    cases cap with
    | is c => simp [Cap.known] at k1
    | up es =>
      simp only [capFits, Nat.beq_eq] at hc
      subst hc
      simp only at hcap
      simp only [VR]
      rcases hcap with ⟨rfl, hl1, hl2⟩ | ⟨rfl, rfl⟩
      · by_cases hml : M = l
        · subst hml
          rw [if_pos rfl]
          exact ⟨L, M - M, o', hL, rfl, .inr ⟨by omega, by omega⟩⟩
        · rw [if_neg hml]
          refine ⟨L, M - l, o' + l * P.cellsOf e, hL, by rw [Nat.add_assoc], .inl ⟨rfl, by omega, ?_⟩⟩
          have : l * P.cellsOf e + (M - l) * P.cellsOf e = M * P.cellsOf e := by rw [← Nat.add_mul]; congr 1; omega
          omega
      · have : l = 0 := by omega
        subst this
        rw [if_pos rfl]
        exact ⟨L, 0 - 0, o', hL, rfl, .inr ⟨by omega, by omega⟩⟩

end Pe

namespace Pe
open Go
variable {P : Program} {ρ : Rho} {fr : Fr} {a : Act} {w : World}

theorem sliceNil_ok {o : Oper} {x : Operand} {lo hi mx : Option Operand} {t e : TypeId} (ho : o.op = .slice t x lo hi mx) (hT : P.underlying t = some (.slice e)) (hz : P.cellsOf e ≠ 0)
    {l2 h2 m2 : Option AV} {b : Nat × Nat × Option Nat}
    (hx : fr.eval x = some .nilsl) (hl : fr.evalO lo = some l2) (hh : fr.evalO hi = some h2) (hm : fr.evalO mx = some m2) (hb : boundsA 0 (some 0) l2 h2 m2 = some b) (H : EvalRel ρ fr a o.op.operands.toList) :
    ∃ v, Gives P a o w v w ∧ VR ρ .nilsl v := by
  obtain ⟨l, h, m⟩ := b
  have h1 := H x (by simp [ho, Op.operands]) _ hx
  simp only [VR] at h1
  have r1 := evalO_rel (ρ := ρ) (a := a) hl (fun y hy => H y (by simp [ho, Op.operands] at hy ⊢; exact .inr (.inl hy)))
  have r2 := evalO_rel (ρ := ρ) (a := a) hh (fun y hy => H y (by simp [ho, Op.operands] at hy ⊢; exact .inr (.inr (.inl hy))))
  have r3 := evalO_rel (ρ := ρ) (a := a) hm (fun y hy => H y (by simp [ho, Op.operands] at hy ⊢; exact .inr (.inr (.inr hy))))
  obtain ⟨M, hrun, g1, g2, g3, g4, g5⟩ := bounds_ok (P := P) (w := w) true (C := 0) hb (fun c hk => by cases hk; rfl) (Nat.le_refl _) r1 r2 r3
  refine ⟨.slice none 0 0, .inl ?_, by simp [VR]⟩
  have e0 : h - l = 0 := by omega
  have e1 : M - l = 0 := by omega
  simp [execOp, ho, h1, Instr.sliceAt, Instr.slice, run_under hT, hrun, run_size hz, e0, e1]

theorem sliceArr_ok {o : Oper} {x : Operand} {lo hi mx : Option Operand} {t e : TypeId} {n : Nat} (ho : o.op = .slice t x lo hi mx) (hT : P.underlying t = some (.array n e)) (hz : P.cellsOf e ≠ 0) {id off : Nat}
    {l2 h2 m2 : Option AV} {b : Nat × Nat × Option Nat}
    (hx : fr.eval x = some (.ptr id off)) (hl : fr.evalO lo = some l2) (hh : fr.evalO hi = some h2) (hm : fr.evalO mx = some m2) (hb : boundsA n (some n) l2 h2 m2 = some b) (H : EvalRel ρ fr a o.op.operands.toList) :
    ∃ v, Gives P a o w v w ∧ VR ρ (sliceA (P.cellsOf e) id off b) v := by
  obtain ⟨l, h, m⟩ := b
  have h1 := H x (by simp [ho, Op.operands]) _ hx
  simp only [VR] at h1
  obtain ⟨L, hL, e1⟩ := h1
  have r1 := evalO_rel (ρ := ρ) (a := a) hl (fun y hy => H y (by simp [ho, Op.operands] at hy ⊢; exact .inr (.inl hy)))
  have r2 := evalO_rel (ρ := ρ) (a := a) hh (fun y hy => H y (by simp [ho, Op.operands] at hy ⊢; exact .inr (.inr (.inl hy))))
  have r3 := evalO_rel (ρ := ρ) (a := a) hm (fun y hy => H y (by simp [ho, Op.operands] at hy ⊢; exact .inr (.inr (.inr hy))))
  obtain ⟨M, hrun, g1, g2, g3, g4, g5⟩ := bounds_ok (P := P) (w := w) false (C := n) hb (fun c hk => by cases hk; rfl) (Nat.le_refl _) r1 r2 r3
  refine ⟨.slice (some (if M = l then ⟨L.b, L.base + off, none⟩ else ⟨L.b, L.base + off + l * P.cellsOf e, none⟩)) (h - l) (M - l), .inl ?_, ?_⟩
  · simp only [execOp, ho, e1, Instr.sliceAt, Sem.run_bind, run_under hT, Result.andThen_ok, Instr.sureAddr, Sem.run_pure, hrun, run_size hz, add_none]
  · have hm' : m = some M := by
      cases m with
      | none => obtain ⟨k1, _⟩ := g2 rfl; cases k1
      | some m' => rw [g1 m' rfl]
    subst hm'
    simp only [sliceA, VR]
    by_cases hml : M = l
    · subst hml
      rw [if_pos rfl, if_pos rfl]
      exact ⟨L, M - M, off, hL, rfl, rfl, by omega, .inl rfl⟩
    · rw [if_neg hml, if_neg hml]
      exact ⟨L, M - l, off + l * P.cellsOf e, hL, by rw [Nat.add_assoc], rfl, by omega, .inl rfl⟩

/-- A part of a struct or an array. -/
theorem part_ok {t : TypeId} {cs : List AV} {off : Nat} {u : AV} (h : partA P t cs off = some u) {X : Array Value} (hX : VRs ρ cs X.toList) : ∃ v, (part t X off).run P w = .ok v w ∧ VR ρ u v := by
  unfold partA at h
  split at h
  · cases h
  rename_i d hd
  split at h
  · cases h
  rename_i hz
  simp only [part, Sem.run_bind, run_isAgg hd, Result.andThen_ok]
  cases ha : isAggT P t
  · rw [ha] at h
    simp only [Bool.false_eq_true, if_false] at h ⊢
    obtain ⟨v, hv, hr⟩ := hX.get h
    have : X[off]? = some v := by simpa using hv
    exact ⟨v, by simp [this], hr⟩
  · rw [ha] at h
    simp only [if_true] at h ⊢
    split at h
    · cases h
      refine ⟨.agg (X.extract off (off + P.cellsOf t)), by simp [run_size hz], ?_⟩
      simp only [VR]
      refine ⟨_, rfl, ?_⟩
      rw [Array.toList_extract, List.extract_eq_take_drop, Nat.add_sub_cancel_left]
      exact (hX.drop off).take _
    · cases h

theorem field_ok {o : Oper} {x : Operand} {s : TypeId} {i : Nat} (ho : o.op = .field s x i) {fs : Array Field} {f : Field} (hT : P.underlying s = some (.struct fs)) (hf : fs[i]? = some f)
    {cs : List AV} {u : AV} (hx : fr.eval x = some (.agg cs)) (hu : partA P f.type cs f.offset = some u) (H : EvalRel ρ fr a o.op.operands.toList) : ∃ v, Gives P a o w v w ∧ VR ρ u v := by
  have h1 := H x (by simp [ho, Op.operands]) _ hx
  simp only [VR] at h1
  obtain ⟨X, e, hX⟩ := h1
  obtain ⟨v, hv, hr⟩ := part_ok (P := P) (w := w) hu hX
  exact ⟨v, .inl (by simp [execOp, ho, e, Instr.field, run_under hT, hf, asAgg, hv]), hr⟩

theorem indexArr_ok {o : Oper} {x y : Operand} {t e : TypeId} {n : Nat} (ho : o.op = .index t x y) (hT : P.underlying t = some (.array n e)) (hz : P.cellsOf e ≠ 0)
    {cs : List AV} {k : IntKind} {i : Int} {u : AV} (hx : fr.eval x = some (.agg cs)) (hy : fr.eval y = some (.int k i)) (h0 : 0 ≤ i) (h2 : i < n) (hu : partA P e cs (i.toNat * P.cellsOf e) = some u) (H : EvalRel ρ fr a o.op.operands.toList) :
    ∃ v, Gives P a o w v w ∧ VR ρ u v := by
  have h1 := H x (by simp [ho, Op.operands]) _ hx
  have h3 := H y (by simp [ho, Op.operands]) _ hy
  simp only [VR] at h1 h3
  obtain ⟨X, e1, hX⟩ := h1
  obtain ⟨v, hv, hr⟩ := part_ok (P := P) (w := w) hu hX
  exact ⟨v, .inl (by simp [execOp, ho, e1, h3, Instr.index, asIntOf, run_under hT, h0, h2, run_size hz, hv]), hr⟩

theorem indexStr_ok {o : Oper} {x y : Operand} {t : TypeId} (ho : o.op = .index t x y) (hT : P.underlying t = some .string)
    {s : List UInt8} {k : IntKind} {i : Int} {b : UInt8} (hx : fr.eval x = some (.str s)) (hy : fr.eval y = some (.int k i)) (h0 : 0 ≤ i) (hb : s[i.toNat]? = some b) (H : EvalRel ρ fr a o.op.operands.toList) :
    ∃ v, Gives P a o w v w ∧ VR ρ (.int .u8 b.toNat) v := by
  have h1 := H x (by simp [ho, Op.operands]) _ hx
  have h3 := H y (by simp [ho, Op.operands]) _ hy
  simp only [VR] at h1 h3
  obtain ⟨S, e1, hs⟩ := h1
  have hlt : i.toNat < S.size := by
    show _ < S.data.size
    have := (List.getElem?_eq_some_iff.1 hb).1
    rw [← hs, Array.length_toList] at this; exact this
  have hS : S[i.toNat]? = some b := by
    rw [ByteArray.getElem?_lt' S _ hlt]
    congr 1
    have h5 : S.data[i.toNat]? = some b := by rw [← hs] at hb; simpa using hb
    have := (Array.getElem?_eq_some_iff.1 h5).2
    exact this
  exact ⟨_, .inl (by simp [execOp, ho, e1, h3, Instr.index, asIntOf, run_under hT, h0, hS]; rfl), by simp [VR]⟩

theorem zero_run {t : TypeId} {z : AV} (h : zeroA P t = some z) : ∃ v, (zeroValue t).run P w = .ok v w ∧ ∀ ρ, VR ρ z v := by
  unfold zeroA at h
  simp only [Option.bind_eq_some_iff] at h
  obtain ⟨i, hi, v, hv, he⟩ := h
  exact ⟨v, by simp [zeroValue, run_typeInfo w hi, hv], fun ρ => emb_VR he ρ⟩

theorem convInt_ok {o : Oper} {x : Operand} {s d : TypeId} {k k' k0 : IntKind} {n : Int} (ho : o.op = .convert s d x) (hS : P.underlying s = some (.int k0)) (hD : P.underlying d = some (.int k)) (hx : fr.eval x = some (.int k' n)) (H : EvalRel ρ fr a o.op.operands.toList) :
    ∃ v, Gives P a o w v w ∧ VR ρ (.int k (k.wrap n)) v := by
  have h1 := H x (by simp [ho, Op.operands]) _ hx
  simp only [VR] at h1
  exact ⟨.int k (k.wrap n), .inl (by simp [execOp, ho, h1, convert, run_under hS, run_under hD, Conv.intToInt]), by simp [VR]⟩

theorem convStr_ok {o : Oper} {x : Operand} {s d : TypeId} {b : List UInt8} (ho : o.op = .convert s d x) (hS : P.underlying s = some .string) (hD : P.underlying d = some .string) (hx : fr.eval x = some (.str b)) (H : EvalRel ρ fr a o.op.operands.toList) :
    ∃ v, Gives P a o w v w ∧ VR ρ (.str b) v := by
  have h1 := H x (by simp [ho, Op.operands]) _ hx
  have h1' := h1
  simp only [VR] at h1
  obtain ⟨S, e, hs⟩ := h1
  exact ⟨a.eval x, .inl (by simp [execOp, ho, e, convert, run_under hS, run_under hD]), h1'⟩

theorem typeAssert_ok {o : Oper} {x : Operand} {xt t t0 : TypeId} {ok : Bool} (ho : o.op = .typeAssert x xt t ok) {d : TypeDesc} (hd : P.underlying t = some d) (hn : ∀ ms, d ≠ .interface ms) {y u : AV} (hx : fr.eval x = some (.iface t0 y))
    (hu : (t0 = t ∧ u = if ok then .tup [y, .bool true] else y) ∨ (t0 ≠ t ∧ ok = true ∧ ∃ z, zeroA P t = some z ∧ u = .tup [z, .bool false])) (H : EvalRel ρ fr a o.op.operands.toList) : ∃ v, Gives P a o w v w ∧ VR ρ u v := by
  have h1 := H x (by simp [ho, Op.operands]) _ hx
  simp only [VR] at h1
  obtain ⟨v, e, hv⟩ := h1
  have hrun : (Instr.typeAssert (.iface t0 v) xt t ok).run P w = (if t0 = t then .ok (if ok then .tuple #[v, .bool true] else v) w else (if ok then (do pure (.tuple #[← zeroValue t, .bool false]) : Sem Value) else runtimePanic (.typeAssertion (some xt) (some t0) t "")).run P w) := by
    simp only [Instr.typeAssert, Sem.run_bind, run_under hd, Result.andThen_ok]
    cases d <;> first | (exfalso; exact hn _ rfl) | (simp only [Sem.run_ite]; rfl)
  rcases hu with ⟨rfl, rfl⟩ | ⟨hne, rfl, z, hz, rfl⟩
  · refine ⟨if ok then .tuple #[v, .bool true] else v, .inl ?_, ?_⟩
    · simp [execOp, ho, e, hrun]
    · cases ok
      · exact hv
      · simp only [if_true, VR]
        exact ⟨_, rfl, VRs_cons.2 ⟨_, _, rfl, hv, VRs_cons.2 ⟨_, _, rfl, by simp [VR], by simp [VRs]⟩⟩⟩
  · obtain ⟨zv, hzr, hzv⟩ := zero_run (P := P) (w := w) hz
    refine ⟨.tuple #[zv, .bool false], .inl ?_, ?_⟩
    · simp [execOp, ho, e, hrun, hne, hzr]
    · simp only [VR]
      exact ⟨_, rfl, VRs_cons.2 ⟨_, _, rfl, hzv ρ, VRs_cons.2 ⟨_, _, rfl, by simp [VR], by simp [VRs]⟩⟩⟩

end Pe

namespace Pe
open Go
variable {P : Program} {ρ : Rho} {fr : Fr} {a : Act} {w : World}

/-- A call of a builtin that gives a value. -/
theorem builtin_gives {o : Oper} {b : Builtin} {args : Array Operand} {ts : Array TypeId} (ho : o.op = .call { callee := .builtin b, args := args, argTypes := ts }) {v : Value} {w' : World}
    (h : (builtin b ts o.type (args.map fun | .const _ => true | _ => false) (args.map a.eval)).run P w = .ok (.value v) w') : Gives P a o w v w' := by
  left
  simp only [execOp, ho, resolve, Sem.run_bind, Sem.run_pure, Result.andThen_ok, invoke]
  exact h

theorem lenV_ok {ts : Array TypeId} {t : TypeId} {x u : AV} {v : Value}
    (h : (match P.underlying (ts.getD 0 0), x with
      | some .string, .str s => some (AV.int .i64 s.length)
      | some (.slice _), .nilsl => some (.int .i64 0)
      | some (.slice _), .sl _ _ n _ => some (.int .i64 n)
      | some (.array n _), _ => some (.int .i64 n)
      | some (.map _ _), .nilmap => some (.int .i64 0)
      | _, _ => none) = some u) (hts : ts[0]? = some t) (hv : VR ρ x v) (ty : TypeId) : ∃ r, (Builtin.len_ ts ty #[v]).run P w = .ok r w ∧ VR ρ u r := by
  have e0 : ts.getD 0 0 = t := by simp [Array.getD_eq_getD_getElem?, hts]
  rw [e0] at h
  cases hT : P.underlying t with
  | none => simp [hT] at h
  | some d =>
    rw [hT] at h
    cases d <;> first | (exfalso; simp at h; done) | skip
    case string =>
      cases x <;> simp only [reduceCtorEq, Option.some.injEq] at h
      subst h
      simp only [VR] at hv
      obtain ⟨S, rfl, hs⟩ := hv
      refine ⟨goInt S.size, by simp [Builtin.len_, hts, run_under hT], ?_⟩
      have : S.size = _ := (by show S.data.size = _; rw [← Array.length_toList, hs] : S.size = _)
      simp [VR, goInt, this]
    case slice e =>
      cases x <;> simp only [reduceCtorEq, Option.some.injEq] at h <;> subst h <;> simp only [VR] at hv
      · obtain ⟨l, c, o', _, rfl, _⟩ := hv
        exact ⟨_, by simp [Builtin.len_, hts, run_under hT]; rfl, by simp [VR, goInt]⟩
      · subst hv
        exact ⟨_, by simp [Builtin.len_, hts, run_under hT]; rfl, by simp [VR, goInt]⟩
    case array n e =>
      simp only [Option.some.injEq] at h; subst h
      refine ⟨goInt n, ?_, by simp [VR, goInt]⟩
      simp only [Builtin.len_, hts]
      simp [run_under hT]
    case map k e =>
      cases x <;> simp only [reduceCtorEq, Option.some.injEq] at h
      subst h; simp only [VR] at hv; subst hv
      exact ⟨_, by simp [Builtin.len_, hts, run_under hT]; rfl, by simp [VR, goInt]⟩

theorem foldI_min : ∀ (xs : List AV) (k : IntKind) (x : Int) (u : AV) (vs : List Value), foldI (fun a b => if b < a then b else a) k x xs = some u → VRs ρ xs vs →
    ∃ r, (vs.foldlM Builtin.min2 (.int k x)).run P w = .ok r w ∧ VR ρ u r
  | [], k, x, u, vs, h, hv => by
    simp [foldI] at h; subst h
    rw [VRs_nil.1 hv]
    exact ⟨_, rfl, by simp [VR]⟩
  | y :: ys, k, x, u, vs, h, hv => by
    obtain ⟨v, vs, rfl, h1, h2⟩ := VRs_cons.1 hv
    cases y <;> simp only [foldI, reduceCtorEq] at h
    rename_i k' b
    split at h
    · rename_i hk; subst hk
      simp only [VR] at h1; subst h1
      obtain ⟨r, hr, hvr⟩ := foldI_min ys k _ u vs h h2
      exact ⟨r, by simpa [List.foldlM_cons, Builtin.min2] using hr, hvr⟩
    · cases h

theorem foldI_max : ∀ (xs : List AV) (k : IntKind) (x : Int) (u : AV) (vs : List Value), foldI (fun a b => if b > a then b else a) k x xs = some u → VRs ρ xs vs →
    ∃ r, (vs.foldlM Builtin.max2 (.int k x)).run P w = .ok r w ∧ VR ρ u r
  | [], k, x, u, vs, h, hv => by
    simp [foldI] at h; subst h
    rw [VRs_nil.1 hv]
    exact ⟨_, rfl, by simp [VR]⟩
  | y :: ys, k, x, u, vs, h, hv => by
    obtain ⟨v, vs, rfl, h1, h2⟩ := VRs_cons.1 hv
    cases y <;> simp only [foldI, reduceCtorEq] at h
    rename_i k' b
    split at h
    · rename_i hk; subst hk
      simp only [VR] at h1; subst h1
      obtain ⟨r, hr, hvr⟩ := foldI_max ys k _ u vs h h2
      exact ⟨r, by simpa [List.foldlM_cons, Builtin.max2] using hr, hvr⟩
    · cases h

/-! ### Cells -/
theorem cellsFrom_len : ∀ {k i : Nat} {z : List AV} {t : Tr AV} {cs : List AV}, cellsFrom z t i k = some cs → cs.length = k
  | 0, _, _, _, _, h => by simp [cellsFrom] at h; subst h; rfl
  | k + 1, i, z, t, cs, h => by
    simp only [cellsFrom] at h
    split at h
    · rename_i v vs h1 h2
      cases h; simp [cellsFrom_len h2]
    · cases h

theorem cellsFrom_get : ∀ {k i : Nat} {z : List AV} {t : Tr AV} {cs : List AV}, cellsFrom z t i k = some cs → ∀ j, j < k → ∃ c, cellAt z t (i + j) = some c ∧ cs[j]? = some c
  | 0, _, _, _, _, _, j, hj => by omega
  | k + 1, i, z, t, cs, h, j, hj => by
    simp only [cellsFrom] at h
    split at h
    · rename_i v vs h1 h2
      cases h
      cases j with
      | zero => exact ⟨v, h1, rfl⟩
      | succ j =>
        obtain ⟨c, e1, e2⟩ := cellsFrom_get h2 j (by omega)
        exact ⟨c, by rw [← e1]; congr 1; omega, by simpa using e2⟩
    · cases h

theorem setFrom_get : ∀ (vs : List AV) (t : Tr AV) (i j : Nat), (setFrom t i vs).get j = if i ≤ j ∧ j < i + vs.length then vs[j - i]? else t.get j
  | [], t, i, j => by simp [setFrom]; omega
  | v :: vs, t, i, j => by
    simp only [setFrom]
    rw [setFrom_get vs (t.set v i) (i + 1) j, Tr.get_set]
    by_cases h1 : i + 1 ≤ j ∧ j < i + 1 + vs.length
    · rw [if_pos h1, if_pos (by simp; omega)]
      obtain ⟨m, hm⟩ : ∃ m, j - i = m + 1 := ⟨j - i - 1, by omega⟩
      rw [hm, List.getElem?_cons_succ]; congr 1; omega
    · rw [if_neg h1]
      by_cases h2 : j = i
      · rw [if_pos h2, if_pos (by simp; omega), h2, Nat.sub_self]; rfl
      · rw [if_neg h2, if_neg (by simp; omega)]

/-- The cells of an object, read in the world. -/
theorem cells_read {n : Nat} {z : List AV} {t : Tr AV} {e : TypeId} {fz : Nat} {wh : Bool} {l : Loc} (h : CellsAt P ρ n z t e fz wh l w) : ∀ {k i : Nat} {cs : List AV}, cellsFrom z t i k = some cs → i + k ≤ n →
    ∃ vs : List Value, VRs ρ cs vs ∧ vs.length = k ∧ ∀ j v, vs[j]? = some v → w.cell? ⟨l.b, l.base + i + j, none⟩ = some v
  | 0, i, cs, hc, _ => by simp [cellsFrom] at hc; subst hc; exact ⟨[], by simp [VRs], rfl, by simp⟩
  | k + 1, i, cs, hc, hn => by
    simp only [cellsFrom] at hc
    split at hc
    · rename_i x xs h1 h2
      cases hc
      obtain ⟨c, v, e1, e2, e3, e4⟩ := h.cell i (by omega)
      rw [h1] at e1; cases e1
      obtain ⟨vs, g1, g2, g3⟩ := cells_read h h2 (by omega)
      refine ⟨v :: vs, VRs_cons.2 ⟨_, _, rfl, e4, g1⟩, by simp [g2], fun j u hj => ?_⟩
      cases j with
      | zero => simp at hj; subst hj; exact e3
      | succ j =>
        have := g3 j u (by simpa using hj)
        rw [← this]; congr 2; omega
    · cases hc

theorem obj_cells {σ : AW} (hs : Sim P ρ σ w) {id : Nat} {l : Loc} (hl : ρ id = some l) {n : Nat} {z : List AV} {t : Tr AV} {e : TypeId} {fz : Nat} {wh : Bool} (ho : σ.heap.get id = some (.cells n z t e fz wh)) : CellsAt P ρ n z t e fz wh l w := by
  obtain ⟨_, o, h1, _, h2⟩ := hs.obj id l hl
  rw [ho] at h1; cases h1; exact h2

/-- loadC, in the world. -/
theorem loadC_ok {σ : AW} (hs : Sim P ρ σ w) {id off k : Nat} {l : Loc} (hl : ρ id = some l) {cs : List AV} (h : loadC σ id off k = some cs) :
    ∃ vs : List Value, VRs ρ cs vs ∧ vs.length = k ∧ ∀ j v, vs[j]? = some v → w.cell? ((⟨l.b, l.base + off, none⟩ : Addr).add j) = some v := by
  unfold loadC at h
  split at h
  · rename_i n z t e fz wh ho
    split at h
    · rename_i hn
      obtain ⟨vs, g1, g2, g3⟩ := cells_read (obj_cells hs hl ho) h hn
      exact ⟨vs, g1, g2, fun j v hj => by rw [add_none]; exact g3 j v hj⟩
    · cases h
  · cases h

theorem loadV_ok {σ : AW} (hs : Sim P ρ σ w) {t : TypeId} {p u : AV} {v : Value} (hp : VR ρ p v) (h : loadV P σ t p = some u) : ∃ r, (Instr.loadAt t v).run P w = .ok r w ∧ VR ρ u r := by
  cases p <;> simp only [loadV, reduceCtorEq] at h
  rename_i id off
  simp only [VR] at hp
  obtain ⟨l, hl, rfl⟩ := hp
  split at h
  · cases h
  rename_i d hd
  split at h
  · cases h
  rename_i hz
  simp only [Instr.loadAt, Instr.sureAddr, Sem.run_bind, Sem.run_pure, Result.andThen_ok, loadVar, run_isAgg hd]
  cases ha : isAggT P t
  · rw [ha] at h
    simp only [Bool.false_eq_true, if_false] at h ⊢
    split at h
    · rename_i c hc
      cases h
      obtain ⟨vs, g1, g2, g3⟩ := loadC_ok hs hl hc
      obtain ⟨v, vs', rfl, g4, g5⟩ := VRs_cons.1 g1
      have := g3 0 v rfl
      rw [add_none, Nat.add_zero] at this
      exact ⟨v, by simp [this], g4⟩
    · cases h
  · rw [ha] at h
    simp only [if_true, Option.map_eq_some_iff] at h ⊢
    obtain ⟨cs, hc, rfl⟩ := h
    obtain ⟨vs, g1, g2, g3⟩ := loadC_ok hs hl hc
    refine ⟨.agg vs.toArray, ?_, ?_⟩
    · have := run_loadCells_list (P := P) w ⟨l.b, l.base + off, none⟩ vs g3
      rw [g2] at this
      simp [run_size hz, this]
    · simp only [VR]; exact ⟨_, rfl, by simpa using g1⟩

end Pe

namespace Pe
open Go
variable {P : Program} {ρ : Rho} {fr : Fr} {a : Act} {w : World}

theorem setCells_size (b : Nat) : ∀ (vs : List Value) (o : Nat) (w : World), (w.setCells b o vs).heap.size = w.heap.size
  | [], _, _ => rfl
  | v :: r, o, w => by rw [World.setCells, setCells_size b r]; simp

theorem setCells_io (b : Nat) : ∀ (vs : List Value) (o : Nat) (w : World), SameIO w (w.setCells b o vs)
  | [], _, _ => ⟨rfl, rfl⟩
  | v :: r, o, w => by
    have h := setCells_io b r (o + 1) (w.setCell ⟨b, o, none⟩ v)
    exact ⟨h.1, h.2⟩

theorem setCell_other (w : World) (a : Addr) (v : Value) (b : Nat) (h : b ≠ a.block) : (w.setCell a v).heap[b]? = w.heap[b]? := by
  simp only [World.setCell, Array.getElem?_modify]; rw [if_neg (by omega)]

theorem setCells_other (b : Nat) : ∀ (vs : List Value) (o : Nat) (w : World) (b' : Nat), b' ≠ b → (w.setCells b o vs).heap[b']? = w.heap[b']?
  | [], _, _, _, _ => rfl
  | v :: r, o, w, b', h => by rw [World.setCells, setCells_other b r _ _ _ h]; exact setCell_other _ _ _ _ h

theorem shape?_setCell (w : World) (a : Addr) (v : Value) (b : Nat) : (w.setCell a v).shape? b = w.shape? b := by
  simp only [World.shape?, World.setCell, Array.getElem?_modify]
  by_cases h : a.block = b
  · rw [if_pos h]
    cases hh : w.heap[b]? with
    | none => simp
    | some o =>
      cases o <;> simp
      split <;> simp
  · rw [if_neg h]

theorem shape?_setCells (b : Nat) : ∀ (vs : List Value) (o : Nat) (w : World) (b' : Nat), (w.setCells b o vs).shape? b' = w.shape? b'
  | [], _, _, _ => rfl
  | v :: r, o, w, b' => by rw [World.setCells, shape?_setCells b r]; exact shape?_setCell _ _ _ _

theorem VR.oneCell' {x : AV} {v : Value} (h : VR ρ x v) (hc : x.isCell = true) : v.oneCell' = true := by
  have := VR.oneCell h hc
  cases v <;> first | rfl | (simp [Value.oneCell] at this)

theorem VRs.oneCell' : ∀ {xs : List AV} {vs : List Value}, VRs ρ xs vs → xs.all AV.isCell = true → ∀ v ∈ vs, v.oneCell' = true
  | [], _, h, _, v, hv => by rw [VRs_nil.1 h] at hv; cases hv
  | x :: xs, _, h, hc, v, hv => by
    obtain ⟨y, ys, rfl, h1, h2⟩ := VRs_cons.1 h
    simp only [List.all_cons, Bool.and_eq_true] at hc
    rcases List.mem_cons.1 hv with rfl | hv
    · exact VR.oneCell' h1 hc.1
    · exact VRs.oneCell' h2 hc.2 v hv

theorem cellAt_setFrom (z : List AV) (t : Tr AV) (off : Nat) (us : List AV) (i : Nat) :
    cellAt z (setFrom t off us) i = if off ≤ i ∧ i < off + us.length then us[i - off]? else cellAt z t i := by
  unfold cellAt
  rw [setFrom_get]
  by_cases h : off ≤ i ∧ i < off + us.length
  · rw [if_pos h, if_pos h]
    rw [List.getElem?_eq_getElem (by omega)]
  · rw [if_neg h, if_neg h]

theorem frOf_setCell (w : World) (a : Addr) (v : Value) (b : Nat) : frOf (w.setCell a v) b = frOf w b := by
  simp only [World.setCell, frOf, Array.getElem?_modify]
  by_cases hb : a.block = b
  · simp only [hb, if_true]
    cases hh : w.heap[b]? with
    | none => simp
    | some x => cases x <;> simp
  · simp [hb]
theorem frOf_setCells (b b' : Nat) : ∀ (vs : List Value) (o : Nat) (w : World), frOf (w.setCells b o vs) b' = frOf w b'
  | [], _, _ => rfl
  | v :: r, o, w => by rw [World.setCells, frOf_setCells b b' r, frOf_setCell]

/-- The cells of a block, some of them set: what stands there then. -/
theorem CellsAt.set {n : Nat} {z : List AV} {t : Tr AV} {e : TypeId} {fz : Nat} {wh : Bool} {l : Loc} (h : CellsAt P ρ n z t e fz wh l w) {off : Nat} {us : List AV} {vs : List Value} (hv : VRs ρ us vs) (hc : us.all AV.isCell = true) (hn : off + us.length ≤ n) :
    CellsAt P ρ n z (setFrom t off us) e fz wh l (w.setCells l.b (l.base + off) vs) := by
  have hlen := hv.length
  refine ⟨?_, h.le, ?_, ?_⟩
  · rw [shape?_setCells]; exact h.size
  · intro i hi
    rw [cellAt_setFrom]
    by_cases hin : off ≤ i ∧ i < off + us.length
    · rw [if_pos hin]
      have hj : i - off < us.length := by omega
      obtain ⟨v, hvv, hr⟩ := hv.get (List.getElem?_eq_getElem hj)
      refine ⟨us[i - off], v, List.getElem?_eq_getElem hj, ?_, ?_, hr⟩
      · exact List.all_eq_true.1 hc _ (List.getElem_mem hj)
      · have h2 := World.cell?_setCells_in l.b vs (l.base + off) w (fun j hj' => by
          obtain ⟨_, v', _, _, h3, _⟩ := h.cell (off + j) (by omega)
          rw [show l.base + off + j = l.base + (off + j) by omega, h3]; rfl) (i - off) (by omega)
        rw [show l.base + i = l.base + off + (i - off) by omega, h2]
        rw [List.getElem?_eq_getElem (by omega)] at hvv
        exact hvv
    · rw [if_neg hin]
      obtain ⟨x, v, h1, h2, h3, h4⟩ := h.cell i hi
      exact ⟨x, v, h1, h2, by rw [World.cell?_setCells_out l.b vs _ _ _ (fun _ _ => by simp only; omega)]; exact h3, h4⟩
  · intro hn' fr hf hne
    rw [frOf_setCells] at hf
    exact h.top hn' fr hf hne

theorem storeC_ok {σ σ' : AW} (hs : Sim P ρ σ w) {id off : Nat} {l : Loc} (hl : ρ id = some l) {us : List AV} (h : storeC σ id off us = some σ') {vs : List Value} (hv : VRs ρ us vs) :
    ∃ w', (storeCells ⟨l.b, l.base + off, none⟩ vs).run P w = .ok () w' ∧ Sim P ρ σ' w' ∧ Post ρ σ w ρ σ' w' := by
  unfold storeC at h
  split at h
  · rename_i n z t e fz wh ho
    split at h
    · rename_i hc
      obtain ⟨h1, h2, h3⟩ := hc
      cases h
      have hC := obj_cells hs hl ho
      have hlen := hv.length
      refine ⟨w.setCells l.b (l.base + off) vs, ?_, ?_⟩
      · have := run_storeCells_cells (P := P) l.b (l.base + off) vs 0 w (fun j hj => by
            obtain ⟨_, v', _, _, h3, _⟩ := hC.cell (off + j) (by omega)
            rw [show l.base + off + 0 + j = l.base + (off + j) by omega, h3]; rfl)
          (fun j hj => by
            have := hC.free (by omega) (off + j) (by omega) (by have := hC.le; omega)
            rw [show l.base + off + 0 + j = l.base + (off + j) by omega]; exact this)
          (hv.oneCell' h3)
        simpa using this
      · exact hs.put (.cells n z (setFrom t off us) e fz wh) hl ho rfl (fun es v hh => by cases hh) (setCells_size _ _ _ _) (fun b hb => setCells_other _ _ _ _ _ hb) (hC.set hv h3 h1) (setCells_io _ _ _ _)
    · cases h
  · cases h

/-- What an operation with an effect comes to. -/
def EffGives (P : Program) (ρ : Rho) (σ : AW) (w : World) (a : Act) (o : Oper) (u : AV) (σ' : AW) : Prop :=
  ∃ v w' ρ', Gives P a o w v w' ∧ VR ρ' u v ∧ Sim P ρ' σ' w' ∧ Post ρ σ w ρ' σ' w'

theorem store_ok {σ σ' : AW} (hs : Sim P ρ σ w) {o : Oper} {t : TypeId} {x y : Operand} (ho : o.op = .store t x y) {p q u : AV} (hx : fr.eval x = some p) (hy : fr.eval y = some q) (h : effRun P σ (.store t p q) = some (u, σ')) (H : EvalRel ρ fr a o.op.operands.toList) :
    EffGives P ρ σ w a o u σ' := by
  have h1 := H x (by simp [ho, Op.operands]) _ hx
  have h2 := H y (by simp [ho, Op.operands]) _ hy
  simp only [effRun] at h
  cases p <;> simp only [reduceCtorEq] at h
  rename_i id off
  split at h
  · rename_i hlen
    simp only [Option.map_eq_some_iff, Prod.mk.injEq] at h
    obtain ⟨σ2, hst, rfl, rfl⟩ := h
    simp only [VR] at h1
    obtain ⟨l, hl, e1⟩ := h1
    have hcell : q.cells.all AV.isCell = true := by
      unfold storeC at hst
      split at hst
      · split at hst
        · rename_i hc; exact hc.2.2
        · cases hst
      · cases hst
    have hvs := h2.cells hcell
    have hsz : P.cellsOf t ≠ 0 := hlen.2
    obtain ⟨w', g1, g2, g3⟩ := storeC_ok hs hl hst hvs
    refine ⟨undef, w', ρ, .inr ⟨?_, rfl⟩, ?_, g2, g3⟩
    · have hn : (a.eval y).cells.size = P.cellsOf t := by rw [← Array.length_toList, hvs.length, hlen.1]
      simp [execOp, ho, e1, Instr.storeAt, Instr.sureAddr, storeVar, run_size hsz, hn, g1]
    · simp only [VR, undef]; exact ⟨_, rfl, by simp [VRs]⟩
  · cases h

end Pe
