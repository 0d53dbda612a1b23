/- Contracts by tables: calls of plain values that the kernel has run. -/
import Derived.Test.YtnmfbmfefjcnfaaGreatDoorLa
set_option linter.unusedSectionVars false
namespace Pe
open Go
set_option linter.unusedSectionVars false
noncomputable section
variable [PowG]
set_option maxRecDepth 100000
noncomputable def XL1 : List (FuncId × XF) := [(102, xSum), (427, xIdx), (201, xEsc), (407, xMnz), (339, xDig)]
theorem con1 : ∀ e ∈ XL1, ConOk P0 e.1 e.2 := by
  simp only [XL1, List.forall_mem_cons, List.not_mem_nil, false_implies, implies_true, and_true]
  exact ⟨con_sum, con_idx, con_esc, con_mnz, con_dig⟩

/-- What the kernel is asked: the call gives this value. -/
noncomputable def callOk (X : FuncId → Option XF) (multi : FuncId → Bool) (f : FuncId) (xs : List AV) (v : AV) : Bool :=
  C1.rec (motive := fun _ => Bool) false (fun u _ => AV.same u v) (callF (cfgX P0 X multi) X (drawF (cfgX P0 X multi)) 100000 (.func f [] []) xs σ00)
theorem callOk_ev {X : FuncId → Option XF} {multi : FuncId → Bool} {f : FuncId} {xs : List AV} {v : AV} (h : callOk X multi f xs v = true) : ∃ σ', EvCall (cfgX P0 X multi) (.func f [] []) xs σ00 v σ' := by
  unfold callOk at h
  have hc := callF_ok (P := P0) (X := X) (multi := multi) (fun nt rnd => drawF_ok (cfgX P0 X multi) nt rnd) 100000 (.func f [] []) xs σ00
  generalize callF (cfgX P0 X multi) X (drawF (cfgX P0 X multi)) 100000 (.func f [] []) xs σ00 = r at h hc
  cases r with
  | fail => cases h
  | one u σ' =>
    rw [← same_eq u v h]
    exact ⟨σ', hc _ _ rfl⟩
theorem con_call {X : FuncId → Option XF} {multi : FuncId → Bool} (hX : ExtOk (cfgX P0 X multi)) {f : FuncId} (hx : (X f).isNone = true) {xs : List AV} {v : AV} (h : callOk X multi f xs v = true) (hxs : xs.all flatV = true) (hv : scalarV v = true)
    {ρ : Rho} {σ : AW} {w : World} {args : Array Value} (hs : Sim P0 ρ σ w) (hg : Glob ρ σ w) (ha : VRs ρ xs args.toList) : CallRes P0 ρ σ w (callFunc f args) [(v, σ)] := by
  obtain ⟨σ', he⟩ := callOk_ev h
  have hn : (cfgX P0 X multi).ext f xs σ00 = none := by
    have : X f = none := by simpa using hx
    simp [cfgX, this]
  exact (FunF.of (k := 0) hX mixed he hn (Nat.zero_le _)).plain hxs hv hs hg ha
noncomputable def tabOk (X : FuncId → Option XF) (multi : FuncId → Bool) (f : FuncId) (tab : List (List AV × AV)) : Bool :=
  tab.all fun e => e.1.all flatV && (scalarV e.2 && callOk X multi f e.1 e.2)
theorem con_tab {X : FuncId → Option XF} {multi : FuncId → Bool} (hX : ExtOk (cfgX P0 X multi)) {f : FuncId} (hx : (X f).isNone = true) {tab : List (List AV × AV)} (h : tabOk X multi f tab = true) : ConOk P0 f (tableX tab) := by
  intro xs σ r hv ρ w args hs hg ha
  obtain ⟨v, h2, hr⟩ := pv_some hv
  clear hv
  subst hr
  have hv := h2
  have hm := List.all_eq_true.1 h _ (find_mem hv)
  simp only [Bool.and_eq_true] at hm
  exact con_call hX hx hm.2.2 hm.1 hm.2.1 hs hg ha

theorem ext1 {multi : FuncId → Bool} : ExtOk (cfgX P0 (xOf XL1) multi) := extOk_of con1

/-! ### strconv.Itoa -/
noncomputable def itoaGo (fuel : Nat) : Nat → List UInt8 → List UInt8 := Nat.rec (motive := fun _ => Nat → List UInt8 → List UInt8) (fun _ l => l) (fun _ ih n l =>
  Bool.rec (motive := fun _ => List UInt8) (forceNat (Nat.div n 10) fun m => ih m (UInt8.ofNat (Nat.add 48 (Nat.mod n 10)) :: l)) (UInt8.ofNat (Nat.add 48 n) :: l) (Nat.blt n 10)) fuel
noncomputable def itoaK (n : Nat) : List UInt8 := itoaGo 20 n []
/-- Which numbers. -/
noncomputable def itoaD (n : Nat) : Bool := Bool.rec (motive := fun _ => Bool) (Bool.rec (motive := fun _ => Bool) (Nat.beq n 439) true (Nat.beq n 422)) true (Nat.blt n 100)
noncomputable def xItoa : XF := one fun x => AV.onInt none (fun k n => IntKind.casesOn (motive := fun _ => Option AV) k none none none (Int.rec (motive := fun _ => Option AV) (fun n => Bool.rec (motive := fun _ => Option AV) none (some (.str (itoaK n))) (itoaD n)) (fun _ => none) n) none none none none) x
noncomputable def upB (p : Nat → Bool) (a n : Nat) : Bool := Nat.rec (motive := fun _ => Bool) true (fun i ih => Bool.rec (motive := fun _ => Bool) false ih (p (Nat.add a i))) n
theorem upB_eq {p : Nat → Bool} {a : Nat} : ∀ {n : Nat}, upB p a n = true → ∀ i, a ≤ i → i < a + n → p i = true
  | 0, _, i, _, _ => by omega
  | n + 1, h, i, h1, h2 => by
    have h' : Bool.rec (motive := fun _ => Bool) false (upB p a n) (p (Nat.add a n)) = true := h
    obtain ⟨h3, h4⟩ := boolRec h' (by simp)
    by_cases hi : i = a + n
    · subst hi; exact h3
    · exact upB_eq h4 i h1 (by omega)
noncomputable def itoaP (n : Nat) : Bool := callOk (xOf XL1) no1 94 [.int .i64 (.ofNat n)] (.str (itoaK n))
theorem itoa_0 : upB itoaP 0 100 = true := by kernel_rfl
theorem itoa_1 : itoaP 422 = true := by kernel_rfl
theorem itoa_2 : itoaP 439 = true := by kernel_rfl
theorem con_itoa : ConOk P0 94 xItoa := by
  intro xs σ r h ρ w args hs hg hx
  obtain ⟨x, v, h1, h2, hr⟩ := one_run h
  clear h
  subst h1
  subst hr
  have h := h2
  clear h2
  obtain ⟨k, n, rfl, h⟩ := onInt h (by simp)
  cases k <;> try (cases h; done)
  cases n with
  | negSucc n => cases h
  | ofNat n =>
    have h' : Bool.rec (motive := fun _ => Option AV) none (some (.str (itoaK n))) (itoaD n) = some v := h
    obtain ⟨h1, h2⟩ := boolRec h' (by simp)
    cases h2
    have hp : itoaP n = true := by
      have h3 : Bool.rec (motive := fun _ => Bool) (Bool.rec (motive := fun _ => Bool) (Nat.beq n 439) true (Nat.beq n 422)) true (Nat.blt n 100) = true := h1
      cases hb : Nat.blt n 100 with
      | true => exact upB_eq itoa_0 n (Nat.zero_le _) (by have := blt_lt hb; omega)
      | false =>
        rw [hb] at h3
        cases hc : Nat.beq n 422 with
        | true => rw [Nat.eq_of_beq_eq_true hc]; exact itoa_1
        | false =>
          rw [hc] at h3
          rw [Nat.eq_of_beq_eq_true h3]; exact itoa_2
    exact con_call ext1 (by kernel_rfl) hp rfl rfl hs hg hx

/-! ### Tables -/
noncomputable def dgK (st : Nat) : List UInt8 := List.rec (motive := fun _ => List UInt8) [] (fun i _ ih => forceNat (Nat.land (Nat.shiftRight st i) 15) fun n => hexK n :: ih) [60, 56, 52, 48, 44, 40, 36, 32, 28, 24, 20, 16, 12, 8, 4, 0]
noncomputable def mapT {α β : Type} (f : α → β) (l : List α) : List β := List.rec (motive := fun _ => List β) [] (fun x _ ih => f x :: ih) l
noncomputable def isTab : List (List AV × AV) := mapT (fun n => ([.str (dgK n)], .bool true)) [0x00e1594854aeb72a, 0x03033493d42586ad, 0x0c224032c9309bd8, 0x136912f141d4f3ab, 0x1b0d4d0682da52ac, 0x1b3bdd521524ea39, 0x1d107e6c65d9c0aa, 0x28f17ab59596940f, 0x422374927bc2229a, 0x444ef1967b5ba3a2, 0x44f79d5c666bee25, 0x4f28ef1f73c960e5, 0x5521f1aa686c14dc, 0x6514dd3144f2b8b4, 0x65da8ea95db8cffe, 0x65ee65ae2c6f0857, 0x66ecd5ca41e4b0bf, 0x6894c6f14204d33f, 0x6c7f0331cfc40300, 0x6e633d63f070953a, 0x710345f794f3ebbe, 0x721a9dd37b6ceed2, 0x742f55b69630e2b3, 0x76ce6df504d4ec35, 0x7a4b9568e1040901, 0x7b4681a0188356fd, 0x7b96b7e878a44f9e, 0x9138c74164320e1c, 0x99625308db93810c, 0x9fbc493a3eede741, 0xa7ab0bb180782416, 0xaa0b072dbb6c62fd, 0xaedd6990c4270f3d, 0xba44db5b06a1a9ef, 0xbab5b5f4a0276566, 0xc142f88e4d6299d7, 0xd3cb1f165f6c9c14, 0xd753c2d45ee3191d, 0xd9a1950f2c48accb, 0xddeefd03e3ebf1af, 0xdfc4fb57743559aa, 0xe04c78cbe14ffc07]
theorem con_is : ConOk P0 46 (tableX isTab) := con_tab (X := xOf XL1) (multi := no1) ext1 (by kernel_rfl) (by kernel_rfl)
noncomputable def atoiTab : List (List AV × AV) := [([.str [48]], .tup [.int .i64 0, .niliface]), ([.str [49]], .tup [.int .i64 1, .niliface]), ([.str [50]], .tup [.int .i64 2, .niliface]), ([.str [51]], .tup [.int .i64 3, .niliface]), ([.str [53]], .tup [.int .i64 5, .niliface]), ([.str [57]], .tup [.int .i64 9, .niliface]), ([.str [48, 48, 48, 48, 48, 48, 50, 48]], .tup [.int .i64 20, .niliface]), ([.str [49, 50]], .tup [.int .i64 12, .niliface]), ([.str [49, 54]], .tup [.int .i64 16, .niliface]), ([.str [49, 56]], .tup [.int .i64 18, .niliface]), ([.str [50, 57]], .tup [.int .i64 29, .niliface]), ([.str [52, 50, 50]], .tup [.int .i64 422, .niliface]), ([.str [52, 51, 57]], .tup [.int .i64 439, .niliface]), ([.str [52, 54]], .tup [.int .i64 46, .niliface])]
theorem con_atoi : ConOk P0 52 (tableX atoiTab) := con_tab (X := xOf XL1) (multi := no1) ext1 (by kernel_rfl) (by kernel_rfl)
noncomputable def repTab : List (List AV × AV) := [([.str [0], .int .i64 64], .str (List.replicate 64 0)), ([.str [48], .int .i64 0], .str []), ([.str [48], .int .i64 6], .str [48, 48, 48, 48, 48, 48]), ([.str [48], .int .i64 7], .str [48, 48, 48, 48, 48, 48, 48])]
end
end Pe
