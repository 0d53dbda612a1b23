/- OfficeKeys: it returns true, whatever the number, the key and the height. -/
import Derived.Test.YtnmfbmfefjcnfaaGreatDoorNe
import Derived.Test.YtnmfbmfefjcnfaaGreatDoorKj
set_option linter.unusedSectionVars false
namespace Pe
open Go
set_option linter.unusedSectionVars false
noncomputable section
variable [PowG]
set_option maxRecDepth 100000
noncomputable def XLh : List (FuncId × XF) := (4, xHead) :: XL4
theorem conh : ∀ e ∈ XLh, ConOk P0 e.1 e.2 := by
  intro e he
  rcases List.mem_cons.1 he with rfl | he
  · exact con_head
  · exact con4 e he
theorem exth {multi : FuncId → Bool} : ExtOk (cfgX P0 (xOf XLh) multi) := extOk_of conh
noncomputable def u0 : Code := bod 3
noncomputable def u1 : Code := cR u0
noncomputable def u2 : Code := cR u1
noncomputable def u3 : Code := cR u2
noncomputable def u4 : Code := cR u3
noncomputable def u5 : Code := cR u4
noncomputable def u6 : Code := cR u5
noncomputable def u7 : Code := cR u6
noncomputable def u8 : Code := cR u7
noncomputable def u9 : Code := cR u8
noncomputable def O2 : Array Oper := cO (cL (cL u2))
noncomputable def u2a : Code := cT (cR (cL u2))
noncomputable def O5 : Array Oper := cO (cL u4)
noncomputable def O8 : Array Oper := cO (cL u6)
noncomputable def O11 : Array Oper := cO (cL (cL u8))
noncomputable def u8a : Code := cT (cR (cL u8))
theorem ok_shape : u0 = .seq (cL u0) (.seq (cL u1) (.seq (.seq (.region 2 O2 false) (.cond (.tmp 20) u2a .skip)) (.seq (cL u3) (.seq (.region 5 O5 true) (.seq (cL u5) (.seq (.region 8 O8 false) (.seq (cL u7) (.seq (.seq (.region 11 O11 false) (.cond (.tmp 74) u8a .skip)) u9)))))))) := by kernel_rfl
theorem O2_size : O2.size = 7 := by kernel_rfl
theorem O8_size : O8.size = 8 := by kernel_rfl
theorem O11_size : O11.size = 7 := by kernel_rfl
noncomputable def gF (num : Int) (s : List UInt8) (hgt : Int) : List (Tmp × AV) := [(0, .int .i64 num), (1, .str s), (2, .int .i64 hgt), (7, .bool true)]
theorem w0 : AllW [] := trivial
noncomputable def fEnd : Fr := mkFr 99 [(6, .bool true)]
theorem ok_0 (num : Int) (s : List UInt8) (hgt : Int) : CodeF P0 0 (cL u0) (mkFr 99 [(2, .int .i64 hgt), (1, .str s), (0, .int .i64 num)]) (mkA []) (.norm, mkFr 99 [(0, .int .i64 num), (1, .str s), (2, .int .i64 hgt)], mkA []) :=
  CodeF.symA (d := 100) (N := loopN) (ids := []) ext00 mixed w0 (by kernel_rfl) (by kernel_rfl) (by kernel_rfl) (by kernel_rfl) (by kernel_rfl) (by kernel_rfl)
theorem ok_1 (num : Int) (s : List UInt8) (hgt : Int) : CodeF P0 0 (cL u1) (mkFr 99 [(0, .int .i64 num), (1, .str s), (2, .int .i64 hgt)]) (mkA []) (.norm, mkFr 99 (gF num s hgt), mkA []) :=
  CodeF.symA (X := xOf XLh) (multi := no1) (d := 100) (N := loopN) (ids := []) exth mixed w0 (by kernel_rfl) (by kernel_rfl) (by kernel_rfl) (by kernel_rfl) (by kernel_rfl) (by kernel_rfl)
theorem ok_2a (num : Int) (s : List UInt8) (hgt : Int) {fr' : Fr} {σ' : AW} (g : OpsF P0 0 O2 2 (mkFr 99 ((15, .int .i64 (.ofNat (lenF s))) :: gF num s hgt)) (mkA []) fr' σ') : OpsF P0 0 O2 0 (mkFr 99 (gF num s hgt)) (mkA []) fr' σ' :=
  OpsF.symA (P := P0) (k := 0) (ops := O2) (j := 0) (m := 2) (d := 100) (ids := []) ext00 mixed w0 g (by kernel_rfl) (by kernel_rfl) (by kernel_rfl) (by kernel_rfl) (by kernel_rfl) (by kernel_rfl) (by kernel_rfl)
theorem ok_2b (num : Int) (s : List UInt8) (hgt : Int) {fr' : Fr} {σ' : AW} (g : OpsF P0 0 O2 3 (mkFr 99 ((16, .bool (decide ((60 : Int) < Int.ofNat (lenF s)))) :: (15, .int .i64 (.ofNat (lenF s))) :: gF num s hgt)) (mkA []) fr' σ') : OpsF P0 0 O2 0 (mkFr 99 (gF num s hgt)) (mkA []) fr' σ' :=
  ok_2a num s hgt (OpsF.val (j := 2) (o := O2.getD 2 default) (d := 16) (by kernel_rfl) (by kernel_rfl) (by kernel_rfl) (by kernel_rfl) g)
theorem ok_2c (num : Int) (s : List UInt8) (hgt : Int) (q : AV) : OpsF P0 0 O2 3 (mkFr 99 ((16, .bool true) :: (15, q) :: gF num s hgt)) (mkA []) (mkFr 99 ((20, .bool true) :: gF num s hgt)) (mkA []) :=
  OpsF.symA (P := P0) (k := 0) (ops := O2) (j := 3) (m := 4) (d := 100) (ids := []) ext00 mixed w0 (@OpsF.done' _ P0 0 O2 7 _ _ O2_size) (by kernel_rfl) (by kernel_rfl) (by kernel_rfl) (by kernel_rfl) (by kernel_rfl) (by kernel_rfl) (by kernel_rfl)
theorem ok_2d (num : Int) (s : List UInt8) (hgt : Int) (q : AV) {fr' : Fr} {σ' : AW} (g : OpsF P0 0 O2 5 (mkFr 99 ((18, .int .i64 hgt) :: (17, .bool false) :: gF num s hgt)) (mkA []) fr' σ') : OpsF P0 0 O2 3 (mkFr 99 ((16, .bool false) :: (15, q) :: gF num s hgt)) (mkA []) fr' σ' :=
  OpsF.symA (P := P0) (k := 0) (ops := O2) (j := 3) (m := 2) (d := 100) (ids := []) ext00 mixed w0 g (by kernel_rfl) (by kernel_rfl) (by kernel_rfl) (by kernel_rfl) (by kernel_rfl) (by kernel_rfl) (by kernel_rfl)
theorem ok_2e (num : Int) (s : List UInt8) (hgt : Int) (b : Bool) (hb : decide ((4 : Int) < hgt) = b) : OpsF P0 0 O2 5 (mkFr 99 ((18, .int .i64 hgt) :: (17, .bool false) :: gF num s hgt)) (mkA []) (mkFr 99 ((20, .bool b) :: gF num s hgt)) (mkA []) := by
  refine OpsF.val (j := 5) (o := O2.getD 5 default) (d := 19) (v := .bool (decide ((4 : Int) < hgt))) (by kernel_rfl) (by kernel_rfl) (by kernel_rfl) (by kernel_rfl) ?_
  rw [hb]
  cases b <;> exact OpsF.symA (P := P0) (k := 0) (ops := O2) (j := 6) (m := 1) (d := 100) (ids := []) ext00 mixed w0 (@OpsF.done' _ P0 0 O2 7 _ _ O2_size) (by kernel_rfl) (by kernel_rfl) (by kernel_rfl) (by kernel_rfl) (by kernel_rfl) (by kernel_rfl) (by kernel_rfl)
theorem ok_2z (num : Int) (s : List UInt8) (hgt : Int) : CodeF P0 0 u2a (mkFr 99 ((20, .bool true) :: gF num s hgt)) (mkA []) (.jump .ret, fEnd, mkA []) :=
  CodeF.symA (d := 100) (N := loopN) (ids := []) ext00 mixed w0 (by kernel_rfl) (by kernel_rfl) (by kernel_rfl) (by kernel_rfl) (by kernel_rfl) (by kernel_rfl)
theorem ok_2 (num : Int) (s : List UInt8) (hgt : Int) (b : Bool) (hb : (decide (60 < s.length) || decide ((4 : Int) < hgt)) = b) : CodeF P0 0 (.region 2 O2 false) (mkFr 99 (gF num s hgt)) (mkA []) (.norm, mkFr 99 ((20, .bool b) :: gF num s hgt), mkA []) := by
  refine .region (ok_2b num s hgt ?_)
  have e : decide ((60 : Int) < Int.ofNat (lenF s)) = decide (60 < s.length) := by
    rw [lenF_eq]
    have : ((60 : Int) < Int.ofNat s.length) ↔ 60 < s.length := by
      show ((60 : Int) < (s.length : Int)) ↔ _
      omega
    simp only [this]
  rw [e]
  cases hl : decide (60 < s.length) with
  | true =>
    rw [hl] at hb
    have : b = true := by rw [← hb]; rfl
    subst this
    exact ok_2c num s hgt _
  | false =>
    rw [hl] at hb
    exact ok_2d num s hgt _ (ok_2e num s hgt b (by rw [← hb]; rfl))
noncomputable def hF (num : Int) (s : List UInt8) (hgt : Int) : List (Tmp × AV) := (8, .ptr 5 0) :: gF num s hgt
theorem ok_4 (num : Int) (s : List UInt8) (hgt : Int) : CodeF P0 0 (cL u3) (mkFr 99 ((20, .bool false) :: gF num s hgt)) (mkA []) (.norm, mkFr 99 (hF num s hgt), mkA oS) :=
  CodeF.symA (X := xOf XLh) (multi := no1) (d := 1000) (N := loopN) (ids := [1, 5, 9, 10, 12, 13]) exth mixed wS (by kernel_rfl) (by kernel_rfl) (by kernel_rfl) (by kernel_rfl) (by kernel_rfl) (by kernel_rfl)
noncomputable def eF (num : Int) (s : List UInt8) (hgt : Int) : List (Tmp × AV) := (9, .nilptr) :: (10, .int .i64 1) :: hF num s hgt
noncomputable def i6 : List Nat := [0, 1, 2, 3, 4, 5]
/-! ### No such office, or no such height -/
theorem ok_5n (m : Nat) (s : List UInt8) (hgt : Int) : CodeF P0 0 (.region 5 O5 true) (mkFr 99 (hF (.negSucc m) s hgt)) (mkA oS) (.norm, mkFr 99 (eF (.negSucc m) s hgt), mkA oS) :=
  CodeF.symA (X := xOf XL6) (multi := no1) (d := 1000) (N := loopN) (ids := i6) ext6 mixed wS (by kernel_rfl) (by kernel_rfl) (by kernel_rfl) (by kernel_rfl) (by kernel_rfl) (by kernel_rfl)
theorem ok_5g (m : Nat) (s : List UInt8) (hgt : Int) : CodeF P0 0 (.region 5 O5 true) (mkFr 99 (hF (.ofNat (m + 2)) s hgt)) (mkA oS) (.norm, mkFr 99 (eF (.ofNat (m + 2)) s hgt), mkA oS) :=
  CodeF.symA (X := xOf XL6) (multi := no1) (d := 1000) (N := loopN) (ids := i6) ext6 mixed wS (by kernel_rfl) (by kernel_rfl) (by kernel_rfl) (by kernel_rfl) (by kernel_rfl) (by kernel_rfl)
theorem ok_5h (n : Nat) (hn : n < 2) (s : List UInt8) (m : Nat) : CodeF P0 0 (.region 5 O5 true) (mkFr 99 (hF (.ofNat n) s (.negSucc m))) (mkA oS) (.norm, mkFr 99 (eF (.ofNat n) s (.negSucc m)), mkA oS) := by
  rcases (show n = 0 ∨ n = 1 by omega) with rfl | rfl <;> exact CodeF.symA (X := xOf XL6) (multi := no1) (d := 1000) (N := loopN) (ids := i6) ext6 mixed wS (by kernel_rfl) (by kernel_rfl) (by kernel_rfl) (by kernel_rfl) (by kernel_rfl) (by kernel_rfl)
theorem ok_6n (m : Nat) (s : List UInt8) (hgt : Int) : CodeF P0 0 (cL u5) (mkFr 99 (eF (.negSucc m) s hgt)) (mkA oS) (.jump .ret, fEnd, mkA []) :=
  CodeF.symA (d := 100) (N := loopN) (ids := []) ext00 mixed w0 (by kernel_rfl) (by kernel_rfl) (by kernel_rfl) (by kernel_rfl) (by kernel_rfl) (by kernel_rfl)
theorem ok_6g (m : Nat) (s : List UInt8) (hgt : Int) : CodeF P0 0 (cL u5) (mkFr 99 (eF (.ofNat (m + 2)) s hgt)) (mkA oS) (.jump .ret, fEnd, mkA []) :=
  CodeF.symA (d := 100) (N := loopN) (ids := []) ext00 mixed w0 (by kernel_rfl) (by kernel_rfl) (by kernel_rfl) (by kernel_rfl) (by kernel_rfl) (by kernel_rfl)
theorem ok_6h (n : Nat) (hn : n < 2) (s : List UInt8) (hgt : Int) : CodeF P0 0 (cL u5) (mkFr 99 (eF (.ofNat n) s hgt)) (mkA oS) (.norm, mkFr 99 (eF (.ofNat n) s hgt), mkA oS) := by
  rcases (show n = 0 ∨ n = 1 by omega) with rfl | rfl <;> exact CodeF.symA (d := 100) (N := loopN) (ids := i6) ext00 mixed wS (by kernel_rfl) (by kernel_rfl) (by kernel_rfl) (by kernel_rfl) (by kernel_rfl) (by kernel_rfl)
theorem ok_8h (n : Nat) (s : List UInt8) (m : Nat) : CodeF P0 0 (.region 8 O8 false) (mkFr 99 (eF (.ofNat n) s (.negSucc m))) (mkA oS) (.norm, mkFr 99 ((12, .int .i64 1) :: eF (.ofNat n) s (.negSucc m)), mkA oS) :=
  CodeF.symA (X := xOf XL6) (multi := no1) (d := 1000) (N := loopN) (ids := i6) ext6 mixed wS (by kernel_rfl) (by kernel_rfl) (by kernel_rfl) (by kernel_rfl) (by kernel_rfl) (by kernel_rfl)
theorem ok_9h (n : Nat) (s : List UInt8) (hgt : Int) : CodeF P0 0 (cL u7) (mkFr 99 ((12, .int .i64 1) :: eF (.ofNat n) s hgt)) (mkA oS) (.jump .ret, fEnd, mkA []) :=
  CodeF.symA (d := 100) (N := loopN) (ids := []) ext00 mixed w0 (by kernel_rfl) (by kernel_rfl) (by kernel_rfl) (by kernel_rfl) (by kernel_rfl) (by kernel_rfl)
/-! ### An office, and a height -/
noncomputable def C6 : Cfg := cfgX P0 (xOf XL6) no1
noncomputable def e5 (i : Nat) : Oper := O5.getD i default
theorem O5_list : O5.toList = [e5 0, e5 1, e5 2, e5 3, e5 4, e5 5, e5 6, e5 7, e5 8, e5 9, e5 10] := by kernel_rfl
theorem O5_ok : drawOk O5 = true := by kernel_rfl
theorem disk_ev : EvCall C6 (.func 7 [] []) [.int .i64 20] (mkA oS) (.ptr 8 0) (mkA oD) :=
  callF_ok (P := P0) (X := xOf XL6) (multi := no1) (fun nt rnd => drawF_ok _ nt rnd) 100 _ _ _ _ _ (by kernel_rfl)
/-- The frame behind region 5. -/
noncomputable def rF (n : Nat) (s : List UInt8) (h : Nat) (o : AV) (e : Int) : List (Tmp × AV) :=
  (10, .int .i64 e) :: (9, o) :: (31, .int .i64 e) :: (30, o) :: (23, .tup [o, .int .i64 e]) :: (29, .tup [o, .int .i64 e]) :: (28, .int .i64 (.ofNat h)) :: (27, .str s) :: (26, .int .i64 (.ofNat n)) :: (25, .ptr 8 0) :: (24, .agg rCs) :: hF (.ofNat n) s (.ofNat h)
theorem ok_5d (n : Nat) (s : List UInt8) (h : Nat) (o : AV) (e : Int) (os : List AO) (hos : ∀ id, id < 9 → os[id]? = oD[id]?) (hlen : 9 ≤ os.length)
    (hop : FunF P0 9 6 [.agg rCs, .ptr 8 0, .int .i64 n, .str s, .int .i64 h] (mkA oD) (.tup [o, .int .i64 e]) (mkA os))
    (hlate : lateOk P0 (Region.before O5) (mkA os) ⟨[(5, mkA oD), (1, mkA oS)], [(0, .load 32 (.ptr 5 0), .agg rCs)], []⟩ = true) (hnx : Nat.ble 9 (mkA os).next = true) :
    CodeF P0 0 (.region 5 O5 true) (mkFr 99 (hF (.ofNat n) s (.ofNat h))) (mkA oS) (.norm, mkFr 99 (rF n s h o e), mkA os) := by
  obtain ⟨m, hm⟩ := disk_ev
  have hm := hm m (Nat.le_refl _)
  have hS : ∀ n, Sound C6 (evs C6 n) := evs_sound ext6 (merge_sound P0) (draw_sound _ mixed)
  have hE : Sound C6 (Eo C6 m 6 [.agg rCs, .ptr 8 0, .int .i64 n, .str s, .int .i64 h] (mkA oD) (.tup [o, .int .i64 e]) (mkA os)) :=
    Eo_sound hS hop hlen rfl (fun id hid => by rw [mkA_get, mkA_get]; exact hos id hid)
  refine CodeF.drawE (C := C6) mixed hE O5_ok ?_ (Nat.zero_le _)
  rw [O5_list]
  refine D.rd (d := 24) (v := .agg rCs) (r := .load 32 (.ptr 5 0)) (by kernel_rfl) (by kernel_rfl) (by kernel_rfl) (by kernel_rfl) (by kernel_rfl) ?_
  refine D.call (d := 25) (v := .ptr 8 0) (σ' := mkA oD) (fv := .func 7 [] []) (xs := [.int .i64 20]) (by kernel_rfl) (by kernel_rfl) (by kernel_rfl) (by kernel_rfl) ?_ (by kernel_rfl) ?_
  · rw [Eo_other (by decide)]; exact hm
  refine D.val (d := 26) (v := .int .i64 (.ofNat n)) (by kernel_rfl) (by kernel_rfl) (by kernel_rfl) ?_
  refine D.val (d := 27) (v := .str s) (by kernel_rfl) (by kernel_rfl) (by kernel_rfl) ?_
  refine D.val (d := 28) (v := .int .i64 (.ofNat h)) (by kernel_rfl) (by kernel_rfl) (by kernel_rfl) ?_
  refine D.call (d := 29) (v := .tup [o, .int .i64 e]) (σ' := mkA os) (fv := .func 6 [] []) (xs := [.agg rCs, .ptr 8 0, .int .i64 n, .str s, .int .i64 h]) (by kernel_rfl) (by kernel_rfl) (by kernel_rfl) (by kernel_rfl) Eo_here hnx ?_
  refine D.val (d := 23) (v := .tup [o, .int .i64 e]) (by kernel_rfl) (by kernel_rfl) (by kernel_rfl) ?_
  refine D.val (d := 30) (v := o) (by kernel_rfl) (by kernel_rfl) (by kernel_rfl) ?_
  refine D.val (d := 31) (v := .int .i64 e) (by kernel_rfl) (by kernel_rfl) (by kernel_rfl) ?_
  refine D.val (d := 9) (v := o) (by kernel_rfl) (by kernel_rfl) (by kernel_rfl) ?_
  refine D.val (d := 10) (v := .int .i64 e) (by kernel_rfl) (by kernel_rfl) (by kernel_rfl) ?_
  exact D.nil hlate
noncomputable def i16 : List Nat := [0, 1, 2, 3, 4, 5, 6, 7, 8, 9, 10, 11, 12, 13, 14, 15]
noncomputable def qF (n : Nat) (s : List UInt8) (h : Nat) (o : AV) (e : Int) : List (Tmp × AV) := (9, o) :: (10, .int .i64 e) :: hF (.ofNat n) s (.ofNat h)
noncomputable def pF (n : Nat) (s : List UInt8) (h : Nat) (o : AV) (e : Int) (p : List UInt8) : List (Tmp × AV) := (11, .str p) :: (12, .int .i64 0) :: qF n s h o e
noncomputable def oKn (n : Nat) (s : List UInt8) (h : Nat) : List AO := oK (.int .i64 n) s (.int .i64 h)
theorem ok_6e (n : Nat) (hn : n < 2) (s : List UInt8) (h : Nat) : CodeF P0 0 (cL u5) (mkFr 99 (rF n s h .nilptr 19)) (mkA oD) (.norm, mkFr 99 (qF n s h .nilptr 19), mkA oS) := by
  rcases (show n = 0 ∨ n = 1 by omega) with rfl | rfl <;> exact CodeF.symA (d := 100) (N := loopN) (ids := i6) ext00 mixed wS (by kernel_rfl) (by kernel_rfl) (by kernel_rfl) (by kernel_rfl) (by kernel_rfl) (by kernel_rfl)
theorem ok_8ea (n : Nat) (s : List UInt8) (h : Nat) {fr' : Fr} {σ' : AW} (g : OpsF P0 0 O8 2 (mkFr 99 ((51, .str s) :: (52, .int .i64 h) :: qF n s h .nilptr 19)) (mkA oS) fr' σ') : OpsF P0 0 O8 0 (mkFr 99 (qF n s h .nilptr 19)) (mkA oS) fr' σ' :=
  OpsF.symA (P := P0) (k := 0) (ops := O8) (j := 0) (m := 2) (d := 100) (ids := i6) ext00 mixed wS g (by kernel_rfl) (by kernel_rfl) (by kernel_rfl) (by kernel_rfl) (by kernel_rfl) (by kernel_rfl) (by kernel_rfl)
theorem ok_8eb (n : Nat) (s : List UInt8) (h : Nat) (p : List UInt8) : OpsF P0 0 O8 3 (mkFr 99 ((53, .tup [.str p, .int .i64 0]) :: (51, .str s) :: (52, .int .i64 h) :: qF n s h .nilptr 19)) (mkA oS) (mkFr 99 (pF n s h .nilptr 19 p)) (mkA oS) :=
  OpsF.symA (P := P0) (k := 0) (ops := O8) (j := 3) (m := 5) (d := 100) (ids := i6) ext00 mixed wS (@OpsF.done' _ P0 0 O8 8 _ _ O8_size) (by kernel_rfl) (by kernel_rfl) (by kernel_rfl) (by kernel_rfl) (by kernel_rfl) (by kernel_rfl) (by kernel_rfl)
theorem ok_8e (n : Nat) (s : List UInt8) (hs : s.length ≤ 60) (h m : Nat) (hh : Hts h m) : CodeF P0 0 (.region 8 O8 false) (mkFr 99 (qF n s h .nilptr 19)) (mkA oS) (.norm, mkFr 99 (pF n s h .nilptr 19 (pubK h s)), mkA oS) := by
  refine .region (ok_8ea n s h ?_)
  exact OpsF.call (k' := 100) (j := 2) (o := O8.getD 2 default) (d := 53) (by kernel_rfl) (by kernel_rfl) (by kernel_rfl) (by kernel_rfl) ((pub_fun s hs h m hh).any rfl rfl _) (by decide) (by kernel_rfl) (ok_8eb n s h (pubK h s))
theorem ok_9e (n : Nat) (s : List UInt8) (h : Nat) (p : List UInt8) : CodeF P0 0 (cL u7) (mkFr 99 (pF n s h .nilptr 19 p)) (mkA oS) (.norm, mkFr 99 (pF n s h .nilptr 19 p), mkA oS) :=
  CodeF.symA (d := 100) (N := loopN) (ids := i6) ext00 mixed wS (by kernel_rfl) (by kernel_rfl) (by kernel_rfl) (by kernel_rfl) (by kernel_rfl) (by kernel_rfl)
theorem ok_11ea (n : Nat) (hn : n < 2) (s : List UInt8) (h : Nat) (p : List UInt8) {fr' : Fr} {σ' : AW} (g : OpsF P0 0 O11 6 (mkFr 99 ((68, .str p) :: (73, .str (pkN n)) :: qF n s h .nilptr 19)) (mkA oS) fr' σ') : OpsF P0 0 O11 0 (mkFr 99 (pF n s h .nilptr 19 p)) (mkA oS) fr' σ' := by
  rcases (show n = 0 ∨ n = 1 by omega) with rfl | rfl <;> exact OpsF.symA (P := P0) (k := 0) (ops := O11) (j := 0) (m := 6) (fr' := fr') (σ' := σ') (d := 100) (ids := i6) ext00 mixed wS g (by kernel_rfl) (by kernel_rfl) (by kernel_rfl) (by kernel_rfl) (by kernel_rfl) (by kernel_rfl) (by kernel_rfl)
theorem ok_11e (n : Nat) (hn : n < 2) (s : List UInt8) (h : Nat) (p : List UInt8) : CodeF P0 0 (.region 11 O11 false) (mkFr 99 (pF n s h .nilptr 19 p)) (mkA oS) (.norm, mkFr 99 ((74, .bool (!beqBytes p (pkN n))) :: (68, .str p) :: (73, .str (pkN n)) :: qF n s h .nilptr 19), mkA oS) := by
  refine .region (ok_11ea n hn s h p ?_)
  exact OpsF.val (j := 6) (o := O11.getD 6 default) (d := 74) (by kernel_rfl) (by kernel_rfl) (by kernel_rfl) (by kernel_rfl) (@OpsF.done' _ P0 0 O11 7 _ _ O11_size)
theorem ok_6o (n : Nat) (hn : n < 2) (s : List UInt8) (h : Nat) : CodeF P0 0 (cL u5) (mkFr 99 (rF n s h (.ptr 15 0) 0)) (mkA (oKn n s h)) (.norm, mkFr 99 (qF n s h (.ptr 15 0) 0), mkA (oKn n s h)) := by
  rcases (show n = 0 ∨ n = 1 by omega) with rfl | rfl <;> exact CodeF.symA (d := 100) (N := loopN) (ids := i16) ext00 mixed (wK _ _ _) (by kernel_rfl) (by kernel_rfl) (by kernel_rfl) (by kernel_rfl) (by kernel_rfl) (by kernel_rfl)
theorem ok_8oa (n : Nat) (s : List UInt8) (h : Nat) {fr' : Fr} {σ' : AW} (g : OpsF P0 0 O8 2 (mkFr 99 ((51, .str s) :: (52, .int .i64 h) :: qF n s h (.ptr 15 0) 0)) (mkA (oKn n s h)) fr' σ') : OpsF P0 0 O8 0 (mkFr 99 (qF n s h (.ptr 15 0) 0)) (mkA (oKn n s h)) fr' σ' :=
  OpsF.symA (P := P0) (k := 0) (ops := O8) (j := 0) (m := 2) (d := 100) (ids := i16) ext00 mixed (wK _ _ _) g (by kernel_rfl) (by kernel_rfl) (by kernel_rfl) (by kernel_rfl) (by kernel_rfl) (by kernel_rfl) (by kernel_rfl)
theorem ok_8ob (n : Nat) (s : List UInt8) (h : Nat) (p : List UInt8) : OpsF P0 0 O8 3 (mkFr 99 ((53, .tup [.str p, .int .i64 0]) :: (51, .str s) :: (52, .int .i64 h) :: qF n s h (.ptr 15 0) 0)) (mkA (oKn n s h)) (mkFr 99 (pF n s h (.ptr 15 0) 0 p)) (mkA (oKn n s h)) :=
  OpsF.symA (P := P0) (k := 0) (ops := O8) (j := 3) (m := 5) (d := 100) (ids := i16) ext00 mixed (wK _ _ _) (@OpsF.done' _ P0 0 O8 8 _ _ O8_size) (by kernel_rfl) (by kernel_rfl) (by kernel_rfl) (by kernel_rfl) (by kernel_rfl) (by kernel_rfl) (by kernel_rfl)
theorem ok_8o (n : Nat) (s : List UInt8) (hs : s.length ≤ 60) (h m : Nat) (hh : Hts h m) : CodeF P0 0 (.region 8 O8 false) (mkFr 99 (qF n s h (.ptr 15 0) 0)) (mkA (oKn n s h)) (.norm, mkFr 99 (pF n s h (.ptr 15 0) 0 (pubK h s)), mkA (oKn n s h)) := by
  refine .region (ok_8oa n s h ?_)
  exact OpsF.call (k' := 100) (j := 2) (o := O8.getD 2 default) (d := 53) (by kernel_rfl) (by kernel_rfl) (by kernel_rfl) (by kernel_rfl) ((pub_fun s hs h m hh).any rfl rfl _) (by decide) (by kernel_rfl) (ok_8ob n s h (pubK h s))
theorem ok_9o (n : Nat) (s : List UInt8) (h : Nat) (p : List UInt8) : CodeF P0 0 (cL u7) (mkFr 99 (pF n s h (.ptr 15 0) 0 p)) (mkA (oKn n s h)) (.norm, mkFr 99 (pF n s h (.ptr 15 0) 0 p), mkA (oKn n s h)) :=
  CodeF.symA (d := 100) (N := loopN) (ids := i16) ext00 mixed (wK _ _ _) (by kernel_rfl) (by kernel_rfl) (by kernel_rfl) (by kernel_rfl) (by kernel_rfl) (by kernel_rfl)
theorem ok_11oa (n : Nat) (hn : n < 2) (s : List UInt8) (h : Nat) (p : List UInt8) {fr' : Fr} {σ' : AW} (g : OpsF P0 0 O11 6 (mkFr 99 ((68, .str p) :: (73, .str (pkN n)) :: qF n s h (.ptr 15 0) 0)) (mkA (oKn n s h)) fr' σ') : OpsF P0 0 O11 0 (mkFr 99 (pF n s h (.ptr 15 0) 0 p)) (mkA (oKn n s h)) fr' σ' := by
  rcases (show n = 0 ∨ n = 1 by omega) with rfl | rfl <;> exact OpsF.symA (P := P0) (k := 0) (ops := O11) (j := 0) (m := 6) (fr' := fr') (σ' := σ') (d := 100) (ids := i16) ext00 mixed (wK _ _ _) g (by kernel_rfl) (by kernel_rfl) (by kernel_rfl) (by kernel_rfl) (by kernel_rfl) (by kernel_rfl) (by kernel_rfl)
theorem ok_11o (n : Nat) (hn : n < 2) (s : List UInt8) (h : Nat) (p : List UInt8) : CodeF P0 0 (.region 11 O11 false) (mkFr 99 (pF n s h (.ptr 15 0) 0 p)) (mkA (oKn n s h)) (.norm, mkFr 99 ((74, .bool (!beqBytes p (pkN n))) :: (68, .str p) :: (73, .str (pkN n)) :: qF n s h (.ptr 15 0) 0), mkA (oKn n s h)) := by
  refine .region (ok_11oa n hn s h p ?_)
  exact OpsF.val (j := 6) (o := O11.getD 6 default) (d := 74) (by kernel_rfl) (by kernel_rfl) (by kernel_rfl) (by kernel_rfl) (@OpsF.done' _ P0 0 O11 7 _ _ O11_size)
theorem ok_12 (n : Nat) (s : List UInt8) (h : Nat) (p q : List UInt8) : CodeF P0 0 u8a (mkFr 99 ((74, .bool true) :: (68, .str p) :: (73, .str q) :: qF n s h .nilptr 19)) (mkA oS) (.jump .ret, fEnd, mkA []) :=
  CodeF.symA (d := 100) (N := loopN) (ids := []) ext00 mixed w0 (by kernel_rfl) (by kernel_rfl) (by kernel_rfl) (by kernel_rfl) (by kernel_rfl) (by kernel_rfl)
theorem ok_13 (n : Nat) (s : List UInt8) (h : Nat) (p q : List UInt8) : CodeF P0 0 u9 (mkFr 99 ((74, .bool false) :: (68, .str p) :: (73, .str q) :: qF n s h (.ptr 15 0) 0)) (mkA (oKn n s h)) (.jump .ret, fEnd, mkA []) :=
  CodeF.symA (X := xOf XL6) (multi := no1) (d := 1000) (N := loopN) (ids := []) ext6 mixed w0 (by kernel_rfl) (by kernel_rfl) (by kernel_rfl) (by kernel_rfl) (by kernel_rfl) (by kernel_rfl)

/-- What it comes to. -/
theorem ok_code (num : Int) (s : List UInt8) (hgt : Int) : CodeF P0 0 u0 (mkFr 99 [(2, .int .i64 hgt), (1, .str s), (0, .int .i64 num)]) (mkA []) (.jump .ret, fEnd, mkA []) := by
  rw [ok_shape]
  refine .seq (ok_0 num s hgt) (.seq (ok_1 num s hgt) ?_)
  cases hb : (decide (60 < s.length) || decide ((4 : Int) < hgt)) with
  | true => exact .seqJ (.seq (ok_2 num s hgt true hb) (.cond (t := true) (by kernel_rfl) (ok_2z num s hgt)))
  | false =>
    simp only [Bool.or_eq_false_iff, decide_eq_false_iff_not] at hb
    have hs : s.length ≤ 60 := by omega
    have hh4 : hgt ≤ 4 := by omega
    refine .seq (.seq (ok_2 num s hgt false (by simp [hb.1, hb.2])) (.cond (t := false) (by kernel_rfl) .skip)) (.seq (ok_4 num s hgt) ?_)
    cases num with
    | negSucc m => exact .seq (ok_5n m s hgt) (.seqJ (ok_6n m s hgt))
    | ofNat n =>
      by_cases hn : n < 2
      · cases hgt with
        | negSucc m => exact .seq (ok_5h n hn s m) (.seq (ok_6h n hn s _) (.seq (ok_8h n s m) (.seqJ (ok_9h n s _))))
        | ofNat h =>
          obtain ⟨m, hm⟩ : ∃ m, Hts h m := by
            have : h ≤ 4 := by
              have : (h : Int) ≤ 4 := hh4
              omega
            unfold Hts
            rcases (show h = 0 ∨ h = 1 ∨ h = 2 ∨ h = 3 ∨ h = 4 by omega) with rfl | rfl | rfl | rfl | rfl
            · exact ⟨1, by simp⟩
            · exact ⟨2, by simp⟩
            · exact ⟨4, by simp⟩
            · exact ⟨8, by simp⟩
            · exact ⟨16, by simp⟩
          cases hp : beqBytes (pubK h s) (pkN n) with
          | false =>
            have h11 := ok_11e n hn s h (pubK h s)
            rw [hp] at h11
            refine .seq (ok_5d n s h .nilptr 19 oD (fun _ _ => rfl) (Nat.le_of_ble_eq_true (by kernel_rfl)) (open_err n hn s hs h m hm hp) (by kernel_rfl) (by kernel_rfl)) (.seq (ok_6e n hn s h) (.seq (ok_8e n s hs h m hm) (.seq (ok_9e n s h _) (.seqJ (.seq h11 (.cond (t := true) (by kernel_rfl) (ok_12 n s h _ _)))))))
          | true =>
            have h11 := ok_11o n hn s h (pubK h s)
            rw [hp] at h11
            refine .seq (ok_5d n s h (.ptr 15 0) 0 (oKn n s h) (fun id hid => ?_) (Nat.le_of_ble_eq_true (by kernel_rfl)) (open_ok n hn s hs h m hm hp) (by kernel_rfl) (by kernel_rfl)) (.seq (ok_6o n hn s h) (.seq (ok_8o n s hs h m hm) (.seq (ok_9o n s h _) (.seq (.seq h11 (.cond (t := false) (by kernel_rfl) .skip)) (ok_13 n s h _ _)))))
            unfold oKn oK
            exact List.getElem?_append_left hid
      · obtain ⟨m, rfl⟩ : ∃ m, n = m + 2 := ⟨n - 2, by omega⟩
        exact .seq (ok_5g m s hgt) (.seqJ (ok_6g m s hgt))
theorem ok_fun (num : Int) (s : List UInt8) (hgt : Int) : FunF P0 0 3 [.int .i64 num, .str s, .int .i64 hgt] (mkA []) (.bool true) (mkA []) :=
  FunF.body (fn := funAt 3) (c := u0) (o := .jump .ret) (fr := fEnd) (vs := [.bool true]) (by kernel_rfl) (by kernel_rfl) (by kernel_rfl) (by
    have e1 : frame0 (funAt 3) [.int .i64 num, .str s, .int .i64 hgt] = mkFr 99 [(2, .int .i64 hgt), (1, .str s), (0, .int .i64 num)] := by kernel_rfl
    rw [e1]; exact ok_code num s hgt) (.inr rfl) rfl (by kernel_rfl)
end
end Pe
