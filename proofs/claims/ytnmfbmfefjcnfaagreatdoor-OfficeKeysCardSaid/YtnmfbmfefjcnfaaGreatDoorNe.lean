/- office.Open of the realm of the examples, for a secret of at most sixty bytes, on a new disk of twenty sectors. -/
import Derived.Test.YtnmfbmfefjcnfaaGreatDoorNd
import Derived.Test.YtnmfbmfefjcnfaaGreatDoorKj
import Derived.Test.YtnmfbmfefjcnfaaGreatDoorM11
set_option linter.unusedSectionVars false
namespace Pe
open Go
set_option linter.unusedSectionVars false
noncomputable section
variable [PowG]
set_option maxRecDepth 100000
noncomputable def pk0 : List UInt8 := bs 16 0x62613434646235623036613161396566
noncomputable def pk1 : List UInt8 := bs 16 0x62616235623566346130323736353636
noncomputable def rCs : List AV := [.sl 0 0 1 (.is 1), .nilsl, .sl 4 0 2 (.up 5), .sl 2 0 2 (.up 1), .str pk1]
noncomputable def oR : List AO := [.cells 4 [.str (bs 6 0x696e636f6d65), .int .i64 2, .int .i64 0, .int .i64 9] .nil 91 0 true, .cells 1 [.str pk0] .nil 9 0 true, .cells 2 [.str pk0, .str pk1] .nil 9 0 false, .cells 1 [.str pk1] .nil 9 0 true, .cells 10 [.int .i64 1, .sl 1 0 1 (.is 1), .int .i64 1, .int .i64 1, .int .i64 2, .int .i64 2, .sl 3 0 1 (.is 1), .int .i64 1, .int .i64 1, .int .i64 2] .nil 93 0 false]
noncomputable def oS : List AO := oR ++ [.cells 5 rCs .nil 32 0 true]
noncomputable def oD : List AO := oS ++ [.cells 1280 [.int .u8 0] .nil 5 0 true, .cells 1280 [.int .u8 0] .nil 5 0 true, .cells 5 [.sl 6 0 1280 (.is 1280), .sl 7 0 1280 (.is 1280), .nilsl, .bool false, .nilptr] .nil 113 0 true]
noncomputable def oB : List AO := oD ++ [.cells 5 rCs .nil 32 0 true]
noncomputable def oK (num : AV) (s : List UInt8) (hgt : AV) : List AO := oD ++ [.cells 5 [.ptr 8 0, .int .i64 20, .int .i64 0, .nilsl, .bool false] .nil 150 0 true, .cells 2 [.str pk0, .str pk1] .nil 9 0 false, .cells 3 [.sl 10 0 2 (.up 1), .sl 14 0 2 (.up 1), .int .i64 0] .nil 168 0 true, .map [] 0, .map [] 0, .cells 2 [.map 12, .map 13] .nil 169 0 false, .cells 11 [.ptr 11 0, .nilsl, .sl 0 0 1 (.is 1), .nilsl, .sl 4 0 2 (.up 5), .sl 2 0 2 (.up 1), .str pk1, num, .str s, hgt, .ptr 9 0] .nil 105 0 true]
theorem wS : AllW oS := ⟨rfl, rfl, rfl, rfl, rfl, rfl, trivial⟩
theorem wD : AllW oD := ⟨rfl, rfl, rfl, rfl, rfl, rfl, rfl, rfl, rfl, trivial⟩
theorem wB : AllW oB := ⟨rfl, rfl, rfl, rfl, rfl, rfl, rfl, rfl, rfl, rfl, trivial⟩
theorem wK (num : AV) (s : List UInt8) (hgt : AV) : AllW (oK num s hgt) := ⟨rfl, rfl, rfl, rfl, rfl, rfl, rfl, rfl, rfl, rfl, rfl, rfl, trivial, trivial, rfl, rfl, trivial⟩
noncomputable def XL6 : List (FuncId × XF) := (46, tableX isTab) :: XL5
theorem con6 : ∀ e ∈ XL6, ConOk P0 e.1 e.2 := by
  intro e he
  rcases List.mem_cons.1 he with rfl | he
  · exact con_is
  · exact con5 e he
theorem ext6 {multi : FuncId → Bool} : ExtOk (cfgX P0 (xOf XL6) multi) := extOk_of con6
noncomputable def cS : Code → Code | .scope b => b | _ => .skip
noncomputable def op0 : Code := bod 6
noncomputable def os1 : Code := cS (cR op0)
noncomputable def os2 : Code := cR os1
noncomputable def os3 : Code := cR os2
noncomputable def os4 : Code := cR os3
noncomputable def os5 : Code := cR os4
noncomputable def os6 : Code := cR os5
noncomputable def o6O : Array Oper := cO (cL os3)
noncomputable def o9O : Array Oper := cO (cL (cL os5))
noncomputable def cT : Code → Code | .cond _ a _ => a | _ => .skip
noncomputable def o10 : Code := cT (cR (cL os5))
theorem open_shape : op0 = .seq (cL op0) (.scope (.seq (cL os1) (.seq (cL os2) (.seq (.region 6 o6O false) (.seq (cL os4) (.seq (.seq (.region 9 o9O false) (.cond (.tmp 53) o10 .skip)) os6)))))) := by kernel_rfl
theorem o6_size : o6O.size = 8 := by kernel_rfl
theorem o9_size : o9O.size = 7 := by kernel_rfl
noncomputable def oF (n : Nat) (s : List UInt8) (h : Nat) : List (Tmp × AV) := [(1, .ptr 8 0), (2, .int .i64 n), (3, .str s), (4, .int .i64 h), (5, .ptr 9 0), (10, .nilptr), (11, .int .i64 0)]
noncomputable def i9 : List Nat := [0, 1, 2, 3, 4, 5, 6, 7, 8]
noncomputable def i10 : List Nat := [0, 1, 2, 3, 4, 5, 6, 7, 8, 9]
theorem open_0 (n : Nat) (s : List UInt8) (h : Nat) : CodeF P0 9 (cL op0) (mkFr 122 [(4, .int .i64 h), (3, .str s), (2, .int .i64 n), (1, .ptr 8 0), (0, .agg rCs)]) (mkA oD) (.norm, mkFr 122 (oF n s h), mkA oB) :=
  CodeF.symA (d := 100) (N := loopN) (ids := i10) ext00 mixed wB (by kernel_rfl) (by kernel_rfl) (by kernel_rfl) (by kernel_rfl) (by kernel_rfl) (by kernel_rfl)
theorem open_1 (n : Nat) (s : List UInt8) (h : Nat) : CodeF P0 9 (cL os1) (mkFr 122 (oF n s h)) (mkA oB) (.norm, mkFr 122 (oF n s h), mkA oB) :=
  CodeF.symA (X := xOf XL6) (multi := no1) (d := 1000) (N := loopN) (ids := i10) ext6 mixed wB (by kernel_rfl) (by kernel_rfl) (by kernel_rfl) (by kernel_rfl) (by kernel_rfl) (by kernel_rfl)
theorem open_2 (n : Nat) (hn : n < 2) (s : List UInt8) (h : Nat) : CodeF P0 9 (cL os2) (mkFr 122 (oF n s h)) (mkA oB) (.norm, mkFr 122 (oF n s h), mkA oB) := by
  rcases (show n = 0 ∨ n = 1 by omega) with rfl | rfl <;> exact CodeF.symA (d := 100) (N := loopN) (ids := i10) ext00 mixed wB (by kernel_rfl) (by kernel_rfl) (by kernel_rfl) (by kernel_rfl) (by kernel_rfl) (by kernel_rfl)
noncomputable def oG (n : Nat) (s : List UInt8) (h : Nat) (p : List UInt8) : List (Tmp × AV) := [(13, .str p), (14, .int .i64 0), (1, .ptr 8 0), (2, .int .i64 n), (3, .str s), (4, .int .i64 h), (5, .ptr 9 0), (10, .nilptr), (11, .int .i64 0)]
theorem open_3a (n : Nat) (s : List UInt8) (h : Nat) {fr' : Fr} {σ' : AW} (g : OpsF P0 9 o6O 2 (mkFr 122 ((39, .str s) :: (40, .int .i64 h) :: oF n s h)) (mkA oB) fr' σ') : OpsF P0 9 o6O 0 (mkFr 122 (oF n s h)) (mkA oB) fr' σ' :=
  OpsF.symA (P := P0) (k := 9) (ops := o6O) (j := 0) (m := 2) (d := 100) (ids := i10) ext00 mixed wB g (by kernel_rfl) (by kernel_rfl) (by kernel_rfl) (by kernel_rfl) (by kernel_rfl) (by kernel_rfl) (by kernel_rfl)
theorem open_3b (n : Nat) (s : List UInt8) (h : Nat) (p : List UInt8) : OpsF P0 9 o6O 3 (mkFr 122 ((41, .tup [.str p, .int .i64 0]) :: (39, .str s) :: (40, .int .i64 h) :: oF n s h)) (mkA oB) (mkFr 122 (oG n s h p)) (mkA oB) :=
  OpsF.symA (P := P0) (k := 9) (ops := o6O) (j := 3) (m := 5) (d := 100) (ids := i10) ext00 mixed wB (@OpsF.done' _ P0 9 o6O 8 _ _ o6_size) (by kernel_rfl) (by kernel_rfl) (by kernel_rfl) (by kernel_rfl) (by kernel_rfl) (by kernel_rfl) (by kernel_rfl)
theorem open_3 (n : Nat) (s : List UInt8) (hs : s.length ≤ 60) (h m : Nat) (hh : Hts h m) : CodeF P0 9 (.region 6 o6O false) (mkFr 122 (oF n s h)) (mkA oB) (.norm, mkFr 122 (oG n s h (pubK h s)), mkA oB) := by
  refine .region (open_3a n s h ?_)
  exact OpsF.call (k' := 100) (j := 2) (o := o6O.getD 2 default) (d := 41) (by kernel_rfl) (by kernel_rfl) (by kernel_rfl) (by kernel_rfl) ((pub_fun s hs h m hh).any rfl rfl _) (by decide) (by kernel_rfl) (open_3b n s h (pubK h s))
theorem open_4 (n : Nat) (s : List UInt8) (h : Nat) (p : List UInt8) : CodeF P0 9 (cL os4) (mkFr 122 (oG n s h p)) (mkA oB) (.norm, mkFr 122 (oG n s h p), mkA oB) :=
  CodeF.symA (d := 100) (N := loopN) (ids := i10) ext00 mixed wB (by kernel_rfl) (by kernel_rfl) (by kernel_rfl) (by kernel_rfl) (by kernel_rfl) (by kernel_rfl)
/-- The key of an office. -/
noncomputable def pkN : Nat → List UInt8
  | 0 => pk0
  | _ => pk1
theorem open_5a (n : Nat) (hn : n < 2) (s : List UInt8) (h : Nat) (p : List UInt8) {fr' : Fr} {σ' : AW} (g : OpsF P0 9 o9O 6 (mkFr 122 ((47, .str p) :: (52, .str (pkN n)) :: oF n s h)) (mkA oB) fr' σ') : OpsF P0 9 o9O 0 (mkFr 122 (oG n s h p)) (mkA oB) fr' σ' := by
  rcases (show n = 0 ∨ n = 1 by omega) with rfl | rfl <;> exact OpsF.symA (P := P0) (k := 9) (ops := o9O) (j := 0) (m := 6) (fr' := fr') (σ' := σ') (d := 100) (ids := i10) ext00 mixed wB g (by kernel_rfl) (by kernel_rfl) (by kernel_rfl) (by kernel_rfl) (by kernel_rfl) (by kernel_rfl) (by kernel_rfl)
theorem open_5 (n : Nat) (hn : n < 2) (s : List UInt8) (h : Nat) (p : List UInt8) : CodeF P0 9 (.region 9 o9O false) (mkFr 122 (oG n s h p)) (mkA oB) (.norm, mkFr 122 ((53, .bool (!beqBytes p (pkN n))) :: (47, .str p) :: (52, .str (pkN n)) :: oF n s h), mkA oB) := by
  refine .region (open_5a n hn s h p ?_)
  exact OpsF.val (j := 6) (o := o9O.getD 6 default) (d := 53) (by kernel_rfl) (by kernel_rfl) (by kernel_rfl) (by kernel_rfl) (@OpsF.done' _ P0 9 o9O 7 _ _ o9_size)
theorem open_6 (n : Nat) (s : List UInt8) (h : Nat) (p q : List UInt8) : CodeF P0 9 o10 (mkFr 122 ((53, .bool true) :: (47, .str p) :: (52, .str q) :: oF n s h)) (mkA oB) (.jump .ret, mkFr 122 [(10, .nilptr), (11, .int .i64 19)], mkA oD) :=
  CodeF.symA (d := 100) (N := loopN) (ids := i9) ext00 mixed wD (by kernel_rfl) (by kernel_rfl) (by kernel_rfl) (by kernel_rfl) (by kernel_rfl) (by kernel_rfl)
theorem open_7 (n : Nat) (s : List UInt8) (h : Nat) (p q : List UInt8) : CodeF P0 9 os6 (mkFr 122 ((53, .bool false) :: (47, .str p) :: (52, .str q) :: oF n s h)) (mkA oB) (.jump .ret, mkFr 122 [(10, .ptr 15 0), (11, .int .i64 0)], mkA (oK (.int .i64 n) s (.int .i64 h))) :=
  CodeF.symA (X := xOf XL6) (multi := no1) (d := 1000) (N := loopN) (ids := [0, 1, 2, 3, 4, 5, 6, 7, 8, 134, 139, 140, 141, 144, 146, 147]) ext6 mixed (wK _ _ _) (by kernel_rfl) (by kernel_rfl) (by kernel_rfl) (by kernel_rfl) (by kernel_rfl) (by kernel_rfl)
theorem open_err (n : Nat) (hn : n < 2) (s : List UInt8) (hs : s.length ≤ 60) (h m : Nat) (hh : Hts h m) (hp : beqBytes (pubK h s) (pkN n) = false) :
    FunF P0 9 6 [.agg rCs, .ptr 8 0, .int .i64 n, .str s, .int .i64 h] (mkA oD) (.tup [.nilptr, .int .i64 19]) (mkA oD) :=
  FunF.body (fn := funAt 6) (c := op0) (o := .jump .ret) (fr := mkFr 122 [(10, .nilptr), (11, .int .i64 19)]) (vs := [.nilptr, .int .i64 19]) (by kernel_rfl) (by kernel_rfl) (by kernel_rfl) (by
    have e1 : frame0 (funAt 6) [.agg rCs, .ptr 8 0, .int .i64 n, .str s, .int .i64 h] = mkFr 122 [(4, .int .i64 h), (3, .str s), (2, .int .i64 n), (1, .ptr 8 0), (0, .agg rCs)] := by kernel_rfl
    rw [e1, open_shape]
    have h5 := open_5 n hn s h (pubK h s)
    rw [hp] at h5
    refine .seq (open_0 n s h) (CodeF.scope (.seq (open_1 n s h) (.seq (open_2 n hn s h) (.seq (open_3 n s hs h m hh) (.seq (open_4 n s h _) (.seqJ (.seq h5 (.cond (t := true) (by kernel_rfl) (open_6 n s h _ _)))))))) (fun l hl => by cases hl))) (.inr rfl) rfl (by kernel_rfl)
theorem open_ok (n : Nat) (hn : n < 2) (s : List UInt8) (hs : s.length ≤ 60) (h m : Nat) (hh : Hts h m) (hp : beqBytes (pubK h s) (pkN n) = true) :
    FunF P0 9 6 [.agg rCs, .ptr 8 0, .int .i64 n, .str s, .int .i64 h] (mkA oD) (.tup [.ptr 15 0, .int .i64 0]) (mkA (oK (.int .i64 n) s (.int .i64 h))) :=
  FunF.body (fn := funAt 6) (c := op0) (o := .jump .ret) (fr := mkFr 122 [(10, .ptr 15 0), (11, .int .i64 0)]) (vs := [.ptr 15 0, .int .i64 0]) (by kernel_rfl) (by kernel_rfl) (by kernel_rfl) (by
    have e1 : frame0 (funAt 6) [.agg rCs, .ptr 8 0, .int .i64 n, .str s, .int .i64 h] = mkFr 122 [(4, .int .i64 h), (3, .str s), (2, .int .i64 n), (1, .ptr 8 0), (0, .agg rCs)] := by kernel_rfl
    rw [e1, open_shape]
    have h5 := open_5 n hn s h (pubK h s)
    rw [hp] at h5
    refine .seq (open_0 n s h) (CodeF.scope (.seq (open_1 n s h) (.seq (open_2 n hn s h) (.seq (open_3 n s hs h m hh) (.seq (open_4 n s h _) (.seq (.seq h5 (.cond (t := false) (by kernel_rfl) .skip)) (open_7 n s h _ _)))))) (fun l hl => by cases hl))) (.inr rfl) rfl (by kernel_rfl)
end
end Pe
