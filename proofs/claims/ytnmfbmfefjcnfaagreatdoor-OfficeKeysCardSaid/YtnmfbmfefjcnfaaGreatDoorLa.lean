/- digest.Sum for every text; summaries of library functions. -/
import Derived.Test.YtnmfbmfefjcnfaaGreatDoorKj
import Derived.Test.YtnmfbmfefjcnfaaGreatDoorRows
import Derived.KernelRfl
import Derived.Lib.Bytealg
import Derived.Lib.MakeNoZero
set_option linter.unusedSectionVars false
/- The program at hand; its codes, part by part. -/
namespace Pe
open Go
set_option linter.unusedSectionVars false
noncomputable section
variable [Globs]
noncomputable abbrev P0 : Program := Go.Proofs.Tryz.prog
noncomputable def X00 : FuncId → Option XF := fun _ => none
noncomputable def no1 : FuncId → Bool := fun _ => false
theorem ext00 : ExtOk (cfgX P0 X00 no1) := by intro f xs σ v h; cases h
theorem mixed : P0.follows .mixedOrders = true := by kernel_rfl
noncomputable def bod (f : Nat) : Code := match P0.funcs[f]? with
  | some fn => (match fn.body with | some b => b | none => .skip)
  | none => .skip
noncomputable def cL : Code → Code | .seq a _ => a | _ => .skip
noncomputable def cR : Code → Code | .seq _ b => b | _ => .skip
noncomputable def cB : Code → Code | .block _ b => b | .loop b => b | _ => .skip
noncomputable def cO : Code → Array Oper | .region _ ops _ => ops | _ => #[]

/-! ### Numbers as digest.Sum works them out -/
noncomputable def stepI (n : Int) (b : UInt8) : Int := IntKind.wrap .u64 (BitVec.ofInt 64 (IntKind.wrap .u64 (n * 256)) ||| BitVec.ofInt 64 (IntKind.wrap .u64 b.toNat)).toNat
noncomputable def xorI (a b : Int) : Int := IntKind.wrap .u64 (BitVec.ofInt 64 a ^^^ BitVec.ofInt 64 b).toNat
noncomputable def mixI (x : Int) : Int :=
  let x := IntKind.wrap .u64 (x * 6364136223846793005)
  let x := xorI x (x.fdiv (2 ^ 31))
  let x := IntKind.wrap .u64 (x * 3202034522624059733)
  xorI x (x.fdiv (2 ^ 30))
noncomputable def blkI : Nat → List UInt8 → Int → Int
  | 0, _, n => n
  | k + 1, [], n => blkI k [] (stepI n 0)
  | k + 1, b :: l, n => blkI k l (stepI n b)
noncomputable def takeI (x : Int) (l : List UInt8) : Int := mixI (xorI x (blkI 8 l 0))
noncomputable def initI (s : List UInt8) : Int := xorI 1442695040888963407 (IntKind.wrap .u64 (.ofNat (lenF s)))
noncomputable def nibI (x : Int) (i : Nat) : Int := IntKind.wrap .u64 (BitVec.ofInt 64 (x.fdiv (2 ^ (60 - 4 * i))) &&& BitVec.ofInt 64 15).toNat
end
end Pe

namespace Pe
open Go
set_option linter.unusedSectionVars false
noncomputable section
variable [Globs]
noncomputable def q0 : Code := bod 102
noncomputable def q1 : Code := cR q0
noncomputable def q2 : Code := cR q1
noncomputable def q3 : Code := cR q2
noncomputable def q4 : Code := cR q3
noncomputable def q5 : Code := cR q4
noncomputable def q6 : Code := cR q5
noncomputable def q7 : Code := cR q6
noncomputable def q8 : Code := cR q7
noncomputable def lb1 : Code := cB (cB (cL q3))
theorem sum_shape : q0 = .seq (cL q0) (.seq (cL q1) (.seq (cL q2) (.seq (.block 0 (.loop lb1)) (.seq (cL q4) (.seq (cL q5) (.seq (cL q6) (.seq (cL q7) q8))))))) := by kernel_rfl
noncomputable def f0 (s : List UInt8) : Fr := mkFr 42 [(0, .str s)]
noncomputable def f1 (s : List UInt8) : Fr := mkFr 42 [(0, .str s), (3, .ptr 0 0), (4, .func 172 [] [.ptr 0 0])]
noncomputable def w1 (x : Int) : AW := mkW [⟨1, [.int .u64 x], 312, 0, true⟩]

theorem sum_r0 (s : List UInt8) : CodeF P0 0 (cL q0) (f0 s) (mkW []) (.norm, f0 s, mkW []) :=
  CodeF.sym (d := 10) (N := loopN) (ts := [0]) (ids := []) (vs := [.str s]) (os := []) ext00 mixed (by kernel_rfl) (by kernel_rfl) (by kernel_rfl) (by kernel_rfl) (by kernel_rfl) (by kernel_rfl)
theorem sum_r1 (s : List UInt8) : CodeF P0 0 (cL q1) (f0 s) (mkW []) (.norm, mkFr 42 [(0, .str s), (3, .ptr 0 0)], w1 (initI s)) :=
  CodeF.sym (d := 10) (N := loopN) (ts := [0, 3]) (ids := [0]) (vs := [.str s, .ptr 0 0]) (os := [⟨1, [.int .u64 (initI s)], 312, 0, true⟩]) ext00 mixed (by kernel_rfl) (by kernel_rfl) (by kernel_rfl) (by kernel_rfl) (by kernel_rfl) (by kernel_rfl)
theorem sum_r2 (s : List UInt8) (x : Int) : CodeF P0 0 (cL q2) (mkFr 42 [(0, .str s), (3, .ptr 0 0)]) (w1 x) (.norm, f1 s, w1 x) :=
  CodeF.sym (d := 10) (N := loopN) (ts := [0, 3, 4]) (ids := [0]) (vs := [.str s, .ptr 0 0, .func 172 [] [.ptr 0 0]]) (os := [⟨1, [.int .u64 x], 312, 0, true⟩]) ext00 mixed (by kernel_rfl) (by kernel_rfl) (by kernel_rfl) (by kernel_rfl) (by kernel_rfl) (by kernel_rfl)
theorem sum_it (b0 b1 b2 b3 b4 b5 b6 b7 : UInt8) (s : List UInt8) (x : Int) : CodeF P0 0 lb1 (f1 (b0 :: b1 :: b2 :: b3 :: b4 :: b5 :: b6 :: b7 :: s)) (w1 x) (.norm, f1 s, w1 (takeI x [b0, b1, b2, b3, b4, b5, b6, b7])) :=
  CodeF.sym (d := 10) (N := loopN) (ts := [0, 3, 4]) (ids := [0]) (vs := [.str s, .ptr 0 0, .func 172 [] [.ptr 0 0]]) (os := [⟨1, [.int .u64 (takeI x [b0, b1, b2, b3, b4, b5, b6, b7])], 312, 0, true⟩]) ext00 mixed (by kernel_rfl) (by kernel_rfl) (by kernel_rfl) (by kernel_rfl) (by kernel_rfl) (by kernel_rfl)
end
end Pe

namespace Pe
open Go
set_option linter.unusedSectionVars false
noncomputable section
variable [Globs]
theorem sum_ex0 (x : Int) : CodeF P0 0 lb1 (f1 []) (w1 x) (.jump (.exit 0), f1 [], w1 x) :=
  CodeF.sym (d := 10) (N := loopN) (ts := [0, 3, 4]) (ids := [0]) (vs := [.str [], .ptr 0 0, .func 172 [] [.ptr 0 0]]) (os := [⟨1, [.int .u64 x], 312, 0, true⟩]) ext00 mixed (by kernel_rfl) (by kernel_rfl) (by kernel_rfl) (by kernel_rfl) (by kernel_rfl) (by kernel_rfl) 
theorem sum_la0 (x : Int) : CodeF P0 0 (cL q4) (f1 []) (w1 x) (.norm, mkFr 42 [(3, .ptr 0 0)], w1 (takeI x [])) :=
  CodeF.sym (d := 10) (N := loopN) (ts := [3]) (ids := [0]) (vs := [.ptr 0 0]) (os := [⟨1, [.int .u64 (takeI x [])], 312, 0, true⟩]) ext00 mixed (by kernel_rfl) (by kernel_rfl) (by kernel_rfl) (by kernel_rfl) (by kernel_rfl) (by kernel_rfl) 
theorem sum_ex1 (b0 : UInt8) (x : Int) : CodeF P0 0 lb1 (f1 [b0]) (w1 x) (.jump (.exit 0), f1 [b0], w1 x) :=
  CodeF.sym (d := 10) (N := loopN) (ts := [0, 3, 4]) (ids := [0]) (vs := [.str [b0], .ptr 0 0, .func 172 [] [.ptr 0 0]]) (os := [⟨1, [.int .u64 x], 312, 0, true⟩]) ext00 mixed (by kernel_rfl) (by kernel_rfl) (by kernel_rfl) (by kernel_rfl) (by kernel_rfl) (by kernel_rfl) 
theorem sum_la1 (b0 : UInt8) (x : Int) : CodeF P0 0 (cL q4) (f1 [b0]) (w1 x) (.norm, mkFr 42 [(3, .ptr 0 0)], w1 (takeI x [b0])) :=
  CodeF.sym (d := 10) (N := loopN) (ts := [3]) (ids := [0]) (vs := [.ptr 0 0]) (os := [⟨1, [.int .u64 (takeI x [b0])], 312, 0, true⟩]) ext00 mixed (by kernel_rfl) (by kernel_rfl) (by kernel_rfl) (by kernel_rfl) (by kernel_rfl) (by kernel_rfl) 
theorem sum_ex2 (b0 b1 : UInt8) (x : Int) : CodeF P0 0 lb1 (f1 [b0, b1]) (w1 x) (.jump (.exit 0), f1 [b0, b1], w1 x) :=
  CodeF.sym (d := 10) (N := loopN) (ts := [0, 3, 4]) (ids := [0]) (vs := [.str [b0, b1], .ptr 0 0, .func 172 [] [.ptr 0 0]]) (os := [⟨1, [.int .u64 x], 312, 0, true⟩]) ext00 mixed (by kernel_rfl) (by kernel_rfl) (by kernel_rfl) (by kernel_rfl) (by kernel_rfl) (by kernel_rfl) 
theorem sum_la2 (b0 b1 : UInt8) (x : Int) : CodeF P0 0 (cL q4) (f1 [b0, b1]) (w1 x) (.norm, mkFr 42 [(3, .ptr 0 0)], w1 (takeI x [b0, b1])) :=
  CodeF.sym (d := 10) (N := loopN) (ts := [3]) (ids := [0]) (vs := [.ptr 0 0]) (os := [⟨1, [.int .u64 (takeI x [b0, b1])], 312, 0, true⟩]) ext00 mixed (by kernel_rfl) (by kernel_rfl) (by kernel_rfl) (by kernel_rfl) (by kernel_rfl) (by kernel_rfl) 
theorem sum_ex3 (b0 b1 b2 : UInt8) (x : Int) : CodeF P0 0 lb1 (f1 [b0, b1, b2]) (w1 x) (.jump (.exit 0), f1 [b0, b1, b2], w1 x) :=
  CodeF.sym (d := 10) (N := loopN) (ts := [0, 3, 4]) (ids := [0]) (vs := [.str [b0, b1, b2], .ptr 0 0, .func 172 [] [.ptr 0 0]]) (os := [⟨1, [.int .u64 x], 312, 0, true⟩]) ext00 mixed (by kernel_rfl) (by kernel_rfl) (by kernel_rfl) (by kernel_rfl) (by kernel_rfl) (by kernel_rfl) 
theorem sum_la3 (b0 b1 b2 : UInt8) (x : Int) : CodeF P0 0 (cL q4) (f1 [b0, b1, b2]) (w1 x) (.norm, mkFr 42 [(3, .ptr 0 0)], w1 (takeI x [b0, b1, b2])) :=
  CodeF.sym (d := 10) (N := loopN) (ts := [3]) (ids := [0]) (vs := [.ptr 0 0]) (os := [⟨1, [.int .u64 (takeI x [b0, b1, b2])], 312, 0, true⟩]) ext00 mixed (by kernel_rfl) (by kernel_rfl) (by kernel_rfl) (by kernel_rfl) (by kernel_rfl) (by kernel_rfl) 
theorem sum_ex4 (b0 b1 b2 b3 : UInt8) (x : Int) : CodeF P0 0 lb1 (f1 [b0, b1, b2, b3]) (w1 x) (.jump (.exit 0), f1 [b0, b1, b2, b3], w1 x) :=
  CodeF.sym (d := 10) (N := loopN) (ts := [0, 3, 4]) (ids := [0]) (vs := [.str [b0, b1, b2, b3], .ptr 0 0, .func 172 [] [.ptr 0 0]]) (os := [⟨1, [.int .u64 x], 312, 0, true⟩]) ext00 mixed (by kernel_rfl) (by kernel_rfl) (by kernel_rfl) (by kernel_rfl) (by kernel_rfl) (by kernel_rfl) 
theorem sum_la4 (b0 b1 b2 b3 : UInt8) (x : Int) : CodeF P0 0 (cL q4) (f1 [b0, b1, b2, b3]) (w1 x) (.norm, mkFr 42 [(3, .ptr 0 0)], w1 (takeI x [b0, b1, b2, b3])) :=
  CodeF.sym (d := 10) (N := loopN) (ts := [3]) (ids := [0]) (vs := [.ptr 0 0]) (os := [⟨1, [.int .u64 (takeI x [b0, b1, b2, b3])], 312, 0, true⟩]) ext00 mixed (by kernel_rfl) (by kernel_rfl) (by kernel_rfl) (by kernel_rfl) (by kernel_rfl) (by kernel_rfl) 
theorem sum_ex5 (b0 b1 b2 b3 b4 : UInt8) (x : Int) : CodeF P0 0 lb1 (f1 [b0, b1, b2, b3, b4]) (w1 x) (.jump (.exit 0), f1 [b0, b1, b2, b3, b4], w1 x) :=
  CodeF.sym (d := 10) (N := loopN) (ts := [0, 3, 4]) (ids := [0]) (vs := [.str [b0, b1, b2, b3, b4], .ptr 0 0, .func 172 [] [.ptr 0 0]]) (os := [⟨1, [.int .u64 x], 312, 0, true⟩]) ext00 mixed (by kernel_rfl) (by kernel_rfl) (by kernel_rfl) (by kernel_rfl) (by kernel_rfl) (by kernel_rfl) 
theorem sum_la5 (b0 b1 b2 b3 b4 : UInt8) (x : Int) : CodeF P0 0 (cL q4) (f1 [b0, b1, b2, b3, b4]) (w1 x) (.norm, mkFr 42 [(3, .ptr 0 0)], w1 (takeI x [b0, b1, b2, b3, b4])) :=
  CodeF.sym (d := 10) (N := loopN) (ts := [3]) (ids := [0]) (vs := [.ptr 0 0]) (os := [⟨1, [.int .u64 (takeI x [b0, b1, b2, b3, b4])], 312, 0, true⟩]) ext00 mixed (by kernel_rfl) (by kernel_rfl) (by kernel_rfl) (by kernel_rfl) (by kernel_rfl) (by kernel_rfl) 
theorem sum_ex6 (b0 b1 b2 b3 b4 b5 : UInt8) (x : Int) : CodeF P0 0 lb1 (f1 [b0, b1, b2, b3, b4, b5]) (w1 x) (.jump (.exit 0), f1 [b0, b1, b2, b3, b4, b5], w1 x) :=
  CodeF.sym (d := 10) (N := loopN) (ts := [0, 3, 4]) (ids := [0]) (vs := [.str [b0, b1, b2, b3, b4, b5], .ptr 0 0, .func 172 [] [.ptr 0 0]]) (os := [⟨1, [.int .u64 x], 312, 0, true⟩]) ext00 mixed (by kernel_rfl) (by kernel_rfl) (by kernel_rfl) (by kernel_rfl) (by kernel_rfl) (by kernel_rfl) 
theorem sum_la6 (b0 b1 b2 b3 b4 b5 : UInt8) (x : Int) : CodeF P0 0 (cL q4) (f1 [b0, b1, b2, b3, b4, b5]) (w1 x) (.norm, mkFr 42 [(3, .ptr 0 0)], w1 (takeI x [b0, b1, b2, b3, b4, b5])) :=
  CodeF.sym (d := 10) (N := loopN) (ts := [3]) (ids := [0]) (vs := [.ptr 0 0]) (os := [⟨1, [.int .u64 (takeI x [b0, b1, b2, b3, b4, b5])], 312, 0, true⟩]) ext00 mixed (by kernel_rfl) (by kernel_rfl) (by kernel_rfl) (by kernel_rfl) (by kernel_rfl) (by kernel_rfl) 
theorem sum_ex7 (b0 b1 b2 b3 b4 b5 b6 : UInt8) (x : Int) : CodeF P0 0 lb1 (f1 [b0, b1, b2, b3, b4, b5, b6]) (w1 x) (.jump (.exit 0), f1 [b0, b1, b2, b3, b4, b5, b6], w1 x) :=
  CodeF.sym (d := 10) (N := loopN) (ts := [0, 3, 4]) (ids := [0]) (vs := [.str [b0, b1, b2, b3, b4, b5, b6], .ptr 0 0, .func 172 [] [.ptr 0 0]]) (os := [⟨1, [.int .u64 x], 312, 0, true⟩]) ext00 mixed (by kernel_rfl) (by kernel_rfl) (by kernel_rfl) (by kernel_rfl) (by kernel_rfl) (by kernel_rfl) 
theorem sum_la7 (b0 b1 b2 b3 b4 b5 b6 : UInt8) (x : Int) : CodeF P0 0 (cL q4) (f1 [b0, b1, b2, b3, b4, b5, b6]) (w1 x) (.norm, mkFr 42 [(3, .ptr 0 0)], w1 (takeI x [b0, b1, b2, b3, b4, b5, b6])) :=
  CodeF.sym (d := 10) (N := loopN) (ts := [3]) (ids := [0]) (vs := [.ptr 0 0]) (os := [⟨1, [.int .u64 (takeI x [b0, b1, b2, b3, b4, b5, b6])], 312, 0, true⟩]) ext00 mixed (by kernel_rfl) (by kernel_rfl) (by kernel_rfl) (by kernel_rfl) (by kernel_rfl) (by kernel_rfl) 

/-- The digits. -/
noncomputable def dgs : List AV := [.int .u8 48, .int .u8 49, .int .u8 50, .int .u8 51, .int .u8 52, .int .u8 53, .int .u8 54, .int .u8 55, .int .u8 56, .int .u8 57, .int .u8 97, .int .u8 98, .int .u8 99, .int .u8 100, .int .u8 101, .int .u8 102]
noncomputable def f2 : Fr := mkFr 42 [(3, .ptr 0 0), (5, .ptr 1 0)]
noncomputable def w2 (x : Int) : AW := mkW [⟨1, [.int .u64 x], 312, 0, true⟩, ⟨16, dgs, 315, 0, true⟩]
/-- The frame and the heap at round i: what has been written so far. -/
noncomputable def f3 (i : Nat) : Fr := mkFr 42 [(3, .ptr 0 0), (5, .ptr 1 0), (6, .ptr 2 0), (26, .int .i64 i)]
noncomputable def out (l : List UInt8) : List AV := l.map (fun b => .int .u8 b.toNat) ++ List.replicate (16 - l.length) (.int .u8 0)
noncomputable def w3 (x : Int) (l : List UInt8) : AW := mkW [⟨1, [.int .u64 x], 312, 0, true⟩, ⟨16, dgs, 315, 0, true⟩, ⟨16, out l, 315, 0, true⟩]

theorem sum_r7 (x : Int) : CodeF P0 0 (cL q5) (mkFr 42 [(3, .ptr 0 0)]) (w1 x) (.norm, f2, w2 x) :=
  CodeF.sym (d := 10) (N := loopN) (ts := [3, 5]) (ids := [0, 3]) (vs := [.ptr 0 0, .ptr 1 0]) (os := [⟨1, [.int .u64 x], 312, 0, true⟩, ⟨16, dgs, 315, 0, true⟩]) ext00 mixed (by kernel_rfl) (by kernel_rfl) (by kernel_rfl) (by kernel_rfl) (by kernel_rfl) (by kernel_rfl)
theorem sum_r8 (x : Int) : CodeF P0 0 (cL q6) f2 (w2 x) (.norm, mkFr 42 [(3, .ptr 0 0), (5, .ptr 1 0), (6, .ptr 2 0)], w3 x []) :=
  CodeF.sym (d := 10) (N := loopN) (ts := [3, 5, 6]) (ids := [0, 1, 2]) (vs := [.ptr 0 0, .ptr 1 0, .ptr 2 0]) (os := [⟨1, [.int .u64 x], 312, 0, true⟩, ⟨16, dgs, 315, 0, true⟩, ⟨16, out [], 315, 0, true⟩]) ext00 mixed (by kernel_rfl) (by kernel_rfl) (by kernel_rfl) (by kernel_rfl) (by kernel_rfl) (by kernel_rfl)
noncomputable def l2 : Code := cL q7
noncomputable def lb2 : Code := cB (cB (cR l2))
noncomputable def lc2 : Code := cR (cR lb2)
theorem sum_shape2 : l2 = .seq (cL l2) (.block 2 (.loop lb2)) := by kernel_rfl
theorem sum_r9 (x : Int) : CodeF P0 0 (cL l2) (mkFr 42 [(3, .ptr 0 0), (5, .ptr 1 0), (6, .ptr 2 0)]) (w3 x []) (.norm, f3 0, w3 x []) :=
  CodeF.sym (d := 10) (N := loopN) (ts := [3, 5, 6, 26]) (ids := [0, 1, 2]) (vs := [.ptr 0 0, .ptr 1 0, .ptr 2 0, .int .i64 0]) (os := [⟨1, [.int .u64 x], 312, 0, true⟩, ⟨16, dgs, 315, 0, true⟩, ⟨16, out [], 315, 0, true⟩]) ext00 mixed (by kernel_rfl) (by kernel_rfl) (by kernel_rfl) (by kernel_rfl) (by kernel_rfl) (by kernel_rfl)

end
end Pe

namespace Pe
open Go
set_option linter.unusedSectionVars false
noncomputable section
variable [Globs]
set_option maxRecDepth 100000
noncomputable def hexN (d : Nat) : Int := Bool.rec (motive := fun _ => Int) (.ofNat (Nat.add 87 d)) (.ofNat (Nat.add 48 d)) (Nat.blt d 10)
noncomputable def zI (zs : List Int) : List AV := List.rec (motive := fun _ => List AV) [] (fun n _ ih => .int .u8 n :: ih) zs
noncomputable def setI (zs : List Int) (i : Nat) (v : Int) : List Int := List.rec (motive := fun _ => Nat → List Int) (fun _ => []) (fun n ns ih i => Nat.rec (motive := fun _ => List Int) (v :: ns) (fun m _ => n :: ih m) i) zs i
noncomputable def vx (x : Int) : VO := ⟨1, [.int .u64 x], 312, 0, true⟩
noncomputable def vd : VO := ⟨16, dgs, 315, 0, true⟩
noncomputable def vz (zs : List Int) : VO := ⟨16, zI zs, 315, 0, true⟩
noncomputable def w4 (x : Int) (zs : List Int) : AW := mkW [vx x, vd, vz zs]
theorem len16 {zs : List Int} (h : zs.length = 16) : ∃ n0 n1 n2 n3 n4 n5 n6 n7 n8 n9 n10 n11 n12 n13 n14 n15, zs = [n0, n1, n2, n3, n4, n5, n6, n7, n8, n9, n10, n11, n12, n13, n14, n15] := by
  match zs, h with
  | [n0, n1, n2, n3, n4, n5, n6, n7, n8, n9, n10, n11, n12, n13, n14, n15], _ => exact ⟨n0, n1, n2, n3, n4, n5, n6, n7, n8, n9, n10, n11, n12, n13, n14, n15, rfl⟩
noncomputable def f4 (i : Nat) : Fr := mkFr 42 [(3, .ptr 0 0), (5, .ptr 1 0), (6, .ptr 2 0), (26, .int .i64 i), (27, .bool true)]
noncomputable def f5 (i : Nat) : Fr := mkFr 42 [(3, .ptr 0 0), (5, .ptr 1 0), (6, .ptr 2 0), (26, .int .i64 i), (7, .int .i64 i)]
noncomputable def f6 (i : Nat) (y : Int) : Fr := mkFr 42 [(5, .ptr 1 0), (6, .ptr 2 0), (3, .ptr 0 0), (26, .int .i64 i), (29, .int .i64 i), (35, .int .u64 y)]
noncomputable def B3 : Code := cB (cL lc2)
noncomputable def O12 : Array Oper := cO (cR B3)
theorem sum_shape3 : lb2 = .seq (cL lb2) (.seq (.cond (.tmp 27) .skip (.exit 2)) (.seq (.block 3 (.seq (cL B3) (.region 12 O12 false))) (cR lc2))) := by kernel_rfl
theorem O12_size : O12.size = 11 := by kernel_rfl
theorem sum_a (x : Int) (zs : List Int) (hz : zs.length = 16) (i : Nat) (hi : i < 16) : CodeF P0 0 (cL lb2) (f3 i) (w4 x zs) (.norm, f4 i, w4 x zs) := by
  obtain ⟨n0, n1, n2, n3, n4, n5, n6, n7, n8, n9, n10, n11, n12, n13, n14, n15, rfl⟩ := len16 hz
  rcases below16 hi with rfl | rfl | rfl | rfl | rfl | rfl | rfl | rfl | rfl | rfl | rfl | rfl | rfl | rfl | rfl | rfl <;> exact CodeF.sym (d := 10) (N := loopN) (ts := [3, 5, 6, 26, 27]) (ids := [0, 1, 2]) (vs := [.ptr 0 0, .ptr 1 0, .ptr 2 0, .int .i64 _, .bool true]) (os := [vx x, vd, vz [n0, n1, n2, n3, n4, n5, n6, n7, n8, n9, n10, n11, n12, n13, n14, n15]]) ext00 mixed (by kernel_rfl) (by kernel_rfl) (by kernel_rfl) (by kernel_rfl) (by kernel_rfl) (by kernel_rfl)
theorem sum_c (x : Int) (zs : List Int) (hz : zs.length = 16) (i : Nat) (hi : i < 16) : CodeF P0 0 (cL B3) (f4 i) (w4 x zs) (.norm, f5 i, w4 x zs) := by
  obtain ⟨n0, n1, n2, n3, n4, n5, n6, n7, n8, n9, n10, n11, n12, n13, n14, n15, rfl⟩ := len16 hz
  rcases below16 hi with rfl | rfl | rfl | rfl | rfl | rfl | rfl | rfl | rfl | rfl | rfl | rfl | rfl | rfl | rfl | rfl <;> exact CodeF.sym (d := 10) (N := loopN) (ts := [3, 5, 6, 26, 7]) (ids := [0, 1, 2]) (vs := [.ptr 0 0, .ptr 1 0, .ptr 2 0, .int .i64 _, .int .i64 _]) (os := [vx x, vd, vz [n0, n1, n2, n3, n4, n5, n6, n7, n8, n9, n10, n11, n12, n13, n14, n15]]) ext00 mixed (by kernel_rfl) (by kernel_rfl) (by kernel_rfl) (by kernel_rfl) (by kernel_rfl) (by kernel_rfl)
theorem sum_d (x : Int) (zs : List Int) (hz : zs.length = 16) (i : Nat) (hi : i < 16) {fr' : Fr} {σ' : AW} (h : OpsF P0 0 O12 7 (f6 i (nibI x i)) (w4 x zs) fr' σ') : OpsF P0 0 O12 0 (f5 i) (w4 x zs) fr' σ' := by
  obtain ⟨n0, n1, n2, n3, n4, n5, n6, n7, n8, n9, n10, n11, n12, n13, n14, n15, rfl⟩ := len16 hz
  rcases below16 hi with rfl | rfl | rfl | rfl | rfl | rfl | rfl | rfl | rfl | rfl | rfl | rfl | rfl | rfl | rfl | rfl <;> exact OpsF.sym (P := P0) (k := 0) (ops := O12) (j := 0) (fr' := fr') (σ' := σ') (d := 10) (m := 7) (ts := [5, 6, 3, 26, 29, 35]) (ids := [0, 1, 2]) (vs := [.ptr 1 0, .ptr 2 0, .ptr 0 0, .int .i64 _, .int .i64 _, .int .u64 (nibI x _)]) (os := [vx x, vd, vz [n0, n1, n2, n3, n4, n5, n6, n7, n8, n9, n10, n11, n12, n13, n14, n15]]) ext00 mixed (by kernel_rfl) (by kernel_rfl) (by kernel_rfl) (by kernel_rfl) (by kernel_rfl) (by kernel_rfl) (by kernel_rfl) h
theorem sum_e (x : Int) (zs : List Int) (hz : zs.length = 16) (i : Nat) (hi : i < 16) (d : Nat) (hd : d < 16) : OpsF P0 0 O12 7 (f6 i d) (w4 x zs) (mkFr 42 [(3, .ptr 0 0), (5, .ptr 1 0), (6, .ptr 2 0), (26, .int .i64 i)]) (w4 x (setI zs i (hexN d))) := by
  obtain ⟨n0, n1, n2, n3, n4, n5, n6, n7, n8, n9, n10, n11, n12, n13, n14, n15, rfl⟩ := len16 hz
  have h11 : ∀ fr σ, OpsF P0 0 O12 11 fr σ fr σ := fun fr σ => @OpsF.done' _ P0 0 O12 11 fr σ O12_size
  rcases below16 hi with rfl | rfl | rfl | rfl | rfl | rfl | rfl | rfl | rfl | rfl | rfl | rfl | rfl | rfl | rfl | rfl <;> rcases below16 hd with rfl | rfl | rfl | rfl | rfl | rfl | rfl | rfl | rfl | rfl | rfl | rfl | rfl | rfl | rfl | rfl <;> exact OpsF.sym (P := P0) (k := 0) (ops := O12) (j := 7) (d := 10) (m := 4) (ts := [3, 5, 6, 26]) (ids := [0, 1, 2]) (vs := [.ptr 0 0, .ptr 1 0, .ptr 2 0, .int .i64 _]) (os := [vx x, vd, vz (setI [n0, n1, n2, n3, n4, n5, n6, n7, n8, n9, n10, n11, n12, n13, n14, n15] _ (hexN _))]) ext00 mixed (by kernel_rfl) (by kernel_rfl) (by kernel_rfl) (by kernel_rfl) (by kernel_rfl) (by kernel_rfl) (by kernel_rfl) (h11 _ _)
theorem sum_f (x : Int) (zs : List Int) (hz : zs.length = 16) (i : Nat) (hi : i < 16) : CodeF P0 0 (cR lc2) (mkFr 42 [(3, .ptr 0 0), (5, .ptr 1 0), (6, .ptr 2 0), (26, .int .i64 i)]) (w4 x zs) (.norm, f3 (i + 1), w4 x zs) := by
  obtain ⟨n0, n1, n2, n3, n4, n5, n6, n7, n8, n9, n10, n11, n12, n13, n14, n15, rfl⟩ := len16 hz
  rcases below16 hi with rfl | rfl | rfl | rfl | rfl | rfl | rfl | rfl | rfl | rfl | rfl | rfl | rfl | rfl | rfl | rfl <;> exact CodeF.sym (d := 10) (N := loopN) (ts := [3, 5, 6, 26]) (ids := [0, 1, 2]) (vs := [.ptr 0 0, .ptr 1 0, .ptr 2 0, .int .i64 _]) (os := [vx x, vd, vz [n0, n1, n2, n3, n4, n5, n6, n7, n8, n9, n10, n11, n12, n13, n14, n15]]) ext00 mixed (by kernel_rfl) (by kernel_rfl) (by kernel_rfl) (by kernel_rfl) (by kernel_rfl) (by kernel_rfl)
theorem sum_xa (x : Int) (zs : List Int) (hz : zs.length = 16) : CodeF P0 0 (cL lb2) (f3 16) (w4 x zs) (.norm, mkFr 42 [(3, .ptr 0 0), (5, .ptr 1 0), (6, .ptr 2 0), (26, .int .i64 16), (27, .bool false)], w4 x zs) := by
  obtain ⟨n0, n1, n2, n3, n4, n5, n6, n7, n8, n9, n10, n11, n12, n13, n14, n15, rfl⟩ := len16 hz
  exact CodeF.sym (d := 10) (N := loopN) (ts := [3, 5, 6, 26, 27]) (ids := [0, 1, 2]) (vs := [.ptr 0 0, .ptr 1 0, .ptr 2 0, .int .i64 16, .bool false]) (os := [vx x, vd, vz [n0, n1, n2, n3, n4, n5, n6, n7, n8, n9, n10, n11, n12, n13, n14, n15]]) ext00 mixed (by kernel_rfl) (by kernel_rfl) (by kernel_rfl) (by kernel_rfl) (by kernel_rfl) (by kernel_rfl)
theorem sum_xb (x : Int) (zs : List Int) (hz : zs.length = 16) : CodeF P0 0 (cL (cR lb2)) (mkFr 42 [(3, .ptr 0 0), (5, .ptr 1 0), (6, .ptr 2 0), (26, .int .i64 16), (27, .bool false)]) (w4 x zs) (.jump (.exit 2), f3 16, w4 x zs) := by
  obtain ⟨n0, n1, n2, n3, n4, n5, n6, n7, n8, n9, n10, n11, n12, n13, n14, n15, rfl⟩ := len16 hz
  exact CodeF.sym (d := 10) (N := loopN) (ts := [3, 5, 6, 26]) (ids := [0, 1, 2]) (vs := [.ptr 0 0, .ptr 1 0, .ptr 2 0, .int .i64 16]) (os := [vx x, vd, vz [n0, n1, n2, n3, n4, n5, n6, n7, n8, n9, n10, n11, n12, n13, n14, n15]]) ext00 mixed (by kernel_rfl) (by kernel_rfl) (by kernel_rfl) (by kernel_rfl) (by kernel_rfl) (by kernel_rfl)
theorem sum_x0 (x : Int) (zs : List Int) (hz : zs.length = 16) : CodeF P0 0 (.seq (cL lb2) (.seq (cL (cR lb2)) (cR (cR lb2)))) (f3 16) (w4 x zs) (.jump (.exit 2), f3 16, w4 x zs) := .seq (sum_xa x zs hz) (.seqJ (sum_xb x zs hz))
end
end Pe

/- digest.Sum: what it returns for every text. -/
namespace Pe
open Go
set_option linter.unusedSectionVars false
noncomputable section
variable [Globs]
set_option maxRecDepth 100000
noncomputable def lastI : List UInt8 → List UInt8
  | _ :: _ :: _ :: _ :: _ :: _ :: _ :: _ :: s => lastI s
  | l => l
noncomputable def accI : List UInt8 → Int → Int
  | b0 :: b1 :: b2 :: b3 :: b4 :: b5 :: b6 :: b7 :: s, x => accI s (takeI x [b0, b1, b2, b3, b4, b5, b6, b7])
  | _, x => x
theorem sum_rounds : ∀ (n : Nat) (s : List UInt8) (x : Int), s.length ≤ n → RoundsF P0 0 lb1 (n + 1) (f1 s) (w1 x) (.jump (.exit 0), f1 (lastI s), w1 (accI s x))
  | _, [], x, _ => RoundsF.last (sum_ex0 x)
  | _, [b0], x, _ => RoundsF.last (sum_ex1 b0 x)
  | _, [b0, b1], x, _ => RoundsF.last (sum_ex2 b0 b1 x)
  | _, [b0, b1, b2], x, _ => RoundsF.last (sum_ex3 b0 b1 b2 x)
  | _, [b0, b1, b2, b3], x, _ => RoundsF.last (sum_ex4 b0 b1 b2 b3 x)
  | _, [b0, b1, b2, b3, b4], x, _ => RoundsF.last (sum_ex5 b0 b1 b2 b3 b4 x)
  | _, [b0, b1, b2, b3, b4, b5], x, _ => RoundsF.last (sum_ex6 b0 b1 b2 b3 b4 b5 x)
  | _, [b0, b1, b2, b3, b4, b5, b6], x, _ => RoundsF.last (sum_ex7 b0 b1 b2 b3 b4 b5 b6 x)
  | 0, b0 :: b1 :: b2 :: b3 :: b4 :: b5 :: b6 :: b7 :: s, x, h => by simp at h
  | n + 1, b0 :: b1 :: b2 :: b3 :: b4 :: b5 :: b6 :: b7 :: s, x, h => by
    have ih := sum_rounds n s (takeI x [b0, b1, b2, b3, b4, b5, b6, b7]) (by simp only [List.length_cons] at h; omega)
    exact RoundsF.next (sum_it b0 b1 b2 b3 b4 b5 b6 b7 s x) ih
theorem lastI_lt : ∀ (s : List UInt8), (lastI s).length < 8
  | [] => by decide
  | [b0] => by show 1 < 8; decide
  | [b0, b1] => by show 2 < 8; decide
  | [b0, b1, b2] => by show 3 < 8; decide
  | [b0, b1, b2, b3] => by show 4 < 8; decide
  | [b0, b1, b2, b3, b4] => by show 5 < 8; decide
  | [b0, b1, b2, b3, b4, b5] => by show 6 < 8; decide
  | [b0, b1, b2, b3, b4, b5, b6] => by show 7 < 8; decide
  | b0 :: b1 :: b2 :: b3 :: b4 :: b5 :: b6 :: b7 :: s => lastI_lt s
theorem sum_last (x : Int) : ∀ (l : List UInt8), l.length < 8 → CodeF P0 0 (cL q4) (f1 l) (w1 x) (.norm, mkFr 42 [(3, .ptr 0 0)], w1 (takeI x l))
  | [], _ => sum_la0 x
  | [b0], _ => sum_la1 b0 x
  | [b0, b1], _ => sum_la2 b0 b1 x
  | [b0, b1, b2], _ => sum_la3 b0 b1 b2 x
  | [b0, b1, b2, b3], _ => sum_la4 b0 b1 b2 b3 x
  | [b0, b1, b2, b3, b4], _ => sum_la5 b0 b1 b2 b3 b4 x
  | [b0, b1, b2, b3, b4, b5], _ => sum_la6 b0 b1 b2 b3 b4 b5 x
  | [b0, b1, b2, b3, b4, b5, b6], _ => sum_la7 b0 b1 b2 b3 b4 b5 b6 x
  | b0 :: b1 :: b2 :: b3 :: b4 :: b5 :: b6 :: b7 :: s, h => by simp only [List.length_cons] at h; omega
noncomputable def stateI (s : List UInt8) : Int := takeI (accI s (initI s)) (lastI s)

/-! ### The digits of the state -/
noncomputable def nibN (x : Int) (i : Nat) : Nat := (nibI x i).toNat
theorem wrap_nat {m : Nat} (h : m < 2 ^ 64) : IntKind.wrap .u64 (m : Int) = m := by
  unfold IntKind.wrap
  have h1 : IntKind.u64.signed = false := rfl
  have h2 : IntKind.u64.bits = 64 := rfl
  simp only [h1, h2, Bool.false_and, Bool.false_eq_true, if_false]
  have : ((m : Int) % (2 ^ 64 : Int)) = m := Int.emod_eq_of_lt (Int.natCast_nonneg m) (by exact_mod_cast h)
  exact this
theorem nibI_eq (x : Int) (i : Nat) : nibI x i = (nibN x i : Nat) ∧ nibN x i < 16 := by
  have hb : (BitVec.ofInt 64 (x.fdiv (2 ^ (60 - 4 * i))) &&& BitVec.ofInt 64 15).toNat < 16 := by
    rw [BitVec.toNat_and]
    have : (BitVec.ofInt 64 15).toNat = 15 := by decide
    rw [this]
    exact Nat.lt_succ_of_le Nat.and_le_right
  have hw : nibI x i = ((BitVec.ofInt 64 (x.fdiv (2 ^ (60 - 4 * i))) &&& BitVec.ofInt 64 15).toNat : Nat) := wrap_nat (by omega)
  unfold nibN
  rw [hw]
  exact ⟨by simp, by simpa using hb⟩
theorem setI_length : ∀ (zs : List Int) (i : Nat) (v : Int), (setI zs i v).length = zs.length
  | [], _, _ => rfl
  | n :: ns, 0, v => rfl
  | n :: ns, i + 1, v => by
    show (n :: setI ns i v).length = _
    simp [setI_length ns i v]
/-- So many digits are to be written yet. -/
noncomputable def fillI (x : Int) (k : Nat) : List Int → List Int := Nat.rec (motive := fun _ => List Int → List Int) (fun zs => zs) (fun k ih zs => ih (setI zs (15 - k) (hexN (nibN x (15 - k))))) k
theorem sum_round (x : Int) (zs : List Int) (hz : zs.length = 16) (i : Nat) (hi : i < 16) : CodeF P0 0 lb2 (f3 i) (w4 x zs) (.norm, f3 (i + 1), w4 x (setI zs i (hexN (nibN x i)))) := by
  rw [sum_shape3]
  refine .seq (sum_a x zs hz i hi) (.seq (.cond (t := true) (by kernel_rfl) CodeF.skip) (.seq (.block (.seq (sum_c x zs hz i hi) (.region ?_))) (sum_f x _ (by rw [setI_length, hz]) i hi)))
  refine sum_d x zs hz i hi ?_
  obtain ⟨h1, h2⟩ := nibI_eq x i
  rw [h1]
  exact sum_e x zs hz i hi _ h2
theorem sum_rounds2 (x : Int) : ∀ (k : Nat) (zs : List Int), k ≤ 16 → zs.length = 16 → RoundsF P0 0 lb2 (k + 1) (f3 (16 - k)) (w4 x zs) (.jump (.exit 2), f3 16, w4 x (fillI x k zs))
  | 0, zs, _, hz => by
    refine RoundsF.last ?_
    have hs : lb2 = .seq (cL lb2) (.seq (cL (cR lb2)) (cR (cR lb2))) := by kernel_rfl
    rw [hs]
    exact sum_x0 x zs hz
  | k + 1, zs, hk, hz => by
    have h := sum_round x zs hz (15 - k) (by omega)
    have ih := sum_rounds2 x k (setI zs (15 - k) (hexN (nibN x (15 - k)))) (by omega) (by rw [setI_length, hz])
    rw [show 15 - k + 1 = 16 - k by omega] at h
    rw [show 16 - (k + 1) = 15 - k by omega]
    exact RoundsF.next h ih
noncomputable def strI (zs : List Int) : List UInt8 := List.rec (motive := fun _ => List UInt8) [] (fun n _ ih => UInt8.ofNat n.toNat :: ih) zs
theorem sum_r14 (x : Int) (zs : List Int) (hz : zs.length = 16) : CodeF P0 0 q8 (f3 16) (w4 x zs) (.jump .ret, mkFr 42 [(2, .str (strI zs))], w1 x) := by
  obtain ⟨n0, n1, n2, n3, n4, n5, n6, n7, n8, n9, n10, n11, n12, n13, n14, n15, rfl⟩ := len16 hz
  exact CodeF.sym (d := 10) (N := loopN) (ts := [2]) (ids := [0]) (vs := [.str (strI [n0, n1, n2, n3, n4, n5, n6, n7, n8, n9, n10, n11, n12, n13, n14, n15])]) (os := [vx x]) ext00 mixed (by kernel_rfl) (by kernel_rfl) (by kernel_rfl) (by kernel_rfl) (by kernel_rfl) (by kernel_rfl)
noncomputable def zeros16 : List Int := [0, 0, 0, 0, 0, 0, 0, 0, 0, 0, 0, 0, 0, 0, 0, 0]
/-- What digest.Sum returns. -/
noncomputable def sumI (s : List UInt8) : List UInt8 := strI (fillI (stateI s) 16 zeros16)
theorem fillI_length (x : Int) : ∀ (k : Nat) (zs : List Int), (fillI x k zs).length = zs.length
  | 0, _ => rfl
  | k + 1, zs => by
    show (fillI x k (setI zs (15 - k) (hexN (nibN x (15 - k))))).length = _
    rw [fillI_length x k, setI_length]
theorem sum_code (s : List UInt8) : CodeF P0 0 q0 (f0 s) (mkW []) (.jump .ret, mkFr 42 [(2, .str (sumI s))], w1 (stateI s)) := by
  rw [sum_shape]
  refine .seq (sum_r0 s) (.seq (sum_r1 s) (.seq (sum_r2 s _) (.seq (.blockX (.loop (sum_rounds _ s _ (Nat.le_refl _)))) (.seq (sum_last _ _ (lastI_lt s)) (.seq (sum_r7 _) (.seq (sum_r8 _) (.seq ?_ (sum_r14 _ _ (by rw [fillI_length]; rfl)))))))))
  show CodeF P0 0 l2 _ _ _
  rw [sum_shape2]
  exact .seq (sum_r9 _) (.blockX (.loop (sum_rounds2 (stateI s) 16 zeros16 (Nat.le_refl _) rfl)))
noncomputable def funAt (f : Nat) : Func := match P0.funcs[f]? with | some fn => fn | none => default
theorem sum_fun (s : List UInt8) : FunF P0 0 102 [.str s] (mkW []) (.str (sumI s)) (w1 (stateI s)) :=
  FunF.body (fn := funAt 102) (c := q0) (vs := [.str (sumI s)]) (by kernel_rfl) (by kernel_rfl) (by kernel_rfl) (by
    have : frame0 (funAt 102) [.str s] = f0 s := by kernel_rfl
    rw [this]
    exact sum_code s) (.inr rfl) rfl (by kernel_rfl)
end
end Pe

/- digest.Sum, quickly: the same in numbers without a sign. -/
namespace Pe
open Go
set_option linter.unusedSectionVars false
noncomputable section
variable [Globs]
set_option maxRecDepth 100000
noncomputable def mixK (x : Nat) : Nat :=
  forceNat (Nat.mod (Nat.mul x 6364136223846793005) 18446744073709551616) fun x =>
  forceNat (Nat.xor x (Nat.shiftRight x 31)) fun x =>
  forceNat (Nat.mod (Nat.mul x 3202034522624059733) 18446744073709551616) fun x =>
  Nat.xor x (Nat.shiftRight x 30)
noncomputable def goK (s : List UInt8) : Nat → Nat → Nat → Nat :=
  List.rec (motive := fun _ => Nat → Nat → Nat → Nat)
    (fun c a st => mixK (Nat.xor st (Nat.shiftLeft a (Nat.mul 8 (Nat.sub 8 c)))))
    (fun b _ ih c a st => forceNat (Nat.add (Nat.mul a 256) b.toNat) fun a =>
      Bool.rec (motive := fun _ => Nat) (forceNat (Nat.succ c) fun c => ih c a st) (forceNat (mixK (Nat.xor st a)) fun st => ih 0 0 st) (Nat.beq c 7)) s
noncomputable def hexK (n : Nat) : UInt8 := UInt8.ofNat (Bool.rec (motive := fun _ => Nat) (Nat.add 87 n) (Nat.add 48 n) (Nat.blt n 10))
noncomputable def sumK (s : List UInt8) : List UInt8 :=
  forceNat (goK s 0 0 (Nat.xor 1442695040888963407 (Nat.mod (lenF s) 18446744073709551616))) fun st =>
  List.rec (motive := fun _ => List UInt8) [] (fun i _ ih => forceNat (Nat.land (Nat.shiftRight st i) 15) fun n => hexK n :: ih) [60, 56, 52, 48, 44, 40, 36, 32, 28, 24, 20, 16, 12, 8, 4, 0]

theorem wrap_mod (m : Nat) : IntKind.wrap .u64 (m : Int) = (m % 2 ^ 64 : Nat) := by
  unfold IntKind.wrap
  have h1 : IntKind.u64.signed = false := rfl
  have h2 : IntKind.u64.bits = 64 := rfl
  simp only [h1, h2, Bool.false_and, Bool.false_eq_true, if_false]
  show ((m : Int) % (2 ^ 64 : Int)) = _
  norm_cast
theorem ofInt_nat (m : Nat) : (BitVec.ofInt 64 (m : Int)).toNat = m % 2 ^ 64 := by
  simp [BitVec.ofInt_natCast]
theorem xorI_nat {a b : Nat} (ha : a < 2 ^ 64) (hb : b < 2 ^ 64) : xorI a b = (Nat.xor a b : Nat) ∧ Nat.xor a b < 2 ^ 64 := by
  have hlt : a ^^^ b < 2 ^ 64 := Nat.xor_lt_two_pow ha hb
  unfold xorI
  rw [BitVec.toNat_xor, ofInt_nat, ofInt_nat, Nat.mod_eq_of_lt ha, Nat.mod_eq_of_lt hb, wrap_mod, Nat.mod_eq_of_lt hlt]
  exact ⟨rfl, hlt⟩
theorem stepI_nat {n : Nat} (b : UInt8) (hn : n * 256 + b.toNat < 2 ^ 64) : stepI n b = (n * 256 + b.toNat : Nat) := by
  have hb : b.toNat < 2 ^ 8 := b.toNat_lt
  unfold stepI
  have e1 : ((n : Int) * 256) = ((n * 256 : Nat) : Int) := by push_cast; rfl
  rw [e1, wrap_mod (n * 256), wrap_mod b.toNat, Nat.mod_eq_of_lt (a := n * 256) (by omega), Nat.mod_eq_of_lt (a := b.toNat) (by omega), BitVec.toNat_or, ofInt_nat, ofInt_nat, Nat.mod_eq_of_lt (a := n * 256) (by omega), Nat.mod_eq_of_lt (a := b.toNat) (by omega)]
  have e2 : n * 256 ||| b.toNat = n * 256 + b.toNat := by
    have := Nat.shiftLeft_add_eq_or_of_lt hb n
    have h8 : (2 : Nat) ^ 8 = 256 := rfl
    rw [Nat.shiftLeft_eq, h8] at this
    exact this.symm
  rw [e2, wrap_mod, Nat.mod_eq_of_lt hn]
theorem mixI_nat {x : Nat} (_hx : x < 2 ^ 64) : mixI x = (mixK x : Nat) ∧ mixK x < 2 ^ 64 := by
  unfold mixI mixK
  simp only [forceNat_eq]
  have e1 : ((x : Int) * 6364136223846793005) = ((x * 6364136223846793005 : Nat) : Int) := (Int.natCast_mul x 6364136223846793005).symm
  rw [e1, wrap_mod]
  generalize hy : x * 6364136223846793005 % 2 ^ 64 = y
  have hy' : Nat.mod (Nat.mul x 6364136223846793005) 18446744073709551616 = y := hy
  rw [hy']
  have hylt : y < 2 ^ 64 := by rw [← hy]; exact Nat.mod_lt _ (by decide)
  have e2 : ((y : Int).fdiv (2 ^ 31)) = ((Nat.shiftRight y 31 : Nat) : Int) := by
    show Int.fdiv (y : Int) ((2 ^ 31 : Nat) : Int) = ((y >>> 31 : Nat) : Int)
    rw [Nat.shiftRight_eq_div_pow, Int.fdiv_eq_ediv_of_nonneg _ (Int.natCast_nonneg _)]
    norm_cast
  have l1 : Nat.shiftRight y 31 < 2 ^ 64 := by
    show y >>> 31 < 2 ^ 64
    rw [Nat.shiftRight_eq_div_pow]; exact Nat.lt_of_le_of_lt (Nat.div_le_self _ _) hylt
  obtain ⟨e3, l2⟩ := xorI_nat hylt l1
  rw [e2, e3]
  generalize Nat.xor y (Nat.shiftRight y 31) = z at l2
  have e4 : ((z : Int) * 3202034522624059733) = ((z * 3202034522624059733 : Nat) : Int) := (Int.natCast_mul z 3202034522624059733).symm
  rw [e4, wrap_mod]
  generalize hu : z * 3202034522624059733 % 2 ^ 64 = u
  have hu' : Nat.mod (Nat.mul z 3202034522624059733) 18446744073709551616 = u := hu
  rw [hu']
  have hult : u < 2 ^ 64 := by rw [← hu]; exact Nat.mod_lt _ (by decide)
  have e5 : ((u : Int).fdiv (2 ^ 30)) = ((Nat.shiftRight u 30 : Nat) : Int) := by
    show Int.fdiv (u : Int) ((2 ^ 30 : Nat) : Int) = ((u >>> 30 : Nat) : Int)
    rw [Nat.shiftRight_eq_div_pow, Int.fdiv_eq_ediv_of_nonneg _ (Int.natCast_nonneg _)]
    norm_cast
  have l3 : Nat.shiftRight u 30 < 2 ^ 64 := by
    show u >>> 30 < 2 ^ 64
    rw [Nat.shiftRight_eq_div_pow]; exact Nat.lt_of_le_of_lt (Nat.div_le_self _ _) hult
  rw [e5]
  exact xorI_nat hult l3

noncomputable def foldB (l : List UInt8) (a : Nat) : Nat := l.foldl (fun a b => a * 256 + b.toNat) a
theorem foldB_cons (b : UInt8) (l : List UInt8) (a : Nat) : foldB (b :: l) a = foldB l (a * 256 + b.toNat) := rfl
theorem pow_step {k : Nat} (h : k + 1 ≤ 8) : 256 ^ (8 - k) = 256 ^ (8 - (k + 1)) * 256 := by
  rw [show 8 - k = (8 - (k + 1)) + 1 by omega, Nat.pow_succ]
theorem blkI_nat : ∀ (k : Nat) (l : List UInt8) (a : Nat), k ≤ 8 → l.length ≤ k → a < 256 ^ (8 - k) → blkI k l a = (foldB l a * 256 ^ (k - l.length) : Nat) ∧ foldB l a * 256 ^ (k - l.length) < 2 ^ 64
  | 0, [], a, _, _, h => by
    have h' : a < 2 ^ 64 := by simpa using h
    refine ⟨?_, ?_⟩
    · show (a : Int) = _
      simp [foldB]
    · simpa [foldB] using h'
  | 0, b :: l, a, _, h, _ => by simp at h
  | k + 1, [], a, hk, _, h => by
    have hp := pow_step hk
    have h2 : a * 256 + (0 : UInt8).toNat < 256 ^ (8 - k) := by
      rw [hp]
      have : (a + 1) * 256 ≤ 256 ^ (8 - (k + 1)) * 256 := Nat.mul_le_mul_right _ h
      have z : (0 : UInt8).toNat = 0 := rfl
      omega
    have h3 : 256 ^ (8 - k) ≤ 256 ^ 8 := Nat.pow_le_pow_right (by decide) (by omega)
    have h3' : (256 : Nat) ^ 8 = 2 ^ 64 := by decide
    obtain ⟨g1, g2⟩ := blkI_nat k [] (a * 256 + (0 : UInt8).toNat) (by omega) (Nat.zero_le _) h2
    have e : blkI (k + 1) [] (a : Int) = blkI k [] (stepI a 0) := rfl
    rw [e, stepI_nat 0 (by omega), g1]
    have e2 : foldB [] (a * 256 + (0 : UInt8).toNat) * 256 ^ (k - ([] : List UInt8).length) = foldB [] a * 256 ^ (k + 1 - ([] : List UInt8).length) := by
      simp [foldB, Nat.pow_succ, Nat.mul_comm, Nat.mul_assoc]
    rw [← e2]
    exact ⟨rfl, g2⟩
  | k + 1, b :: l, a, hk, hl, h => by
    have hp := pow_step hk
    have hb := b.toNat_lt
    have h2 : a * 256 + b.toNat < 256 ^ (8 - k) := by
      rw [hp]
      have : (a + 1) * 256 ≤ 256 ^ (8 - (k + 1)) * 256 := Nat.mul_le_mul_right _ h
      omega
    have h3 : 256 ^ (8 - k) ≤ 256 ^ 8 := Nat.pow_le_pow_right (by decide) (by omega)
    have h3' : (256 : Nat) ^ 8 = 2 ^ 64 := by decide
    simp only [List.length_cons] at hl
    obtain ⟨g1, g2⟩ := blkI_nat k l (a * 256 + b.toNat) (by omega) (by omega) h2
    have e : blkI (k + 1) (b :: l) (a : Int) = blkI k l (stepI a b) := rfl
    rw [e, stepI_nat b (by omega), g1, foldB_cons]
    have e2 : k + 1 - (b :: l).length = k - l.length := by simp
    rw [e2]
    exact ⟨rfl, g2⟩

theorem goK_nil (c a st : Nat) : goK [] c a st = mixK (Nat.xor st (Nat.shiftLeft a (Nat.mul 8 (Nat.sub 8 c)))) := rfl
theorem goK_cons (b : UInt8) (s : List UInt8) (c a st : Nat) : goK (b :: s) c a st = if c = 7 then goK s 0 0 (mixK (Nat.xor st (a * 256 + b.toNat))) else goK s (c + 1) (a * 256 + b.toNat) st := by
  show forceNat (Nat.add (Nat.mul a 256) b.toNat) (fun a => Bool.rec (motive := fun _ => Nat) (forceNat (Nat.succ c) fun c => goK s c a st) (forceNat (mixK (Nat.xor st a)) fun st => goK s 0 0 st) (Nat.beq c 7)) = _
  simp only [forceNat_eq]
  by_cases h : c = 7
  · subst h; rfl
  · rw [if_neg h]
    have : Nat.beq c 7 = false := by
      cases hb : Nat.beq c 7 with
      | false => rfl
      | true => exact (h (Nat.eq_of_beq_eq_true hb)).elim
    rw [this]; rfl
theorem goK_few (st : Nat) : ∀ (l : List UInt8) (c a : Nat), c + l.length < 8 → goK l c a st = mixK (Nat.xor st (foldB l a * 256 ^ (8 - (c + l.length))))
  | [], c, a, h => by
    rw [goK_nil]
    have e : Nat.shiftLeft a (Nat.mul 8 (Nat.sub 8 c)) = foldB [] a * 256 ^ (8 - (c + ([] : List UInt8).length)) := by
      show a <<< (8 * (8 - c)) = a * 256 ^ (8 - (c + 0))
      rw [Nat.shiftLeft_eq, Nat.pow_mul]; rfl
    rw [e]
  | b :: l, c, a, h => by
    simp only [List.length_cons] at h
    rw [goK_cons, if_neg (by omega), goK_few st l (c + 1) _ (by omega), foldB_cons]
    have : c + 1 + l.length = c + (b :: l).length := by simp only [List.length_cons]; omega
    rw [this]
theorem goK_full (st : Nat) (s : List UInt8) : ∀ (l : List UInt8) (c a : Nat), c + l.length = 8 → c < 8 → goK (l ++ s) c a st = goK s 0 0 (mixK (Nat.xor st (foldB l a)))
  | [], c, a, h, hc => by simp at h; omega
  | b :: l, c, a, h, _ => by
    simp only [List.length_cons] at h
    rw [List.cons_append, goK_cons, foldB_cons]
    by_cases h7 : c = 7
    · rw [if_pos h7]
      have : l = [] := List.length_eq_zero_iff.1 (by omega)
      subst this
      rfl
    · rw [if_neg h7, goK_full st s l (c + 1) _ (by omega) (by omega)]

theorem takeI_nat {st : Nat} (hst : st < 2 ^ 64) (l : List UInt8) (hl : l.length ≤ 8) : takeI st l = (mixK (Nat.xor st (foldB l 0 * 256 ^ (8 - l.length))) : Nat) ∧ mixK (Nat.xor st (foldB l 0 * 256 ^ (8 - l.length))) < 2 ^ 64 := by
  obtain ⟨h1, h2⟩ := blkI_nat 8 l 0 (Nat.le_refl _) hl (by decide)
  unfold takeI
  have h1' : blkI 8 l 0 = (foldB l 0 * 256 ^ (8 - l.length) : Nat) := h1
  obtain ⟨h3, h4⟩ := xorI_nat hst h2
  rw [h1', h3]
  exact mixI_nat h4

theorem short8 (x : Int) : ∀ (l : List UInt8), l.length < 8 → lastI l = l ∧ accI l x = x
  | [], _ => ⟨rfl, rfl⟩
  | [_], _ => ⟨rfl, rfl⟩
  | [_, _], _ => ⟨rfl, rfl⟩
  | [_, _, _], _ => ⟨rfl, rfl⟩
  | [_, _, _, _], _ => ⟨rfl, rfl⟩
  | [_, _, _, _, _], _ => ⟨rfl, rfl⟩
  | [_, _, _, _, _, _], _ => ⟨rfl, rfl⟩
  | [_, _, _, _, _, _, _], _ => ⟨rfl, rfl⟩
  | _ :: _ :: _ :: _ :: _ :: _ :: _ :: _ :: s, h => by simp only [List.length_cons] at h; omega
theorem accI8 (b0 b1 b2 b3 b4 b5 b6 b7 : UInt8) (s : List UInt8) (x : Int) : accI (b0 :: b1 :: b2 :: b3 :: b4 :: b5 :: b6 :: b7 :: s) x = accI s (takeI x [b0, b1, b2, b3, b4, b5, b6, b7]) := rfl
theorem lastI8 (b0 b1 b2 b3 b4 b5 b6 b7 : UInt8) (s : List UInt8) : lastI (b0 :: b1 :: b2 :: b3 :: b4 :: b5 :: b6 :: b7 :: s) = lastI s := rfl
theorem foldB8 (b0 b1 b2 b3 b4 b5 b6 b7 : UInt8) : foldB [b0, b1, b2, b3, b4, b5, b6, b7] 0 * 256 ^ (8 - ([b0, b1, b2, b3, b4, b5, b6, b7] : List UInt8).length) = foldB [b0, b1, b2, b3, b4, b5, b6, b7] 0 := by
  rw [show 8 - ([b0, b1, b2, b3, b4, b5, b6, b7] : List UInt8).length = 0 from rfl, Nat.pow_zero, Nat.mul_one]
theorem long8 : ∀ (s : List UInt8), ¬ s.length < 8 → ∃ b0 b1 b2 b3 b4 b5 b6 b7 t, s = b0 :: b1 :: b2 :: b3 :: b4 :: b5 :: b6 :: b7 :: t
  | [], h => (h (by simp)).elim
  | [_], h => (h (by simp)).elim
  | [_, _], h => (h (by simp)).elim
  | [_, _, _], h => (h (by simp)).elim
  | [_, _, _, _], h => (h (by simp)).elim
  | [_, _, _, _, _], h => (h (by simp)).elim
  | [_, _, _, _, _, _], h => (h (by simp)).elim
  | [_, _, _, _, _, _, _], h => (h (by simp)).elim
  | b0 :: b1 :: b2 :: b3 :: b4 :: b5 :: b6 :: b7 :: t, _ => ⟨b0, b1, b2, b3, b4, b5, b6, b7, t, rfl⟩
theorem state_nat : ∀ (n : Nat) (s : List UInt8) (st : Nat), s.length ≤ n → st < 2 ^ 64 → takeI (accI s st) (lastI s) = (goK s 0 0 st : Nat) ∧ goK s 0 0 st < 2 ^ 64 := by
  intro n
  induction n using Nat.strongRecOn with
  | _ n ih =>
    intro s st hn hst
    by_cases hs : s.length < 8
    · obtain ⟨h1, h2⟩ := short8 st s hs
      rw [h1, h2, goK_few st s 0 0 (by omega)]
      have := takeI_nat hst s (by omega)
      rw [Nat.zero_add]
      exact this
    · obtain ⟨b0, b1, b2, b3, b4, b5, b6, b7, t, rfl⟩ := long8 s hs
      simp only [List.length_cons] at hn
      obtain ⟨h1, h2⟩ := takeI_nat hst [b0, b1, b2, b3, b4, b5, b6, b7] (Nat.le_refl _)
      have h3 := goK_full st t [b0, b1, b2, b3, b4, b5, b6, b7] 0 0 rfl (by decide)
      rw [foldB8] at h1 h2
      simp only [List.cons_append, List.nil_append] at h3
      rw [accI8, lastI8, h1, h3]
      exact ih t.length (by omega) t _ (Nat.le_refl _) h2

theorem nibN_nat (st i : Nat) (hst : st < 2 ^ 64) : nibN st i = Nat.land (Nat.shiftRight st (60 - 4 * i)) 15 := by
  unfold nibN nibI
  have e2 : ((st : Int).fdiv (2 ^ (60 - 4 * i))) = ((Nat.shiftRight st (60 - 4 * i) : Nat) : Int) := by
    show Int.fdiv (st : Int) ((2 : Int) ^ (60 - 4 * i)) = ((st >>> (60 - 4 * i) : Nat) : Int)
    rw [Nat.shiftRight_eq_div_pow, Int.fdiv_eq_ediv_of_nonneg _ (by exact_mod_cast Nat.zero_le _)]
    push_cast
    rfl
  have l1 : Nat.shiftRight st (60 - 4 * i) < 2 ^ 64 := by
    show st >>> (60 - 4 * i) < 2 ^ 64
    rw [Nat.shiftRight_eq_div_pow]; exact Nat.lt_of_le_of_lt (Nat.div_le_self _ _) hst
  have e3 : (BitVec.ofInt 64 15).toNat = 15 := by decide
  rw [e2, BitVec.toNat_and, ofInt_nat, Nat.mod_eq_of_lt l1, e3]
  have hlt : Nat.shiftRight st (60 - 4 * i) &&& 15 < 2 ^ 64 := Nat.lt_of_le_of_lt Nat.and_le_right (by decide)
  rw [wrap_nat hlt]
  rfl
theorem hex_nat (d : Nat) : UInt8.ofNat (hexN d).toNat = hexK d := by
  unfold hexN hexK
  cases Nat.blt d 10 <;> rfl
noncomputable def chI (x : Int) (i : Nat) : UInt8 := UInt8.ofNat (hexN (nibN x i)).toNat
theorem strI_fill (x : Int) : strI (fillI x 16 zeros16) = [chI x 0, chI x 1, chI x 2, chI x 3, chI x 4, chI x 5, chI x 6, chI x 7, chI x 8, chI x 9, chI x 10, chI x 11, chI x 12, chI x 13, chI x 14, chI x 15] := by kernel_rfl
theorem chI_nat (st i : Nat) (hst : st < 2 ^ 64) : chI st i = hexK (Nat.land (Nat.shiftRight st (60 - 4 * i)) 15) := by
  unfold chI
  rw [hex_nat, nibN_nat st i hst]
theorem init_nat (s : List UInt8) : initI s = (Nat.xor 1442695040888963407 (Nat.mod (lenF s) 18446744073709551616) : Nat) ∧ Nat.xor 1442695040888963407 (Nat.mod (lenF s) 18446744073709551616) < 2 ^ 64 := by
  have h0 : lenF s % 2 ^ 64 < 2 ^ 64 := Nat.mod_lt _ (by decide)
  have e : initI s = xorI ((1442695040888963407 : Nat) : Int) ((lenF s % 2 ^ 64 : Nat) : Int) := by
    unfold initI
    have : (Int.ofNat (lenF s)) = ((lenF s : Nat) : Int) := rfl
    rw [this, wrap_mod]
    rfl
  rw [e]
  exact xorI_nat (by decide) h0
/-- The quick one is the same. -/
theorem sumI_eq (s : List UInt8) : sumI s = sumK s := by
  obtain ⟨h1, h2⟩ := init_nat s
  obtain ⟨h3, h4⟩ := state_nat s.length s _ (Nat.le_refl _) h2
  unfold sumI stateI sumK
  rw [h1, h3, strI_fill, forceNat_eq]
  generalize goK s 0 0 (Nat.xor 1442695040888963407 (Nat.mod (lenF s) 18446744073709551616)) = st at h4
  simp only [chI_nat st _ h4, forceNat_eq]
end
end Pe

/- Contracts that hold for every argument: digest.Sum, bytealg.IndexByteString, abi.NoEscape. -/
namespace Pe
open Go
set_option linter.unusedSectionVars false
noncomputable section
variable [Globs]

/-- A contract: what is said of a call holds. -/
def ConOk (P : Program) (f : FuncId) (x : XF) : Prop := ∀ xs σ r, x.run xs σ = some r → ∀ ρ w (args : Array Value), Sim P ρ σ w → Glob ρ σ w → VRs ρ xs args.toList → CallRes P ρ σ w (callFunc f args) [r]
noncomputable def xOf (l : List (FuncId × XF)) (f : FuncId) : Option XF := List.rec (motive := fun _ => Option XF) none (fun e _ ih => Bool.rec (motive := fun _ => Option XF) ih (some e.2) (Nat.beq f e.1)) l
theorem extOk_of {P : Program} {multi : FuncId → Bool} : ∀ {l : List (FuncId × XF)}, (∀ e ∈ l, ConOk P e.1 e.2) → ExtOk (cfgX P (xOf l) multi) := by
  intro l hl f xs σ r h
  have hx : ∃ x, xOf l f = some x ∧ x.run xs σ = some r := by
    have h' : (match xOf l f with | some x => x.run xs σ | none => none) = some r := h
    split at h'
    · rename_i x hx; exact ⟨x, hx, h'⟩
    · cases h'
  obtain ⟨x, hx, hv⟩ := hx
  have key : ∀ (l : List (FuncId × XF)), xOf l f = some x → (f, x) ∈ l := by
    intro l
    induction l with
    | nil => intro h; cases h
    | cons e l ih =>
      intro h
      have h' : Bool.rec (motive := fun _ => Option XF) (xOf l f) (some e.2) (Nat.beq f e.1) = some x := h
      cases hb : Nat.beq f e.1 with
      | true =>
        rw [hb] at h'
        have h2 : some e.2 = some x := h'
        cases h2
        rw [Nat.eq_of_beq_eq_true hb]
        exact List.mem_cons_self
      | false =>
        rw [hb] at h'
        exact List.mem_cons_of_mem _ (ih h')
  exact hl _ (key l hx) xs σ r hv

noncomputable def one (f : AV → Option AV) : XF := ⟨fun l σ => pv (List.rec (motive := fun _ => Option AV) none (fun x tl _ => List.rec (motive := fun _ => Option AV) (f x) (fun _ _ _ => none) tl) l) σ⟩
noncomputable def two (f : AV → AV → Option AV) : XF := ⟨fun l σ => pv (List.rec (motive := fun _ => Option AV) none (fun x tl _ => List.rec (motive := fun _ => Option AV) none (fun y tl _ => List.rec (motive := fun _ => Option AV) (f x y) (fun _ _ _ => none) tl) tl) l) σ⟩
theorem one_run {f : AV → Option AV} {l : List AV} {σ : AW} {r : AV × AW} (h : (one f).run l σ = some r) : ∃ x v, l = [x] ∧ f x = some v ∧ r = (v, σ) := by
  obtain ⟨v, h2, hr⟩ := pv_some h
  clear h
  subst hr
  have h := h2
  clear h2
  cases l with
  | nil => cases h
  | cons x tl =>
    cases tl with
    | nil => exact ⟨x, v, rfl, h, rfl⟩
    | cons y tl => cases h
theorem two_run {f : AV → AV → Option AV} {l : List AV} {σ : AW} {r : AV × AW} (h : (two f).run l σ = some r) : ∃ x y v, l = [x, y] ∧ f x y = some v ∧ r = (v, σ) := by
  obtain ⟨v, h2, hr⟩ := pv_some h
  clear h
  subst hr
  have h := h2
  clear h2
  cases l with
  | nil => cases h
  | cons x tl =>
    cases tl with
    | nil => cases h
    | cons y tl =>
      cases tl with
      | nil => exact ⟨x, y, v, rfl, h, rfl⟩
      | cons z tl => cases h

noncomputable def xSum : XF := one fun x => AV.onStr none (fun s => some (.str (sumK s))) x
theorem con_sum : ConOk P0 102 xSum := by
  intro xs σ r h ρ w args hs hg hx
  obtain ⟨x, v, h1, h2, hr⟩ := one_run h
  clear h
  subst h1
  subst hr
  have h := h2
  clear h2
  obtain ⟨s, rfl, h⟩ := onStr h (by simp)
  cases h
  have := sum_fun s
  rw [sumI_eq] at this
  exact this.plain rfl rfl hs hg hx

noncomputable def idxK (c : Nat) (s : List UInt8) : Int := List.rec (motive := fun _ => Nat → Int) (fun _ => .negSucc 0) (fun b _ ih i => Bool.rec (motive := fun _ => Int) (forceNat (Nat.succ i) ih) (.ofNat i) (Nat.beq b.toNat c)) s 0
theorem idxK_eq (c : Nat) (hc : c < 256) (s : List UInt8) : idxK c s = Lib.indexByte s (UInt8.ofNat c) := by
  have hcb : (UInt8.ofNat c).toNat = c := by simp [Nat.mod_eq_of_lt hc]
  have key : ∀ (s : List UInt8) (i : Nat), List.rec (motive := fun _ => Nat → Int) (fun _ => .negSucc 0) (fun b _ ih i => Bool.rec (motive := fun _ => Int) (forceNat (Nat.succ i) ih) (.ofNat i) (Nat.beq b.toNat c)) s i = if Lib.indexByte s (UInt8.ofNat c) = -1 then -1 else Lib.indexByte s (UInt8.ofNat c) + i := by
    intro s
    induction s with
    | nil => intro i; rfl
    | cons b s ih =>
      intro i
      show Bool.rec (motive := fun _ => Int) (forceNat (Nat.succ i) (fun i => List.rec (motive := fun _ => Nat → Int) (fun _ => .negSucc 0) (fun b _ ih i => Bool.rec (motive := fun _ => Int) (forceNat (Nat.succ i) ih) (.ofNat i) (Nat.beq b.toNat c)) s i)) (.ofNat i) (Nat.beq b.toNat c) = _
      have hcons : Lib.indexByte (b :: s) (UInt8.ofNat c) = if b == UInt8.ofNat c then 0 else if Lib.indexByte s (UInt8.ofNat c) == -1 then -1 else Lib.indexByte s (UInt8.ofNat c) + 1 := by rw [Lib.indexByte]
      rw [forceNat_eq, ih, hcons]
      by_cases hb : b = UInt8.ofNat c
      · subst hb
        have : Nat.beq (UInt8.ofNat c).toNat c = true := by rw [hcb]; exact Nat.beq_refl c
        rw [this]
        simp
      · have hne : Nat.beq b.toNat c = false := by
          cases hbb : Nat.beq b.toNat c with
          | false => rfl
          | true =>
            refine (hb (UInt8.toNat_inj.1 ?_)).elim
            rw [hcb]; exact Nat.eq_of_beq_eq_true hbb
        rw [hne]
        have hbe : (b == UInt8.ofNat c) = false := by simpa using hb
        rw [hbe]
        simp only [Bool.false_eq_true, if_false]
        have hge := Lib.indexByte_ge s (UInt8.ofNat c)
        by_cases h1 : Lib.indexByte s (UInt8.ofNat c) = -1
        · rw [h1]; simp
        · have h1' : (Lib.indexByte s (UInt8.ofNat c) == -1) = false := by simpa using h1
          rw [h1', if_neg h1]
          simp only [Bool.false_eq_true, if_false]
          rw [if_neg (by omega)]
          push_cast
          omega
  unfold idxK
  rw [key]
  split
  · rename_i h; rw [h]
  · simp
noncomputable def xIdx : XF := two fun x y => AV.onStr none (fun s => AV.onInt none (fun k n => IntKind.casesOn (motive := fun _ => Option AV) k none none none none (Int.rec (motive := fun _ => Option AV) (fun c => Bool.rec (motive := fun _ => Option AV) none (some (.int .i64 (idxK c s))) (Nat.blt c 256)) (fun _ => none) n) none none none) y) x
theorem con_idx : ConOk P0 427 xIdx := by
  intro xs σ r h ρ w args hs hg hx
  obtain ⟨x, y, v, h1, h2, hr⟩ := two_run h
  clear h
  subst h1
  subst hr
  have h := h2
  clear h2
  obtain ⟨s, rfl, h⟩ := onStr h (by simp)
  obtain ⟨k, n, rfl, h⟩ := onInt h (by simp)
  cases k <;> try (cases h; done)
  cases n with
  | negSucc n => cases h
  | ofNat c =>
    have h' : Bool.rec (motive := fun _ => Option AV) none (some (.int .i64 (idxK c s))) (Nat.blt c 256) = some v := h
    obtain ⟨h1, h2⟩ := boolRec h' (by simp)
    cases h2
    have hc := blt_lt h1
    obtain ⟨a, tl, h3, h4, h5⟩ := VRs_cons.1 hx
    obtain ⟨b, bs, rfl, h6, h7⟩ := VRs_cons.1 h5
    rw [VRs_nil] at h7
    subst h7
    simp only [VR] at h4 h6
    obtain ⟨t, rfl, rfl⟩ := h4
    subst h6
    have hargs : args = #[.string t, .int .u8 (.ofNat c)] := by
      apply Array.toList_inj.1; rw [h3]
    subst hargs
    refine .inl ⟨.int .i64 (idxK c t.data.toList), w, ?_, _, List.mem_singleton.2 rfl, ρ, by simp [VR], hs, Post.refl _ _ _⟩
    have hf : P0.funcs[427]? = some (funAt 427) := by kernel_rfl
    have e1 : ((funAt 427).name == "runtime.NumGoroutine") = false := by kernel_rfl
    have e2 : (funAt 427).body.isNone = true := by kernel_rfl
    have e3 : (Extern.findNext (funAt 427)).isNone = true := by kernel_rfl
    have e4 : Extern.find (funAt 427) = some Extern.BytealgIndexByte.indexByte := by kernel_rfl
    rw [run_callFunc_extern hf e1 e2 (by simpa using e3) e4, run_indexByte_string, Lib.firstIdx_eq, idxK_eq c hc]
    rfl
noncomputable def xEsc : XF := one fun x => some x
theorem con_esc : ConOk P0 201 xEsc := by
  intro xs σ r h ρ w args hs hg hx
  obtain ⟨x, v, h1, h2, hr⟩ := one_run h
  clear h
  subst h1
  subst hr
  have h := h2
  clear h2
  cases h
  obtain ⟨a, tl, h3, h4, h5⟩ := VRs_cons.1 hx
  rw [VRs_nil] at h5
  subst h5
  have hargs : args = #[a] := by apply Array.toList_inj.1; rw [h3]
  subst hargs
  refine .inl ⟨a, w, ?_, _, List.mem_singleton.2 rfl, ρ, h4, hs, Post.refl _ _ _⟩
  have hf : P0.funcs[201]? = some (funAt 201) := by kernel_rfl
  have e1 : ((funAt 201).name == "runtime.NumGoroutine") = false := by kernel_rfl
  have e2 : (funAt 201).body.isNone = true := by kernel_rfl
  have e3 : (Extern.findNext (funAt 201)).isNone = true := by kernel_rfl
  have e4 : Extern.find (funAt 201) = some Extern.AbiNoEscape.same := by kernel_rfl
  rw [run_callFunc_extern hf e1 e2 (by simpa using e3) e4]
  rfl
end
end Pe

/- numDigits reads the powers of ten: a package-level variable that lies as it lay. -/
namespace Pe
open Go
set_option linter.unusedSectionVars false
noncomputable section
set_option maxRecDepth 100000
/-- The third of the powers of ten is a hundred. -/
class PowG extends Globs where
  obj : Obj
  at3 : blk 3 = some obj
  pow : ∀ w : World, w.heap[3]? = some obj → w.cell? ⟨3, 2, none⟩ = some (.int .u64 100)

variable [PowG] {P : Program} {k : Nat}
theorem OpsF.pow {ops : Array Oper} {j : Nat} {oA oB : Oper} (h1 : ops[j]? = some oA) (h2 : ops[j + 1]? = some oB) (hA : oA.op = .indexAddr 634 (.global 3) (.tmp 9)) (hB : oB.op = .load 312 (.tmp 10))
    (dA : oA.dst = some 10) (dB : oB.dst = some 11) (gA : oA.guard = none) (gB : oB.guard = none) (u1 : P.underlying 634 = some (.array 20 312)) (u2 : P.cellsOf 312 = 1) (u3 : P.underlying 312 = some (.int .u64)) (u4 : isAggT P 312 = false)
    {l : List (Tmp × AV)} {σ : AW} {fr' : Fr} {σ' : AW} (h9 : (mkFr 15 l).get 9 = .int .i64 2) (h : OpsF P k ops (j + 2) (mkFr 15 ((11, .int .u64 100) :: (10, .top) :: l)) σ fr' σ') : OpsF P k ops j (mkFr 15 l) σ fr' σ' := by
  intro B n ρ w a hs hg hf
  have hlt : j + 1 < ops.size := by
    rcases Nat.lt_or_ge (j + 1) ops.size with h | h
    · exact h
    · rw [Array.getElem?_eq_none h] at h2; cases h2
  have hn : ops.size - j = (ops.size - (j + 2)) + 1 + 1 := by omega
  rw [hn]
  simp only [List.range'_succ, wpOpsIn, h1, h2]
  have w1 : wantedA (mkFr 15 l) ops oA = some true := by simp [wantedA, dstOk, dA, gA, mkFr]
  obtain ⟨q1, q2⟩ := wanted_ok hf w1
  rw [q1]
  simp only [if_true]
  have h9' := hf.val 9
  rw [h9] at h9'
  simp only [VR] at h9'
  have e9 : a.eval (.tmp 9) = .int .i64 2 := h9'
  have r1 : (execOp a.eval oA).run P w = .ok (.value (.pointer (some ⟨3, 2, none⟩))) w := by
    have eg : a.eval (.global 3) = .pointer (some ⟨3, 0, none⟩) := rfl
    have hz : P.cellsOf 312 ≠ 0 := by rw [u2]; decide
    simp [execOp, hA, eg, e9, Instr.indexAt, asIntOf, run_under u1, Instr.sureAddr, run_size hz, Addr.add, u2]
  refine op_gives (.inl rfl) (fun c e => by rw [hA] at e; cases e) (.inl r1) ?_
  have hf1 : FrRel B ρ σ w Fence.wide ((mkFr 15 l).put oA.dst .top) (a.put oA.dst (.pointer (some ⟨3, 2, none⟩))) := hf.put q2 (by simp [VR])
  have w2 : wantedA ((mkFr 15 l).put oA.dst .top) ops oB = some true := by
    rw [dA]
    simp [wantedA, dstOk, dB, gB, mkFr, Fr.put]
  obtain ⟨q3, q4⟩ := wanted_ok hf1 w2
  rw [q3]
  simp only [if_true]
  have hsz : 10 < a.tmps.size := by rw [hf.size]; show 10 < 15; decide
  have e10 : (a.put oA.dst (.pointer (some ⟨3, 2, none⟩))).eval (.tmp 10) = .pointer (some ⟨3, 2, none⟩) := by
    rw [dA]
    simp only [Act.put, Act.eval]
    rw [getD_set hsz, if_pos rfl]
  have hc := PowG.pow w (hg 3 PowG.obj PowG.at3).1
  have r2 : (execOp (a.put oA.dst (.pointer (some ⟨3, 2, none⟩))).eval oB).run P w = .ok (.value (.int .u64 100)) w := by
    simp [execOp, hB, e10, Instr.loadAt, Instr.sureAddr, loadVar, run_isAgg u3, u4, hc]
  refine op_gives (.inl rfl) (fun c e => by rw [hB] at e; cases e) (.inl r2) ?_
  have hf2 : FrRel B ρ σ w Fence.wide (((mkFr 15 l).put oA.dst .top).put oB.dst (.int .u64 100)) ((a.put oA.dst (.pointer (some ⟨3, 2, none⟩))).put oB.dst (.int .u64 100)) := hf1.put q4 (by simp [VR])
  rw [dA, dB] at hf2
  rw [dA, dB]
  exact h B n ρ w _ hs hg hf2

noncomputable def d0 : Code := bod 339
noncomputable def OD : Array Oper := cO (cL (cR (cR d0)))
theorem dig_shape : d0 = .seq (cL d0) (.seq (cL (cR d0)) (.seq (.region 2 OD false) .ret)) := by kernel_rfl
theorem OD_size : OD.size = 9 := by kernel_rfl
theorem dig_422 : FunF P0 0 339 [.int .u64 (.ofNat 422)] (mkW []) (.int .i64 3) (mkW []) := by
  refine FunF.body (fn := funAt 339) (c := d0) (o := .jump .ret) (fr := mkFr 15 [(2, .int .i64 3)]) (vs := [.int .i64 3]) (by kernel_rfl) (by kernel_rfl) (by kernel_rfl) ?_ (.inr rfl) rfl (by kernel_rfl)
  have h0 : frame0 (funAt 339) [.int .u64 (.ofNat 422)] = mkFr 15 [(0, .int .u64 (.ofNat 422))] := by kernel_rfl
  rw [h0, dig_shape]
  have hd : ∀ fr σ, OpsF P0 0 OD 9 fr σ fr σ := fun fr σ => @OpsF.done' _ P0 0 OD 9 fr σ OD_size
  refine .seq (CodeF.sym (d := 10) (N := loopN) (ts := [0]) (ids := []) (vs := [.int .u64 (.ofNat 422)]) (os := []) ext00 mixed (by kernel_rfl) (by kernel_rfl) (by kernel_rfl) (by kernel_rfl) (by kernel_rfl) (by kernel_rfl)) ?_
  refine .seq (CodeF.sym (d := 10) (N := loopN) (ts := [0, 3]) (ids := []) (vs := [.int .u64 (.ofNat 422), .int .i64 2]) (os := []) ext00 mixed (by kernel_rfl) (by kernel_rfl) (by kernel_rfl) (by kernel_rfl) (by kernel_rfl) (by kernel_rfl)) ?_
  refine .seq (.region ?_) .ret
  refine OpsF.sym (P := P0) (k := 0) (ops := OD) (j := 0) (d := 10) (m := 3) (ts := [9, 7, 8]) (ids := []) (vs := [.int .i64 2, .int .i64 2, .int .u64 (.ofNat 422)]) (os := []) ext00 mixed (by kernel_rfl) (by kernel_rfl) (by kernel_rfl) (by kernel_rfl) (by kernel_rfl) (by kernel_rfl) (by kernel_rfl) ?_
  refine OpsF.pow (j := 3) (oA := OD.getD 3 default) (oB := OD.getD 4 default) (by kernel_rfl) (by kernel_rfl) (by kernel_rfl) (by kernel_rfl) (by kernel_rfl) (by kernel_rfl) (by kernel_rfl) (by kernel_rfl) (by kernel_rfl) (by kernel_rfl) (by kernel_rfl) (by kernel_rfl) (by kernel_rfl) ?_
  exact OpsF.sym (P := P0) (k := 0) (ops := OD) (j := 5) (d := 10) (m := 4) (ts := [2]) (ids := []) (vs := [.int .i64 3]) (os := []) ext00 mixed (by kernel_rfl) (by kernel_rfl) (by kernel_rfl) (by kernel_rfl) (by kernel_rfl) (by kernel_rfl) (by kernel_rfl) (hd _ _)
theorem dig_439 : FunF P0 0 339 [.int .u64 (.ofNat 439)] (mkW []) (.int .i64 3) (mkW []) := by
  refine FunF.body (fn := funAt 339) (c := d0) (o := .jump .ret) (fr := mkFr 15 [(2, .int .i64 3)]) (vs := [.int .i64 3]) (by kernel_rfl) (by kernel_rfl) (by kernel_rfl) ?_ (.inr rfl) rfl (by kernel_rfl)
  have h0 : frame0 (funAt 339) [.int .u64 (.ofNat 439)] = mkFr 15 [(0, .int .u64 (.ofNat 439))] := by kernel_rfl
  rw [h0, dig_shape]
  have hd : ∀ fr σ, OpsF P0 0 OD 9 fr σ fr σ := fun fr σ => @OpsF.done' _ P0 0 OD 9 fr σ OD_size
  refine .seq (CodeF.sym (d := 10) (N := loopN) (ts := [0]) (ids := []) (vs := [.int .u64 (.ofNat 439)]) (os := []) ext00 mixed (by kernel_rfl) (by kernel_rfl) (by kernel_rfl) (by kernel_rfl) (by kernel_rfl) (by kernel_rfl)) ?_
  refine .seq (CodeF.sym (d := 10) (N := loopN) (ts := [0, 3]) (ids := []) (vs := [.int .u64 (.ofNat 439), .int .i64 2]) (os := []) ext00 mixed (by kernel_rfl) (by kernel_rfl) (by kernel_rfl) (by kernel_rfl) (by kernel_rfl) (by kernel_rfl)) ?_
  refine .seq (.region ?_) .ret
  refine OpsF.sym (P := P0) (k := 0) (ops := OD) (j := 0) (d := 10) (m := 3) (ts := [9, 7, 8]) (ids := []) (vs := [.int .i64 2, .int .i64 2, .int .u64 (.ofNat 439)]) (os := []) ext00 mixed (by kernel_rfl) (by kernel_rfl) (by kernel_rfl) (by kernel_rfl) (by kernel_rfl) (by kernel_rfl) (by kernel_rfl) ?_
  refine OpsF.pow (j := 3) (oA := OD.getD 3 default) (oB := OD.getD 4 default) (by kernel_rfl) (by kernel_rfl) (by kernel_rfl) (by kernel_rfl) (by kernel_rfl) (by kernel_rfl) (by kernel_rfl) (by kernel_rfl) (by kernel_rfl) (by kernel_rfl) (by kernel_rfl) (by kernel_rfl) (by kernel_rfl) ?_
  exact OpsF.sym (P := P0) (k := 0) (ops := OD) (j := 5) (d := 10) (m := 4) (ts := [2]) (ids := []) (vs := [.int .i64 3]) (os := []) ext00 mixed (by kernel_rfl) (by kernel_rfl) (by kernel_rfl) (by kernel_rfl) (by kernel_rfl) (by kernel_rfl) (by kernel_rfl) (hd _ _)
noncomputable def xDig : XF := one fun x => AV.onInt none (fun k n => IntKind.casesOn (motive := fun _ => Option AV) k none none none none none none none (Int.rec (motive := fun _ => Option AV) (fun n => Bool.rec (motive := fun _ => Option AV) (Bool.rec (motive := fun _ => Option AV) none (some (.int .i64 3)) (Nat.beq n 439)) (some (.int .i64 3)) (Nat.beq n 422)) (fun _ => none) n)) x
theorem con_dig : ConOk P0 339 xDig := by
  intro xs σ r h ρ w args hs hg hx
  obtain ⟨x, v, h1, h2, hr⟩ := one_run h
  clear h
  subst h1
  subst hr
  have h := h2
  clear h2
  obtain ⟨k, n, rfl, h⟩ := onInt h (by simp)
  cases k <;> try (cases h; done)
  cases n with
  | negSucc n => cases h
  | ofNat n =>
    have h' : Bool.rec (motive := fun _ => Option AV) (Bool.rec (motive := fun _ => Option AV) none (some (.int .i64 3)) (Nat.beq n 439)) (some (.int .i64 3)) (Nat.beq n 422) = some v := h
    cases h1 : Nat.beq n 422 with
    | true =>
      rw [h1] at h'
      cases h'
      rw [Nat.eq_of_beq_eq_true h1] at hx
      exact dig_422.plain rfl rfl hs hg hx
    | false =>
      rw [h1] at h'
      obtain ⟨h2, h3⟩ := boolRec h' (by simp)
      cases h3
      rw [Nat.eq_of_beq_eq_true h2] at hx
      exact dig_439.plain rfl rfl hs hg hx
end
end Pe

/- bytealg.MakeNoZero: a new row of bytes that nobody knows; none of them counts as written. -/
namespace Pe
open Go
set_option linter.unusedSectionVars false
noncomputable section
variable [Globs]
noncomputable def obMnz : AO := .cells 0 [.int .u8 0] .nil 5 0 false
noncomputable def xMnz : XF := ⟨fun l σ => List.rec (motive := fun _ => Option (AV × AW)) none (fun x tl _ => List.rec (motive := fun _ => Option (AV × AW)) (AV.onInt none (fun k n => IntKind.casesOn (motive := fun _ => Option (AV × AW)) k none none none (Int.rec (motive := fun _ => Option (AV × AW)) (fun n => Bool.rec (motive := fun _ => Option (AV × AW)) none (some (.sl σ.next 0 n (.up 1), normW (σ.new obMnz))) (Nat.blt n 65536)) (fun _ => none) n) none none none none) x) (fun _ _ _ => none) tl) l⟩
theorem con_mnz : ConOk P0 407 xMnz := by
  intro xs σ r h ρ w args hs hg hx
  cases xs with
  | nil => cases h
  | cons x tl =>
    cases tl with
    | cons y tl => cases h
    | nil =>
      have h1 : AV.onInt none (fun k n => IntKind.casesOn (motive := fun _ => Option (AV × AW)) k none none none (Int.rec (motive := fun _ => Option (AV × AW)) (fun n => Bool.rec (motive := fun _ => Option (AV × AW)) none (some (.sl σ.next 0 n (.up 1), normW (σ.new obMnz))) (Nat.blt n 65536)) (fun _ => none) n) none none none none) x = some r := h
      obtain ⟨k, n, rfl, h2⟩ := onInt h1 (by simp)
      cases k <;> try (cases h2; done)
      cases n with
      | negSucc n => cases h2
      | ofNat n =>
        have h3 : Bool.rec (motive := fun _ => Option (AV × AW)) none (some (.sl σ.next 0 n (.up 1), normW (σ.new obMnz))) (Nat.blt n 65536) = some r := h2
        obtain ⟨h4, h5⟩ := boolRec h3 (by simp)
        have hn := blt_lt h4
        rw [normW_eq] at h5
        cases h5
        obtain ⟨a, tl, h6, h7, h8⟩ := VRs_cons.1 hx
        rw [VRs_nil] at h8
        subst h8
        simp only [VR] at h7
        subst h7
        have hargs : args = #[.int .i64 (.ofNat n)] := by apply Array.toList_inj.1; rw [h6]
        subst hargs
        have hf : P0.funcs[407]? = some (funAt 407) := by kernel_rfl
        have e1 : ((funAt 407).name == "runtime.NumGoroutine") = false := by kernel_rfl
        have e2 : (funAt 407).body.isNone = true := by kernel_rfl
        have e3 : (Extern.findNext (funAt 407)).isNone = true := by kernel_rfl
        have e4 : Extern.find (funAt 407) = some (Extern.BytealgMakeNoZero.makeNoZero (funAt 407).params #[109]) := by kernel_rfl
        have e5 : P0.underlying 109 = some (.slice 5) := by kernel_rfl
        obtain ⟨cs, g1, g2, _⟩ := Lib.run_makeNoZero (P := P0) w (funAt 407).params 109 5 e5 n (by omega)
        have hsd := (hs.heap (w' := w.drew.drew) rfl)
        have key := mk_cells (n := 0) (z := [.int .u8 0]) (t := .nil) (fz := 0) (wh := false) (w' := w.drew.drew.alloc (.cells cs 5)) hsd.1 (C := cs) (e := 5) (fr0 := (0, 0)) rfl (fun _ hne => (hne rfl).elim) (Nat.zero_le _) (fun hh => by cases hh) (fun i hi => by omega)
        refine .inl ⟨.slice (some ⟨w.heap.size, 0, none⟩) n cs.size, w.drew.drew.alloc (.cells cs 5), ?_, _, List.mem_singleton.2 rfl, _, ?_, key.1, hsd.2.trans key.2⟩
        · rw [run_callFunc_extern hf e1 e2 (by simpa using e3) e4]
          have g1' : (Extern.BytealgMakeNoZero.makeNoZero (funAt 407).params #[109] #[.int .i64 (.ofNat n)]).run P0 w = _ := g1
          rw [g1']
          rfl
        · simp only [VR]
          refine ⟨⟨w.heap.size, 0, cs.size⟩, cs.size, 0, by simp [Rho.upd], by simp, .inl ⟨rfl, g2, by show 0 + cs.size * 1 ≤ cs.size; omega⟩⟩
end
end Pe
