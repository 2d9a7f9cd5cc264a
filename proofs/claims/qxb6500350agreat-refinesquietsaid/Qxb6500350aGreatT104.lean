/- MADE BY PROGRAM (tools350/mir.py): mirror and walk. -/
import Derived.Test.Qxb6500350aGreatF2
import Derived.Test.Qxb6500350aGreatT187
set_option linter.unusedVariables false
set_option linter.unusedSimpArgs false
set_option maxRecDepth 20000
set_option maxHeartbeats 4000000
namespace Go.Proofs.Qxb6500350aGreat
open Go.Eng

def op_104_6 : Array Go.Oper := #[{ dst := some 17, op := Go.Op.move (Go.Operand.tmp 0), type := 112, pos := "law.go:94", after := #[], guard := none }, { dst := some 18, op := Go.Op.move (Go.Operand.tmp 5), type := 3, pos := "law.go:94", after := #[], guard := none }, { dst := some 19, op := Go.Op.indexAddr 112 (Go.Operand.tmp 17) (Go.Operand.tmp 18), type := 0, pos := "law.go:94", after := #[{ on := 0, ground := Go.Ground.data }, { on := 1, ground := Go.Ground.data }], guard := none }, { dst := some 20, op := Go.Op.fieldAddr 203 (Go.Operand.tmp 19) 0, type := 0, pos := "law.go:94", after := #[{ on := 2, ground := Go.Ground.data }], guard := none }, { dst := some 21, op := Go.Op.load 3 (Go.Operand.tmp 20), type := 3, pos := "law.go:94", after := #[{ on := 3, ground := Go.Ground.data }], guard := none }, { dst := some 22, op := Go.Op.move (Go.Operand.tmp 1), type := 112, pos := "law.go:94", after := #[], guard := none }, { dst := some 23, op := Go.Op.move (Go.Operand.tmp 5), type := 3, pos := "law.go:94", after := #[], guard := none }, { dst := some 24, op := Go.Op.indexAddr 112 (Go.Operand.tmp 22) (Go.Operand.tmp 23), type := 0, pos := "law.go:94", after := #[{ on := 5, ground := Go.Ground.data }, { on := 6, ground := Go.Ground.data }], guard := none }, { dst := some 25, op := Go.Op.fieldAddr 203 (Go.Operand.tmp 24) 0, type := 0, pos := "law.go:94", after := #[{ on := 7, ground := Go.Ground.data }], guard := none }, { dst := some 26, op := Go.Op.load 3 (Go.Operand.tmp 25), type := 3, pos := "law.go:94", after := #[{ on := 8, ground := Go.Ground.data }], guard := none }, { dst := some 27, op := Go.Op.binOp Go.BinOp.neq 3 (Go.Operand.tmp 21) (Go.Operand.tmp 26) 3, type := 4, pos := "law.go:94", after := #[{ on := 4, ground := Go.Ground.data }, { on := 9, ground := Go.Ground.data }], guard := none }]
def op_104_8 : Array Go.Oper := #[{ dst := some 28, op := Go.Op.move (Go.Operand.tmp 0), type := 112, pos := "law.go:97", after := #[], guard := none }, { dst := some 29, op := Go.Op.move (Go.Operand.tmp 5), type := 3, pos := "law.go:97", after := #[], guard := none }, { dst := some 30, op := Go.Op.indexAddr 112 (Go.Operand.tmp 28) (Go.Operand.tmp 29), type := 0, pos := "law.go:97", after := #[{ on := 0, ground := Go.Ground.data }, { on := 1, ground := Go.Ground.data }], guard := none }, { dst := some 31, op := Go.Op.fieldAddr 203 (Go.Operand.tmp 30) 1, type := 0, pos := "law.go:97", after := #[{ on := 2, ground := Go.Ground.data }], guard := none }, { dst := some 32, op := Go.Op.load 185 (Go.Operand.tmp 31), type := 185, pos := "law.go:97", after := #[{ on := 3, ground := Go.Ground.data }], guard := none }, { dst := some 33, op := Go.Op.move (Go.Operand.tmp 1), type := 112, pos := "law.go:97", after := #[], guard := none }, { dst := some 34, op := Go.Op.move (Go.Operand.tmp 5), type := 3, pos := "law.go:97", after := #[], guard := none }, { dst := some 35, op := Go.Op.indexAddr 112 (Go.Operand.tmp 33) (Go.Operand.tmp 34), type := 0, pos := "law.go:97", after := #[{ on := 5, ground := Go.Ground.data }, { on := 6, ground := Go.Ground.data }], guard := none }, { dst := some 36, op := Go.Op.fieldAddr 203 (Go.Operand.tmp 35) 1, type := 0, pos := "law.go:97", after := #[{ on := 7, ground := Go.Ground.data }], guard := none }, { dst := some 37, op := Go.Op.load 185 (Go.Operand.tmp 36), type := 185, pos := "law.go:97", after := #[{ on := 8, ground := Go.Ground.data }], guard := none }, { dst := some 38, op := Go.Op.call { callee := Go.Callee.value (Go.Operand.func 187), args := #[Go.Operand.tmp 32, Go.Operand.tmp 37], argTypes := #[185, 185] }, type := 4, pos := "law.go:97", after := #[{ on := 4, ground := Go.Ground.data }, { on := 9, ground := Go.Ground.data }], guard := none }, { dst := some 39, op := Go.Op.unOp Go.UnOp.not 4 (Go.Operand.tmp 38), type := 4, pos := "law.go:97", after := #[{ on := 10, ground := Go.Ground.data }], guard := none }]
def op_104_10 : Array Go.Oper := #[{ dst := some 40, op := Go.Op.move (Go.Operand.tmp 0), type := 112, pos := "law.go:100", after := #[], guard := none }, { dst := some 41, op := Go.Op.move (Go.Operand.tmp 5), type := 3, pos := "law.go:100", after := #[], guard := none }, { dst := some 42, op := Go.Op.indexAddr 112 (Go.Operand.tmp 40) (Go.Operand.tmp 41), type := 0, pos := "law.go:100", after := #[{ on := 0, ground := Go.Ground.data }, { on := 1, ground := Go.Ground.data }], guard := none }, { dst := some 43, op := Go.Op.fieldAddr 203 (Go.Operand.tmp 42) 2, type := 0, pos := "law.go:100", after := #[{ on := 2, ground := Go.Ground.data }], guard := none }, { dst := some 44, op := Go.Op.load 185 (Go.Operand.tmp 43), type := 185, pos := "law.go:100", after := #[{ on := 3, ground := Go.Ground.data }], guard := none }, { dst := some 45, op := Go.Op.move (Go.Operand.tmp 1), type := 112, pos := "law.go:100", after := #[], guard := none }, { dst := some 46, op := Go.Op.move (Go.Operand.tmp 5), type := 3, pos := "law.go:100", after := #[], guard := none }, { dst := some 47, op := Go.Op.indexAddr 112 (Go.Operand.tmp 45) (Go.Operand.tmp 46), type := 0, pos := "law.go:100", after := #[{ on := 5, ground := Go.Ground.data }, { on := 6, ground := Go.Ground.data }], guard := none }, { dst := some 48, op := Go.Op.fieldAddr 203 (Go.Operand.tmp 47) 2, type := 0, pos := "law.go:100", after := #[{ on := 7, ground := Go.Ground.data }], guard := none }, { dst := some 49, op := Go.Op.load 185 (Go.Operand.tmp 48), type := 185, pos := "law.go:100", after := #[{ on := 8, ground := Go.Ground.data }], guard := none }, { dst := some 50, op := Go.Op.call { callee := Go.Callee.value (Go.Operand.func 187), args := #[Go.Operand.tmp 44, Go.Operand.tmp 49], argTypes := #[185, 185] }, type := 4, pos := "law.go:100", after := #[{ on := 4, ground := Go.Ground.data }, { on := 9, ground := Go.Ground.data }], guard := none }, { dst := some 51, op := Go.Op.unOp Go.UnOp.not 4 (Go.Operand.tmp 50), type := 4, pos := "law.go:100", after := #[{ on := 10, ground := Go.Ground.data }], guard := none }]
theorem sb_104_6_0 : softB op_104_6 #[true, true, true, true, true, true, true, true, true, true, true] (Array.replicate 11 false) 0 = true := by kernel_rfl
theorem sb_104_6_1 : softB op_104_6 #[true, true, true, true, true, true, true, true, true, true, true] ((Array.replicate 11 false).setIfInBounds 0 true) 1 = true := by kernel_rfl
theorem sb_104_6_2 : softB op_104_6 #[true, true, true, true, true, true, true, true, true, true, true] (((Array.replicate 11 false).setIfInBounds 0 true).setIfInBounds 1 true) 2 = true := by kernel_rfl
theorem sb_104_6_3 : softB op_104_6 #[true, true, true, true, true, true, true, true, true, true, true] ((((Array.replicate 11 false).setIfInBounds 0 true).setIfInBounds 1 true).setIfInBounds 2 true) 3 = true := by kernel_rfl
theorem sb_104_6_4 : softB op_104_6 #[true, true, true, true, true, true, true, true, true, true, true] (((((Array.replicate 11 false).setIfInBounds 0 true).setIfInBounds 1 true).setIfInBounds 2 true).setIfInBounds 3 true) 4 = true := by kernel_rfl
theorem sb_104_6_5 : softB op_104_6 #[true, true, true, true, true, true, true, true, true, true, true] ((((((Array.replicate 11 false).setIfInBounds 0 true).setIfInBounds 1 true).setIfInBounds 2 true).setIfInBounds 3 true).setIfInBounds 4 true) 5 = true := by kernel_rfl
theorem sb_104_6_6 : softB op_104_6 #[true, true, true, true, true, true, true, true, true, true, true] (((((((Array.replicate 11 false).setIfInBounds 0 true).setIfInBounds 1 true).setIfInBounds 2 true).setIfInBounds 3 true).setIfInBounds 4 true).setIfInBounds 5 true) 6 = true := by kernel_rfl
theorem sb_104_6_7 : softB op_104_6 #[true, true, true, true, true, true, true, true, true, true, true] ((((((((Array.replicate 11 false).setIfInBounds 0 true).setIfInBounds 1 true).setIfInBounds 2 true).setIfInBounds 3 true).setIfInBounds 4 true).setIfInBounds 5 true).setIfInBounds 6 true) 7 = true := by kernel_rfl
theorem sb_104_6_8 : softB op_104_6 #[true, true, true, true, true, true, true, true, true, true, true] (((((((((Array.replicate 11 false).setIfInBounds 0 true).setIfInBounds 1 true).setIfInBounds 2 true).setIfInBounds 3 true).setIfInBounds 4 true).setIfInBounds 5 true).setIfInBounds 6 true).setIfInBounds 7 true) 8 = true := by kernel_rfl
theorem sb_104_6_9 : softB op_104_6 #[true, true, true, true, true, true, true, true, true, true, true] ((((((((((Array.replicate 11 false).setIfInBounds 0 true).setIfInBounds 1 true).setIfInBounds 2 true).setIfInBounds 3 true).setIfInBounds 4 true).setIfInBounds 5 true).setIfInBounds 6 true).setIfInBounds 7 true).setIfInBounds 8 true) 9 = true := by kernel_rfl
theorem sb_104_6_10 : softB op_104_6 #[true, true, true, true, true, true, true, true, true, true, true] (((((((((((Array.replicate 11 false).setIfInBounds 0 true).setIfInBounds 1 true).setIfInBounds 2 true).setIfInBounds 3 true).setIfInBounds 4 true).setIfInBounds 5 true).setIfInBounds 6 true).setIfInBounds 7 true).setIfInBounds 8 true).setIfInBounds 9 true) 10 = true := by kernel_rfl
theorem sb_104_6_11 : hardB op_104_6 ((((((((((((Array.replicate 11 false).setIfInBounds 0 true).setIfInBounds 1 true).setIfInBounds 2 true).setIfInBounds 3 true).setIfInBounds 4 true).setIfInBounds 5 true).setIfInBounds 6 true).setIfInBounds 7 true).setIfInBounds 8 true).setIfInBounds 9 true).setIfInBounds 10 true) [] = true := by kernel_rfl
theorem sb_104_8_0 : softB op_104_8 #[true, true, true, true, true, true, true, true, true, true, false, true] (Array.replicate 12 false) 0 = true := by kernel_rfl
theorem sb_104_8_1 : softB op_104_8 #[true, true, true, true, true, true, true, true, true, true, false, true] ((Array.replicate 12 false).setIfInBounds 0 true) 1 = true := by kernel_rfl
theorem sb_104_8_2 : softB op_104_8 #[true, true, true, true, true, true, true, true, true, true, false, true] (((Array.replicate 12 false).setIfInBounds 0 true).setIfInBounds 1 true) 2 = true := by kernel_rfl
theorem sb_104_8_3 : softB op_104_8 #[true, true, true, true, true, true, true, true, true, true, false, true] ((((Array.replicate 12 false).setIfInBounds 0 true).setIfInBounds 1 true).setIfInBounds 2 true) 3 = true := by kernel_rfl
theorem sb_104_8_4 : softB op_104_8 #[true, true, true, true, true, true, true, true, true, true, false, true] (((((Array.replicate 12 false).setIfInBounds 0 true).setIfInBounds 1 true).setIfInBounds 2 true).setIfInBounds 3 true) 4 = true := by kernel_rfl
theorem sb_104_8_5 : softB op_104_8 #[true, true, true, true, true, true, true, true, true, true, false, true] ((((((Array.replicate 12 false).setIfInBounds 0 true).setIfInBounds 1 true).setIfInBounds 2 true).setIfInBounds 3 true).setIfInBounds 4 true) 5 = true := by kernel_rfl
theorem sb_104_8_6 : softB op_104_8 #[true, true, true, true, true, true, true, true, true, true, false, true] (((((((Array.replicate 12 false).setIfInBounds 0 true).setIfInBounds 1 true).setIfInBounds 2 true).setIfInBounds 3 true).setIfInBounds 4 true).setIfInBounds 5 true) 6 = true := by kernel_rfl
theorem sb_104_8_7 : softB op_104_8 #[true, true, true, true, true, true, true, true, true, true, false, true] ((((((((Array.replicate 12 false).setIfInBounds 0 true).setIfInBounds 1 true).setIfInBounds 2 true).setIfInBounds 3 true).setIfInBounds 4 true).setIfInBounds 5 true).setIfInBounds 6 true) 7 = true := by kernel_rfl
theorem sb_104_8_8 : softB op_104_8 #[true, true, true, true, true, true, true, true, true, true, false, true] (((((((((Array.replicate 12 false).setIfInBounds 0 true).setIfInBounds 1 true).setIfInBounds 2 true).setIfInBounds 3 true).setIfInBounds 4 true).setIfInBounds 5 true).setIfInBounds 6 true).setIfInBounds 7 true) 8 = true := by kernel_rfl
theorem sb_104_8_9 : softB op_104_8 #[true, true, true, true, true, true, true, true, true, true, false, true] ((((((((((Array.replicate 12 false).setIfInBounds 0 true).setIfInBounds 1 true).setIfInBounds 2 true).setIfInBounds 3 true).setIfInBounds 4 true).setIfInBounds 5 true).setIfInBounds 6 true).setIfInBounds 7 true).setIfInBounds 8 true) 9 = true := by kernel_rfl
theorem sb_104_8_10 : hardB op_104_8 (((((((((((Array.replicate 12 false).setIfInBounds 0 true).setIfInBounds 1 true).setIfInBounds 2 true).setIfInBounds 3 true).setIfInBounds 4 true).setIfInBounds 5 true).setIfInBounds 6 true).setIfInBounds 7 true).setIfInBounds 8 true).setIfInBounds 9 true) [10] = true := by kernel_rfl
theorem sb_104_8_11 : softB op_104_8 #[true, true, true, true, true, true, true, true, true, true, false, true] ((((((((((((Array.replicate 12 false).setIfInBounds 0 true).setIfInBounds 1 true).setIfInBounds 2 true).setIfInBounds 3 true).setIfInBounds 4 true).setIfInBounds 5 true).setIfInBounds 6 true).setIfInBounds 7 true).setIfInBounds 8 true).setIfInBounds 9 true).setIfInBounds 10 true) 11 = true := by kernel_rfl
theorem sb_104_8_12 : hardB op_104_8 (((((((((((((Array.replicate 12 false).setIfInBounds 0 true).setIfInBounds 1 true).setIfInBounds 2 true).setIfInBounds 3 true).setIfInBounds 4 true).setIfInBounds 5 true).setIfInBounds 6 true).setIfInBounds 7 true).setIfInBounds 8 true).setIfInBounds 9 true).setIfInBounds 10 true).setIfInBounds 11 true) [] = true := by kernel_rfl
theorem sb_104_10_0 : softB op_104_10 #[true, true, true, true, true, true, true, true, true, true, false, true] (Array.replicate 12 false) 0 = true := by kernel_rfl
theorem sb_104_10_1 : softB op_104_10 #[true, true, true, true, true, true, true, true, true, true, false, true] ((Array.replicate 12 false).setIfInBounds 0 true) 1 = true := by kernel_rfl
theorem sb_104_10_2 : softB op_104_10 #[true, true, true, true, true, true, true, true, true, true, false, true] (((Array.replicate 12 false).setIfInBounds 0 true).setIfInBounds 1 true) 2 = true := by kernel_rfl
theorem sb_104_10_3 : softB op_104_10 #[true, true, true, true, true, true, true, true, true, true, false, true] ((((Array.replicate 12 false).setIfInBounds 0 true).setIfInBounds 1 true).setIfInBounds 2 true) 3 = true := by kernel_rfl
theorem sb_104_10_4 : softB op_104_10 #[true, true, true, true, true, true, true, true, true, true, false, true] (((((Array.replicate 12 false).setIfInBounds 0 true).setIfInBounds 1 true).setIfInBounds 2 true).setIfInBounds 3 true) 4 = true := by kernel_rfl
theorem sb_104_10_5 : softB op_104_10 #[true, true, true, true, true, true, true, true, true, true, false, true] ((((((Array.replicate 12 false).setIfInBounds 0 true).setIfInBounds 1 true).setIfInBounds 2 true).setIfInBounds 3 true).setIfInBounds 4 true) 5 = true := by kernel_rfl
theorem sb_104_10_6 : softB op_104_10 #[true, true, true, true, true, true, true, true, true, true, false, true] (((((((Array.replicate 12 false).setIfInBounds 0 true).setIfInBounds 1 true).setIfInBounds 2 true).setIfInBounds 3 true).setIfInBounds 4 true).setIfInBounds 5 true) 6 = true := by kernel_rfl
theorem sb_104_10_7 : softB op_104_10 #[true, true, true, true, true, true, true, true, true, true, false, true] ((((((((Array.replicate 12 false).setIfInBounds 0 true).setIfInBounds 1 true).setIfInBounds 2 true).setIfInBounds 3 true).setIfInBounds 4 true).setIfInBounds 5 true).setIfInBounds 6 true) 7 = true := by kernel_rfl
theorem sb_104_10_8 : softB op_104_10 #[true, true, true, true, true, true, true, true, true, true, false, true] (((((((((Array.replicate 12 false).setIfInBounds 0 true).setIfInBounds 1 true).setIfInBounds 2 true).setIfInBounds 3 true).setIfInBounds 4 true).setIfInBounds 5 true).setIfInBounds 6 true).setIfInBounds 7 true) 8 = true := by kernel_rfl
theorem sb_104_10_9 : softB op_104_10 #[true, true, true, true, true, true, true, true, true, true, false, true] ((((((((((Array.replicate 12 false).setIfInBounds 0 true).setIfInBounds 1 true).setIfInBounds 2 true).setIfInBounds 3 true).setIfInBounds 4 true).setIfInBounds 5 true).setIfInBounds 6 true).setIfInBounds 7 true).setIfInBounds 8 true) 9 = true := by kernel_rfl
theorem sb_104_10_10 : hardB op_104_10 (((((((((((Array.replicate 12 false).setIfInBounds 0 true).setIfInBounds 1 true).setIfInBounds 2 true).setIfInBounds 3 true).setIfInBounds 4 true).setIfInBounds 5 true).setIfInBounds 6 true).setIfInBounds 7 true).setIfInBounds 8 true).setIfInBounds 9 true) [10] = true := by kernel_rfl
theorem sb_104_10_11 : softB op_104_10 #[true, true, true, true, true, true, true, true, true, true, false, true] ((((((((((((Array.replicate 12 false).setIfInBounds 0 true).setIfInBounds 1 true).setIfInBounds 2 true).setIfInBounds 3 true).setIfInBounds 4 true).setIfInBounds 5 true).setIfInBounds 6 true).setIfInBounds 7 true).setIfInBounds 8 true).setIfInBounds 9 true).setIfInBounds 10 true) 11 = true := by kernel_rfl
theorem sb_104_10_12 : hardB op_104_10 (((((((((((((Array.replicate 12 false).setIfInBounds 0 true).setIfInBounds 1 true).setIfInBounds 2 true).setIfInBounds 3 true).setIfInBounds 4 true).setIfInBounds 5 true).setIfInBounds 6 true).setIfInBounds 7 true).setIfInBounds 8 true).setIfInBounds 9 true).setIfInBounds 10 true).setIfInBounds 11 true) [] = true := by kernel_rfl
/- towerlaw.sameHunks -/
def m104_w1 (n : Nat) (a : (List Hunk)) (b_ : (List Hunk)) (mm : Nat) : Int → Option (Flow (Bool) (Int)) := it1 (fun lp1 c1 =>
cond (decide (c1 < (a.length : Int))) (
Option.bind (ixL a c1) fun x1 =>
Option.bind (ixL b_ c1) fun x2 =>
cond (decide (¬ (x1.at_ = x2.at_))) (
Option.bind (some false) fun q1 => some (.ret q1)) (
Option.bind (ixL a c1) fun x3 =>
Option.bind (ixL b_ c1) fun x4 =>
ob1 (m187 n x3.del x4.del) fun c3 =>
cond (!c3) (
Option.bind (some false) fun q2 => some (.ret q2)) (
Option.bind (ixL a c1) fun x5 =>
Option.bind (ixL b_ c1) fun x6 =>
ob1 (m187 n x5.ins x6.ins) fun c4 =>
cond (!c4) (
Option.bind (some false) fun q3 => some (.ret q3)) (
lp1 (wi (c1 + 1)))))) (
some (.nx c1))) mm
def m104 (n : Nat) (a : (List Hunk)) (b_ : (List Hunk)) : Option (Bool) :=
cond (decide (¬ ((a.length : Int) = (b_.length : Int)))) (
some false) (
flow (m104_w1 n a b_ n 0) some (un1 fun c2 =>
some true))
theorem t104 {n : Nat} {C : List Chunk} {rc1 : Bool} {v1 : Value} {a : (List Hunk)} {v2 : Value} {b_ : (List Hunk)} (hr1 : Rd rHunk C v1 a) (hr2 : Rd rHunk C v2 b_)  (hm : m104 n a b_ = some rc1) : Trip Tryz.prog 104 #[v1, v2] ([] ++ [C]) (fun u S' => .bool rc1 = u ∧ S' = [] ++ [C]) := by
  refine fn_entry (args := [v1, v2]) Tryz.func104 rfl Tryz.ntmps104 rfl (fun w0 => ?_)
  refine c_seq ?_
  refine c_region ?_
  refine o_L (y_assign rfl) rfl rfl ?_
  refine o_nil0 rfl ?_
  refine c_seq ?_
  refine c_seq ?_
  refine c_region ?_
  refine o_T (y_move rfl) rfl ?_
  refine o_T (y_lenR hr1 Tryz.underlying112 rfl) rfl ?_
  refine o_T (y_move rfl) rfl ?_
  refine o_T (y_lenR hr2 Tryz.underlying112 rfl) rfl ?_
  refine o_T (y_neq rfl rfl) rfl ?_
  refine o_nil1 10 rfl rfl ?_
  refine c_cond rfl (fun h1 => ?_) (fun h1 => ?_)
  · have hm := cd_t h1 hm
    refine c_seq ?_
    refine c_region ?_
    refine o_L (y_assign rfl) rfl rfl ?_
    refine o_nil0 rfl ?_
    refine c_ret ?_
    obtain rfl := p1 hm
    refine fun aX wX heX hsX => ret1 Tryz.results104 heX rfl (s_take s_nil) ?_
    exact ⟨rfl, rfl⟩
  · have hm := cd_f h1 hm
    refine c_skip ?_
    refine c_seq ?_
    refine c_seq ?_
    refine c_region ?_
    refine o_L (y_assign rfl) rfl rfl ?_
    refine o_nil0 rfl ?_
    obtain ⟨f1, F1, hF1, hj1, hF2⟩ := fl2 hm
    refine c_joinP (n := 0) (fun sh G => ∃ (c2 : Int), sh = [(5, .int .i64 c2)] ∧ G = [] ∧ F1 c2 = some rc1) (s_take s_nil) .z (fun _ _ h => h) ?_ ?_
    · skip
      refine c_block ?_
      refine c_loopP (n := 0) (fun mm sh G => ∃ (c1 : Int), sh = [(5, .int .i64 c1)] ∧ G = [] ∧ m104_w1 n a b_ mm c1 = some f1) n (s_take s_nil) .z ⟨_, _, ⟨_, rfl, rfl, hj1⟩, ⟨rfl, trivial⟩, _, (s_take s_nil)⟩ ?_
      rintro mm sh G ⟨c1, rfl, rfl, hm⟩
      obtain ⟨mm1, rfl, hm⟩ := it1_s hm
      refine c_seq ?_
      refine c_seq ?_
      refine c_region ?_
      refine o_T (y_move rfl) rfl ?_
      refine o_T (y_move rfl) rfl ?_
      refine o_T (y_lenR hr1 Tryz.underlying112 rfl) rfl ?_
      refine o_T (y_lss rfl rfl) rfl ?_
      refine o_nil1 14 rfl rfl ?_
      refine c_cond rfl (fun h2 => ?_) (fun h2 => ?_)
      · have hm := cd_t h2 hm
        refine c_skip ?_
        refine c_seq ?_
        refine c_block ?_
        refine c_seq ?_
        refine c_seq ?_
        refine c_draw #[true, true, true, true, true, true, true, true, true, true, true] rfl (n := 11) rfl ?_
        refine d_T 0 rfl sb_104_6_0 rfl (y_move rfl) rfl ?_
        refine d_T 1 rfl sb_104_6_1 rfl (y_move rfl) rfl ?_
        obtain ⟨x1, hx1, hm⟩ := bd hm
        obtain ⟨b1, w1, cs1, y1, z1, vs1, hc1, ha1, hr3, hy1⟩ := hr1.ix hx1
        obtain ⟨v3, v4, rfl, hr4, hr5⟩ := hr3
        refine d_T 2 rfl sb_104_6_2 rfl (hy1 sl_112 rfl rfl rfl) rfl ?_
        refine d_T 3 rfl sb_104_6_3 rfl (y_fa fl_203_0 rfl) rfl ?_
        refine d_ld 4 rfl sb_104_6_4 one_3 rfl (fun x hx => hx) (mg hc1) (At.getA (ha1.comp Hunk.a_at_)) rfl ?_
        refine d_T 5 rfl sb_104_6_5 rfl (y_move rfl) rfl ?_
        refine d_T 6 rfl sb_104_6_6 rfl (y_move rfl) rfl ?_
        obtain ⟨x2, hx2, hm⟩ := bd hm
        obtain ⟨b2, w2, cs2, y2, z2, vs2, hc2, ha2, hr6, hy2⟩ := hr2.ix hx2
        obtain ⟨v5, v6, rfl, hr7, hr8⟩ := hr6
        refine d_T 7 rfl sb_104_6_7 rfl (hy2 sl_112 rfl rfl rfl) rfl ?_
        refine d_T 8 rfl sb_104_6_8 rfl (y_fa fl_203_0 rfl) rfl ?_
        refine d_ld 9 rfl sb_104_6_9 one_3 rfl (fun x hx => hx) (mg hc2) (At.getA (ha2.comp Hunk.a_at_)) rfl ?_
        refine d_T 10 rfl sb_104_6_10 rfl (y_neq rfl rfl) rfl ?_
        refine d_nil1 27 sb_104_6_11 rfl rfl ?_
        refine c_cond rfl (fun h3 => ?_) (fun h3 => ?_)
        · have hm := cd_t h3 hm
          refine c_seq ?_
          refine c_region ?_
          refine o_L (y_assign rfl) rfl rfl ?_
          refine o_nil0 rfl ?_
          refine c_ret ?_
          obtain ⟨q1, hq1, hm⟩ := bd hm
          have hm := fl_ret hm hF2
          have hm := hq1.trans hm
          obtain rfl := p1 hm
          refine fun aX wX heX hsX => ret1 Tryz.results104 heX rfl (s_take s_nil) ?_
          exact ⟨rfl, rfl⟩
        · have hm := cd_f h3 hm
          refine c_skip ?_
          refine c_seq ?_
          refine c_seq ?_
          refine c_draw #[true, true, true, true, true, true, true, true, true, true, false, true] rfl (n := 12) rfl ?_
          refine d_T 0 rfl sb_104_8_0 rfl (y_move rfl) rfl ?_
          refine d_T 1 rfl sb_104_8_1 rfl (y_move rfl) rfl ?_
          obtain ⟨x3, hx3, hm⟩ := bd hm
          obtain ⟨b3, w3, cs3, y3, z3, vs3, hc3, ha3, hr9, hy3⟩ := hr1.ix hx3
          obtain ⟨v7, v8, rfl, hr10, hr11⟩ := hr9
          refine d_T 2 rfl sb_104_8_2 rfl (hy3 sl_112 rfl rfl rfl) rfl ?_
          refine d_T 3 rfl sb_104_8_3 rfl (y_fa fl_203_1 rfl) rfl ?_
          refine d_ld 4 rfl sb_104_8_4 one_185 rfl (fun x hx => hx) (mg hc3) (At.getA (ha3.comp Hunk.a_del)) rfl ?_
          refine d_T 5 rfl sb_104_8_5 rfl (y_move rfl) rfl ?_
          refine d_T 6 rfl sb_104_8_6 rfl (y_move rfl) rfl ?_
          obtain ⟨x4, hx4, hm⟩ := bd hm
          obtain ⟨b4, w4, cs4, y4, z4, vs4, hc4, ha4, hr12, hy4⟩ := hr2.ix hx4
          obtain ⟨v9, v10, rfl, hr13, hr14⟩ := hr12
          refine d_T 7 rfl sb_104_8_7 rfl (hy4 sl_112 rfl rfl rfl) rfl ?_
          refine d_T 8 rfl sb_104_8_8 rfl (y_fa fl_203_1 rfl) rfl ?_
          refine d_ld 9 rfl sb_104_8_9 one_185 rfl (fun x hx => hx) (mg hc4) (At.getA (ha4.comp Hunk.a_del)) rfl ?_
          refine d_hard 10 rfl sb_104_8_10 ?_
          obtain ⟨c3, hx5, hm⟩ := bd1 hm
          refine o_callC en_187 rfl s_nil (t187 (hr10.1.mono (fun _ hz => (mg hz))) (hr13.1.mono (fun _ hz => (mg hz))) hx5) rfl (fun u1 S1 hR1 => ?_)
          obtain ⟨rfl, rfl⟩ := hR1
          refine o_rest ?_
          refine o_stop (fun h => nomatch h) ?_
          refine d_T 11 rfl sb_104_8_11 rfl (y_not rfl) rfl ?_
          refine d_nil1 39 sb_104_8_12 rfl rfl ?_
          refine c_cond rfl (fun h4 => ?_) (fun h4 => ?_)
          · have hm := cd_t h4 hm
            refine c_seq ?_
            refine c_region ?_
            refine o_L (y_assign rfl) rfl rfl ?_
            refine o_nil0 rfl ?_
            refine c_ret ?_
            obtain ⟨q2, hq2, hm⟩ := bd hm
            have hm := fl_ret hm hF2
            have hm := hq2.trans hm
            obtain rfl := p1 hm
            refine fun aX wX heX hsX => ret1 Tryz.results104 heX rfl (s_take s_nil) ?_
            exact ⟨rfl, rfl⟩
          · have hm := cd_f h4 hm
            refine c_skip ?_
            refine c_seq ?_
            refine c_draw #[true, true, true, true, true, true, true, true, true, true, false, true] rfl (n := 12) rfl ?_
            refine d_T 0 rfl sb_104_10_0 rfl (y_move rfl) rfl ?_
            refine d_T 1 rfl sb_104_10_1 rfl (y_move rfl) rfl ?_
            obtain ⟨x5, hx6, hm⟩ := bd hm
            obtain ⟨b5, w5, cs5, y5, z5, vs5, hc5, ha5, hr15, hy5⟩ := hr1.ix hx6
            obtain ⟨v11, v12, rfl, hr16, hr17⟩ := hr15
            refine d_T 2 rfl sb_104_10_2 rfl (hy5 sl_112 rfl rfl rfl) rfl ?_
            refine d_T 3 rfl sb_104_10_3 rfl (y_fa fl_203_2 rfl) rfl ?_
            refine d_ld 4 rfl sb_104_10_4 one_185 rfl (fun x hx => hx) (mg hc5) (At.getA (ha5.comp Hunk.a_ins)) rfl ?_
            refine d_T 5 rfl sb_104_10_5 rfl (y_move rfl) rfl ?_
            refine d_T 6 rfl sb_104_10_6 rfl (y_move rfl) rfl ?_
            obtain ⟨x6, hx7, hm⟩ := bd hm
            obtain ⟨b6, w6, cs6, y6, z6, vs6, hc6, ha6, hr18, hy6⟩ := hr2.ix hx7
            obtain ⟨v13, v14, rfl, hr19, hr20⟩ := hr18
            refine d_T 7 rfl sb_104_10_7 rfl (hy6 sl_112 rfl rfl rfl) rfl ?_
            refine d_T 8 rfl sb_104_10_8 rfl (y_fa fl_203_2 rfl) rfl ?_
            refine d_ld 9 rfl sb_104_10_9 one_185 rfl (fun x hx => hx) (mg hc6) (At.getA (ha6.comp Hunk.a_ins)) rfl ?_
            refine d_hard 10 rfl sb_104_10_10 ?_
            obtain ⟨c4, hx8, hm⟩ := bd1 hm
            refine o_callC en_187 rfl s_nil (t187 (hr17.1.mono (fun _ hz => (mg hz))) (hr20.1.mono (fun _ hz => (mg hz))) hx8) rfl (fun u2 S2 hR2 => ?_)
            obtain ⟨rfl, rfl⟩ := hR2
            refine o_rest ?_
            refine o_stop (fun h => nomatch h) ?_
            refine d_T 11 rfl sb_104_10_11 rfl (y_not rfl) rfl ?_
            refine d_nil1 51 sb_104_10_12 rfl rfl ?_
            refine c_cond rfl (fun h5 => ?_) (fun h5 => ?_)
            · have hm := cd_t h5 hm
              refine c_seq ?_
              refine c_region ?_
              refine o_L (y_assign rfl) rfl rfl ?_
              refine o_nil0 rfl ?_
              refine c_ret ?_
              obtain ⟨q3, hq3, hm⟩ := bd hm
              have hm := fl_ret hm hF2
              have hm := hq3.trans hm
              obtain rfl := p1 hm
              refine fun aX wX heX hsX => ret1 Tryz.results104 heX rfl (s_take s_nil) ?_
              exact ⟨rfl, rfl⟩
            · have hm := cd_f h5 hm
              refine c_skip ?_
              refine c_region ?_
              refine o_T (y_move rfl) rfl ?_
              refine o_T (y_add rfl rfl rfl) rfl ?_
              refine o_L (y_assign rfl) rfl rfl ?_
              refine o_nil0 rfl ?_
              exact ⟨mm1, Nat.lt_succ_self _, _, _, ⟨_, rfl, rfl, hm⟩, ⟨rfl, trivial⟩, ⟨rfl, rfl⟩, _, (s_take s_nil)⟩
      · have hm := cd_f h2 hm
        refine c_exit ?_
        have hm := fl_nx hm hF2
        exact ⟨_, _, ⟨_, rfl, rfl, hm⟩, ⟨rfl, trivial⟩, ⟨rfl, rfl⟩, _, (s_take s_nil)⟩
    · rintro sh G ⟨c2, rfl, rfl, hm⟩
      subst hF1
      refine c_seq ?_
      refine c_region ?_
      refine o_L (y_assign rfl) rfl rfl ?_
      refine o_nil0 rfl ?_
      refine c_ret ?_
      obtain rfl := p1 hm
      refine fun aX wX heX hsX => ret1 Tryz.results104 heX rfl (s_take s_nil) ?_
      exact ⟨rfl, rfl⟩
end Go.Proofs.Qxb6500350aGreat
