/- MADE BY PROGRAM (tools350/mir.py): mirror and walk. -/
import Derived.Test.Qxb6500350aGreatF2
import Derived.Test.Qxb6500350aGreatT152
import Derived.Test.Qxb6500350aGreatT207
import Derived.Test.Qxb6500350aGreatT250
import Derived.Test.Qxb6500350aGreatT251
set_option linter.unusedVariables false
set_option linter.unusedSimpArgs false
set_option maxRecDepth 20000
set_option maxHeartbeats 4000000
namespace Go.Proofs.Qxb6500350aGreat
open Go.Eng

def op_179_23 : Array Go.Oper := #[{ dst := some 149, op := Go.Op.move (Go.Operand.tmp 9), type := 221, pos := "status.go:64", after := #[], guard := none }, { dst := some 150, op := Go.Op.move (Go.Operand.tmp 12), type := 3, pos := "status.go:64", after := #[], guard := none }, { dst := some 151, op := Go.Op.indexAddr 221 (Go.Operand.tmp 149) (Go.Operand.tmp 150), type := 0, pos := "status.go:64", after := #[{ on := 0, ground := Go.Ground.data }, { on := 1, ground := Go.Ground.data }], guard := none }, { dst := some 152, op := Go.Op.load 224 (Go.Operand.tmp 151), type := 224, pos := "status.go:64", after := #[{ on := 2, ground := Go.Ground.data }], guard := none }, { dst := some 153, op := Go.Op.move (Go.Operand.tmp 1), type := 57, pos := "status.go:64", after := #[], guard := none }, { dst := some 154, op := Go.Op.move (Go.Operand.tmp 11), type := 3, pos := "status.go:64", after := #[], guard := none }, { dst := some 155, op := Go.Op.indexAddr 57 (Go.Operand.tmp 153) (Go.Operand.tmp 154), type := 0, pos := "status.go:64", after := #[{ on := 4, ground := Go.Ground.data }, { on := 5, ground := Go.Ground.data }], guard := none }, { dst := some 156, op := Go.Op.fieldAddr 71 (Go.Operand.tmp 155) 1, type := 0, pos := "status.go:64", after := #[{ on := 6, ground := Go.Ground.data }], guard := none }, { dst := some 157, op := Go.Op.load 9 (Go.Operand.tmp 156), type := 9, pos := "status.go:64", after := #[{ on := 7, ground := Go.Ground.data }], guard := none }, { dst := some 158, op := Go.Op.call { callee := Go.Callee.value (Go.Operand.func 250), args := #[Go.Operand.tmp 152, Go.Operand.tmp 157], argTypes := #[224, 9] }, type := 4, pos := "status.go:64", after := #[{ on := 3, ground := Go.Ground.data }, { on := 8, ground := Go.Ground.data }], guard := none }, { dst := some 19, op := Go.Op.assign (Go.Operand.tmp 158), type := 4, pos := "status.go:64", after := #[{ on := 9, ground := Go.Ground.data }, { on := 9, ground := Go.Ground.chain }, { on := 0, ground := Go.Ground.phase }, { on := 1, ground := Go.Ground.phase }, { on := 2, ground := Go.Ground.phase }, { on := 3, ground := Go.Ground.phase }, { on := 4, ground := Go.Ground.phase }, { on := 5, ground := Go.Ground.phase }, { on := 6, ground := Go.Ground.phase }, { on := 7, ground := Go.Ground.phase }, { on := 8, ground := Go.Ground.phase }, { on := 9, ground := Go.Ground.phase }], guard := none }]
def op_179_24 : Array Go.Oper := #[{ dst := some 159, op := Go.Op.move (Go.Operand.tmp 1), type := 57, pos := "status.go:65", after := #[], guard := none }, { dst := some 160, op := Go.Op.move (Go.Operand.tmp 11), type := 3, pos := "status.go:65", after := #[], guard := none }, { dst := some 161, op := Go.Op.indexAddr 57 (Go.Operand.tmp 159) (Go.Operand.tmp 160), type := 0, pos := "status.go:65", after := #[{ on := 0, ground := Go.Ground.data }, { on := 1, ground := Go.Ground.data }], guard := none }, { dst := some 162, op := Go.Op.fieldAddr 71 (Go.Operand.tmp 161) 2, type := 0, pos := "status.go:65", after := #[{ on := 2, ground := Go.Ground.data }], guard := none }, { dst := some 163, op := Go.Op.load 3 (Go.Operand.tmp 162), type := 3, pos := "status.go:65", after := #[{ on := 3, ground := Go.Ground.data }], guard := none }, { dst := some 164, op := Go.Op.move (Go.Operand.tmp 9), type := 221, pos := "status.go:65", after := #[], guard := none }, { dst := some 165, op := Go.Op.move (Go.Operand.tmp 12), type := 3, pos := "status.go:65", after := #[], guard := none }, { dst := some 166, op := Go.Op.indexAddr 221 (Go.Operand.tmp 164) (Go.Operand.tmp 165), type := 0, pos := "status.go:65", after := #[{ on := 5, ground := Go.Ground.data }, { on := 6, ground := Go.Ground.data }], guard := none }, { dst := some 167, op := Go.Op.fieldAddr 224 (Go.Operand.tmp 166) 0, type := 0, pos := "status.go:65", after := #[{ on := 7, ground := Go.Ground.data }], guard := none }, { dst := some 168, op := Go.Op.fieldAddr 71 (Go.Operand.tmp 167) 2, type := 0, pos := "status.go:65", after := #[{ on := 8, ground := Go.Ground.data }], guard := none }, { dst := some 169, op := Go.Op.load 3 (Go.Operand.tmp 168), type := 3, pos := "status.go:65", after := #[{ on := 9, ground := Go.Ground.data }], guard := none }, { dst := some 170, op := Go.Op.binOp Go.BinOp.neq 3 (Go.Operand.tmp 163) (Go.Operand.tmp 169) 3, type := 4, pos := "status.go:65", after := #[{ on := 4, ground := Go.Ground.data }, { on := 10, ground := Go.Ground.data }], guard := none }]
def op_179_27 : Array Go.Oper := #[{ dst := some 175, op := Go.Op.move (Go.Operand.tmp 9), type := 221, pos := "status.go:70", after := #[], guard := none }, { dst := some 176, op := Go.Op.move (Go.Operand.tmp 12), type := 3, pos := "status.go:70", after := #[], guard := none }, { dst := some 177, op := Go.Op.indexAddr 221 (Go.Operand.tmp 175) (Go.Operand.tmp 176), type := 0, pos := "status.go:70", after := #[{ on := 0, ground := Go.Ground.data }, { on := 1, ground := Go.Ground.data }], guard := none }, { dst := some 178, op := Go.Op.load 224 (Go.Operand.tmp 177), type := 224, pos := "status.go:70", after := #[{ on := 2, ground := Go.Ground.data }], guard := none }, { dst := some 179, op := Go.Op.move (Go.Operand.tmp 2), type := 57, pos := "status.go:70", after := #[], guard := none }, { dst := some 180, op := Go.Op.move (Go.Operand.tmp 13), type := 3, pos := "status.go:70", after := #[], guard := none }, { dst := some 181, op := Go.Op.indexAddr 57 (Go.Operand.tmp 179) (Go.Operand.tmp 180), type := 0, pos := "status.go:70", after := #[{ on := 4, ground := Go.Ground.data }, { on := 5, ground := Go.Ground.data }], guard := none }, { dst := some 182, op := Go.Op.fieldAddr 71 (Go.Operand.tmp 181) 1, type := 0, pos := "status.go:70", after := #[{ on := 6, ground := Go.Ground.data }], guard := none }, { dst := some 183, op := Go.Op.load 9 (Go.Operand.tmp 182), type := 9, pos := "status.go:70", after := #[{ on := 7, ground := Go.Ground.data }], guard := none }, { dst := some 184, op := Go.Op.call { callee := Go.Callee.value (Go.Operand.func 250), args := #[Go.Operand.tmp 178, Go.Operand.tmp 183], argTypes := #[224, 9] }, type := 4, pos := "status.go:70", after := #[{ on := 3, ground := Go.Ground.data }, { on := 8, ground := Go.Ground.data }], guard := none }, { dst := some 20, op := Go.Op.assign (Go.Operand.tmp 184), type := 4, pos := "status.go:70", after := #[{ on := 9, ground := Go.Ground.data }, { on := 9, ground := Go.Ground.chain }, { on := 0, ground := Go.Ground.phase }, { on := 1, ground := Go.Ground.phase }, { on := 2, ground := Go.Ground.phase }, { on := 3, ground := Go.Ground.phase }, { on := 4, ground := Go.Ground.phase }, { on := 5, ground := Go.Ground.phase }, { on := 6, ground := Go.Ground.phase }, { on := 7, ground := Go.Ground.phase }, { on := 8, ground := Go.Ground.phase }, { on := 9, ground := Go.Ground.phase }], guard := none }]
theorem sb_179_23_0 : softB op_179_23 #[true, true, true, true, true, true, true, true, true, false, true] (Array.replicate 11 false) 0 = true := by kernel_rfl
theorem sb_179_23_1 : softB op_179_23 #[true, true, true, true, true, true, true, true, true, false, true] ((Array.replicate 11 false).setIfInBounds 0 true) 1 = true := by kernel_rfl
theorem sb_179_23_2 : softB op_179_23 #[true, true, true, true, true, true, true, true, true, false, true] (((Array.replicate 11 false).setIfInBounds 0 true).setIfInBounds 1 true) 2 = true := by kernel_rfl
theorem sb_179_23_3 : softB op_179_23 #[true, true, true, true, true, true, true, true, true, false, true] ((((Array.replicate 11 false).setIfInBounds 0 true).setIfInBounds 1 true).setIfInBounds 2 true) 3 = true := by kernel_rfl
theorem sb_179_23_4 : softB op_179_23 #[true, true, true, true, true, true, true, true, true, false, true] (((((Array.replicate 11 false).setIfInBounds 0 true).setIfInBounds 1 true).setIfInBounds 2 true).setIfInBounds 3 true) 4 = true := by kernel_rfl
theorem sb_179_23_5 : softB op_179_23 #[true, true, true, true, true, true, true, true, true, false, true] ((((((Array.replicate 11 false).setIfInBounds 0 true).setIfInBounds 1 true).setIfInBounds 2 true).setIfInBounds 3 true).setIfInBounds 4 true) 5 = true := by kernel_rfl
theorem sb_179_23_6 : softB op_179_23 #[true, true, true, true, true, true, true, true, true, false, true] (((((((Array.replicate 11 false).setIfInBounds 0 true).setIfInBounds 1 true).setIfInBounds 2 true).setIfInBounds 3 true).setIfInBounds 4 true).setIfInBounds 5 true) 6 = true := by kernel_rfl
theorem sb_179_23_7 : softB op_179_23 #[true, true, true, true, true, true, true, true, true, false, true] ((((((((Array.replicate 11 false).setIfInBounds 0 true).setIfInBounds 1 true).setIfInBounds 2 true).setIfInBounds 3 true).setIfInBounds 4 true).setIfInBounds 5 true).setIfInBounds 6 true) 7 = true := by kernel_rfl
theorem sb_179_23_8 : softB op_179_23 #[true, true, true, true, true, true, true, true, true, false, true] (((((((((Array.replicate 11 false).setIfInBounds 0 true).setIfInBounds 1 true).setIfInBounds 2 true).setIfInBounds 3 true).setIfInBounds 4 true).setIfInBounds 5 true).setIfInBounds 6 true).setIfInBounds 7 true) 8 = true := by kernel_rfl
theorem sb_179_23_9 : hardB op_179_23 ((((((((((Array.replicate 11 false).setIfInBounds 0 true).setIfInBounds 1 true).setIfInBounds 2 true).setIfInBounds 3 true).setIfInBounds 4 true).setIfInBounds 5 true).setIfInBounds 6 true).setIfInBounds 7 true).setIfInBounds 8 true) [9] = true := by kernel_rfl
theorem sb_179_23_10 : softB op_179_23 #[true, true, true, true, true, true, true, true, true, false, true] (((((((((((Array.replicate 11 false).setIfInBounds 0 true).setIfInBounds 1 true).setIfInBounds 2 true).setIfInBounds 3 true).setIfInBounds 4 true).setIfInBounds 5 true).setIfInBounds 6 true).setIfInBounds 7 true).setIfInBounds 8 true).setIfInBounds 9 true) 10 = true := by kernel_rfl
theorem sb_179_23_11 : hardB op_179_23 ((((((((((((Array.replicate 11 false).setIfInBounds 0 true).setIfInBounds 1 true).setIfInBounds 2 true).setIfInBounds 3 true).setIfInBounds 4 true).setIfInBounds 5 true).setIfInBounds 6 true).setIfInBounds 7 true).setIfInBounds 8 true).setIfInBounds 9 true).setIfInBounds 10 true) [] = true := by kernel_rfl
theorem sb_179_24_0 : softB op_179_24 #[true, true, true, true, true, true, true, true, true, true, true, true] (Array.replicate 12 false) 0 = true := by kernel_rfl
theorem sb_179_24_1 : softB op_179_24 #[true, true, true, true, true, true, true, true, true, true, true, true] ((Array.replicate 12 false).setIfInBounds 0 true) 1 = true := by kernel_rfl
theorem sb_179_24_2 : softB op_179_24 #[true, true, true, true, true, true, true, true, true, true, true, true] (((Array.replicate 12 false).setIfInBounds 0 true).setIfInBounds 1 true) 2 = true := by kernel_rfl
theorem sb_179_24_3 : softB op_179_24 #[true, true, true, true, true, true, true, true, true, true, true, true] ((((Array.replicate 12 false).setIfInBounds 0 true).setIfInBounds 1 true).setIfInBounds 2 true) 3 = true := by kernel_rfl
theorem sb_179_24_4 : softB op_179_24 #[true, true, true, true, true, true, true, true, true, true, true, true] (((((Array.replicate 12 false).setIfInBounds 0 true).setIfInBounds 1 true).setIfInBounds 2 true).setIfInBounds 3 true) 4 = true := by kernel_rfl
theorem sb_179_24_5 : softB op_179_24 #[true, true, true, true, true, true, true, true, true, true, true, true] ((((((Array.replicate 12 false).setIfInBounds 0 true).setIfInBounds 1 true).setIfInBounds 2 true).setIfInBounds 3 true).setIfInBounds 4 true) 5 = true := by kernel_rfl
theorem sb_179_24_6 : softB op_179_24 #[true, true, true, true, true, true, true, true, true, true, true, true] (((((((Array.replicate 12 false).setIfInBounds 0 true).setIfInBounds 1 true).setIfInBounds 2 true).setIfInBounds 3 true).setIfInBounds 4 true).setIfInBounds 5 true) 6 = true := by kernel_rfl
theorem sb_179_24_7 : softB op_179_24 #[true, true, true, true, true, true, true, true, true, true, true, true] ((((((((Array.replicate 12 false).setIfInBounds 0 true).setIfInBounds 1 true).setIfInBounds 2 true).setIfInBounds 3 true).setIfInBounds 4 true).setIfInBounds 5 true).setIfInBounds 6 true) 7 = true := by kernel_rfl
theorem sb_179_24_8 : softB op_179_24 #[true, true, true, true, true, true, true, true, true, true, true, true] (((((((((Array.replicate 12 false).setIfInBounds 0 true).setIfInBounds 1 true).setIfInBounds 2 true).setIfInBounds 3 true).setIfInBounds 4 true).setIfInBounds 5 true).setIfInBounds 6 true).setIfInBounds 7 true) 8 = true := by kernel_rfl
theorem sb_179_24_9 : softB op_179_24 #[true, true, true, true, true, true, true, true, true, true, true, true] ((((((((((Array.replicate 12 false).setIfInBounds 0 true).setIfInBounds 1 true).setIfInBounds 2 true).setIfInBounds 3 true).setIfInBounds 4 true).setIfInBounds 5 true).setIfInBounds 6 true).setIfInBounds 7 true).setIfInBounds 8 true) 9 = true := by kernel_rfl
theorem sb_179_24_10 : softB op_179_24 #[true, true, true, true, true, true, true, true, true, true, true, true] (((((((((((Array.replicate 12 false).setIfInBounds 0 true).setIfInBounds 1 true).setIfInBounds 2 true).setIfInBounds 3 true).setIfInBounds 4 true).setIfInBounds 5 true).setIfInBounds 6 true).setIfInBounds 7 true).setIfInBounds 8 true).setIfInBounds 9 true) 10 = true := by kernel_rfl
theorem sb_179_24_11 : softB op_179_24 #[true, true, true, true, true, true, true, true, true, true, true, true] ((((((((((((Array.replicate 12 false).setIfInBounds 0 true).setIfInBounds 1 true).setIfInBounds 2 true).setIfInBounds 3 true).setIfInBounds 4 true).setIfInBounds 5 true).setIfInBounds 6 true).setIfInBounds 7 true).setIfInBounds 8 true).setIfInBounds 9 true).setIfInBounds 10 true) 11 = true := by kernel_rfl
theorem sb_179_24_12 : hardB op_179_24 (((((((((((((Array.replicate 12 false).setIfInBounds 0 true).setIfInBounds 1 true).setIfInBounds 2 true).setIfInBounds 3 true).setIfInBounds 4 true).setIfInBounds 5 true).setIfInBounds 6 true).setIfInBounds 7 true).setIfInBounds 8 true).setIfInBounds 9 true).setIfInBounds 10 true).setIfInBounds 11 true) [] = true := by kernel_rfl
theorem sb_179_27_0 : softB op_179_27 #[true, true, true, true, true, true, true, true, true, false, true] (Array.replicate 11 false) 0 = true := by kernel_rfl
theorem sb_179_27_1 : softB op_179_27 #[true, true, true, true, true, true, true, true, true, false, true] ((Array.replicate 11 false).setIfInBounds 0 true) 1 = true := by kernel_rfl
theorem sb_179_27_2 : softB op_179_27 #[true, true, true, true, true, true, true, true, true, false, true] (((Array.replicate 11 false).setIfInBounds 0 true).setIfInBounds 1 true) 2 = true := by kernel_rfl
theorem sb_179_27_3 : softB op_179_27 #[true, true, true, true, true, true, true, true, true, false, true] ((((Array.replicate 11 false).setIfInBounds 0 true).setIfInBounds 1 true).setIfInBounds 2 true) 3 = true := by kernel_rfl
theorem sb_179_27_4 : softB op_179_27 #[true, true, true, true, true, true, true, true, true, false, true] (((((Array.replicate 11 false).setIfInBounds 0 true).setIfInBounds 1 true).setIfInBounds 2 true).setIfInBounds 3 true) 4 = true := by kernel_rfl
theorem sb_179_27_5 : softB op_179_27 #[true, true, true, true, true, true, true, true, true, false, true] ((((((Array.replicate 11 false).setIfInBounds 0 true).setIfInBounds 1 true).setIfInBounds 2 true).setIfInBounds 3 true).setIfInBounds 4 true) 5 = true := by kernel_rfl
theorem sb_179_27_6 : softB op_179_27 #[true, true, true, true, true, true, true, true, true, false, true] (((((((Array.replicate 11 false).setIfInBounds 0 true).setIfInBounds 1 true).setIfInBounds 2 true).setIfInBounds 3 true).setIfInBounds 4 true).setIfInBounds 5 true) 6 = true := by kernel_rfl
theorem sb_179_27_7 : softB op_179_27 #[true, true, true, true, true, true, true, true, true, false, true] ((((((((Array.replicate 11 false).setIfInBounds 0 true).setIfInBounds 1 true).setIfInBounds 2 true).setIfInBounds 3 true).setIfInBounds 4 true).setIfInBounds 5 true).setIfInBounds 6 true) 7 = true := by kernel_rfl
theorem sb_179_27_8 : softB op_179_27 #[true, true, true, true, true, true, true, true, true, false, true] (((((((((Array.replicate 11 false).setIfInBounds 0 true).setIfInBounds 1 true).setIfInBounds 2 true).setIfInBounds 3 true).setIfInBounds 4 true).setIfInBounds 5 true).setIfInBounds 6 true).setIfInBounds 7 true) 8 = true := by kernel_rfl
theorem sb_179_27_9 : hardB op_179_27 ((((((((((Array.replicate 11 false).setIfInBounds 0 true).setIfInBounds 1 true).setIfInBounds 2 true).setIfInBounds 3 true).setIfInBounds 4 true).setIfInBounds 5 true).setIfInBounds 6 true).setIfInBounds 7 true).setIfInBounds 8 true) [9] = true := by kernel_rfl
theorem sb_179_27_10 : softB op_179_27 #[true, true, true, true, true, true, true, true, true, false, true] (((((((((((Array.replicate 11 false).setIfInBounds 0 true).setIfInBounds 1 true).setIfInBounds 2 true).setIfInBounds 3 true).setIfInBounds 4 true).setIfInBounds 5 true).setIfInBounds 6 true).setIfInBounds 7 true).setIfInBounds 8 true).setIfInBounds 9 true) 10 = true := by kernel_rfl
theorem sb_179_27_11 : hardB op_179_27 ((((((((((((Array.replicate 11 false).setIfInBounds 0 true).setIfInBounds 1 true).setIfInBounds 2 true).setIfInBounds 3 true).setIfInBounds 4 true).setIfInBounds 5 true).setIfInBounds 6 true).setIfInBounds 7 true).setIfInBounds 8 true).setIfInBounds 9 true).setIfInBounds 10 true) [] = true := by kernel_rfl
/- (*index.Index).Status -/
def m179_w1 (n : Nat) (head : (List File)) (work : (List File)) (l1 : List Row_) (mm : Nat) : (List Chg) → Int → Int → Int → Option ((List Chg) × Int × Int × Int) := it4 (fun lp1 l2 c3 c4 c5 =>
cond (((decide (c3 < (head.length : Int))) || (decide (c4 < (l1.length : Int)))) || (decide (c5 < (work.length : Int)))) (
ob2 (cond (decide (c3 < (head.length : Int))) (
Option.bind (ixL head c3) fun x1 =>
some (x1.path, true)) (
some ([], false))) fun c9 c10 =>
ob1 (cond (decide (c4 < (l1.length : Int))) (cond (!c10) (some (true)) (Option.bind (ixL l1 c4) fun x2 =>
some ((sLt x2.f.path c9)))) (some (false))) fun c11 =>
ob2 (cond c11 (
Option.bind (ixL l1 c4) fun x3 =>
some (x3.f.path, true)) (
some (c9, c10))) fun c12 c13 =>
ob1 (cond (decide (c5 < (work.length : Int))) (cond (!c13) (some (true)) (Option.bind (ixL work c5) fun x4 =>
some ((sLt x4.path c12)))) (some (false))) fun c14 =>
ob1 (cond c14 (
Option.bind (ixL work c5) fun x5 =>
some x5.path) (
some c12)) fun c15 =>
ob1 (cond (decide (c3 < (head.length : Int))) (Option.bind (ixL head c3) fun x6 =>
some ((decide (x6.path = c15)))) (some (false))) fun c16 =>
ob1 (cond (decide (c4 < (l1.length : Int))) (Option.bind (ixL l1 c4) fun x7 =>
some ((decide (x7.f.path = c15)))) (some (false))) fun c17 =>
ob1 (cond (decide (c5 < (work.length : Int))) (Option.bind (ixL work c5) fun x8 =>
some ((decide (x8.path = c15)))) (some (false))) fun c18 =>
ob1 (cond (c16 && c17) (
Option.bind (ixL l1 c4) fun x9 =>
Option.bind (ixL head c3) fun x10 =>
ob1 (m250 n x9 x10.data) fun c20 =>
Option.bind (ixL head c3) fun x11 =>
Option.bind (ixL l1 c4) fun x12 =>
cond (decide (¬ (x11.mode = x12.f.mode))) (
some false) (
some c20)) (
some false)) fun c19 =>
ob1 (cond (c17 && c18) (
Option.bind (ixL l1 c4) fun x13 =>
Option.bind (ixL work c5) fun x14 =>
ob1 (m250 n x13 x14.data) fun c22 =>
some c22) (
some false)) fun c21 =>
nm (({ Chg.zero with path := c15 }) : Chg) fun z15 =>
ob1 (m251 n c16 c17 c19) fun c23 =>
nm ({ z15 with staged := c23 } : Chg) fun z16 =>
ob1 (m251 n c17 c18 c21) fun c24 =>
nm ({ z16 with work := c24 } : Chg) fun z17 =>
cond ((decide (¬ (z17.staged = 0))) || (decide (¬ (z17.work = 0)))) (
Option.bind (apd l2 z17) fun l4 =>
cond c16 (
cond c17 (
cond c18 (
lp1 l4 (wi (c3 + 1)) (wi (c4 + 1)) (wi (c5 + 1))) (
lp1 l4 (wi (c3 + 1)) (wi (c4 + 1)) c5)) (
cond c18 (
lp1 l4 (wi (c3 + 1)) c4 (wi (c5 + 1))) (
lp1 l4 (wi (c3 + 1)) c4 c5))) (
cond c17 (
cond c18 (
lp1 l4 c3 (wi (c4 + 1)) (wi (c5 + 1))) (
lp1 l4 c3 (wi (c4 + 1)) c5)) (
cond c18 (
lp1 l4 c3 c4 (wi (c5 + 1))) (
lp1 l4 c3 c4 c5)))) (
cond c16 (
cond c17 (
cond c18 (
lp1 l2 (wi (c3 + 1)) (wi (c4 + 1)) (wi (c5 + 1))) (
lp1 l2 (wi (c3 + 1)) (wi (c4 + 1)) c5)) (
cond c18 (
lp1 l2 (wi (c3 + 1)) c4 (wi (c5 + 1))) (
lp1 l2 (wi (c3 + 1)) c4 c5))) (
cond c17 (
cond c18 (
lp1 l2 c3 (wi (c4 + 1)) (wi (c5 + 1))) (
lp1 l2 c3 (wi (c4 + 1)) c5)) (
cond c18 (
lp1 l2 c3 c4 (wi (c5 + 1))) (
lp1 l2 c3 c4 c5))))) (
some (l2, c3, c4, c5))) mm
def m179 (n : Nat) (x : Index) (head : (List File)) (work : (List File)) : Option ((List Chg) × Int) :=
ob1 (m152 n head) fun c1 =>
cond (decide (¬ (c1 = 0))) (
some (([] : List Chg), c1)) (
ob1 (m152 n work) fun c2 =>
cond (decide (¬ (c2 = 0))) (
some (([] : List Chg), c2)) (
ob1 (m207 n x 0 [] 6 ([] : List Row_)) fun l1 =>
ob4 (m179_w1 n head work l1 n ([] : List Chg) 0 0 0) fun l3 c6 c7 c8 =>
some (l3, 0)))
theorem t179 {n : Nat} {C : List Chunk} {rl1 : List Chg} {rc1 : Int} {b1 : Nat} {x : Index} {v1 : Value} {head : (List File)} {v2 : Value} {work : (List File)} (hr1 : Rd rFile C v1 head) (hr2 : Rd rFile C v2 work)  (hm : m179 n x head work = some (rl1, rc1)) : Trip Tryz.prog 179 #[.pointer (some ⟨b1, 0, none⟩), v1, v2] ([[(b1, .cells (Index.enc x).toArray 184 (0, 0))]] ++ [C]) (fun u S' => ∃ (ev1 : Value), ∃ (eg1 : List Chunk), .tuple #[ev1, .int .i64 rc1] = u ∧ S' = [[(b1, .cells (Index.enc x).toArray 184 (0, 0))], eg1] ++ [C] ∧ Own rChg ev1 rl1 eg1) := by
  refine fn_entry (args := [.pointer (some ⟨b1, 0, none⟩), v1, v2]) Tryz.func179 rfl Tryz.ntmps179 rfl (fun w0 => ?_)
  refine c_seq ?_
  refine c_region ?_
  have ho1 : Own rChg (.slice none 0 0) [] [] := Own.nil
  refine o_emp ?_
  refine o_L (y_assign rfl) rfl rfl ?_
  refine o_L (y_assign rfl) rfl rfl ?_
  refine o_nil0 rfl ?_
  refine c_seq ?_
  refine c_region ?_
  refine o_T (y_move rfl) rfl ?_
  obtain ⟨c1, hx1, hm⟩ := bd1 hm
  refine o_callC en_152 rfl s_nil (t152 (hr1.mono (fun _ hz => (ms (ms (mg hz))))) hx1) rfl (fun u1 S1 hR1 => ?_)
  obtain ⟨rfl, rfl⟩ := hR1
  refine o_rest ?_
  refine o_L (y_assign rfl) rfl rfl ?_
  refine o_nil0 rfl ?_
  refine c_seq ?_
  refine c_seq ?_
  refine c_region ?_
  refine o_T (y_move rfl) rfl ?_
  refine o_T (y_neq rfl rfl) rfl ?_
  refine o_nil1 25 rfl rfl ?_
  refine c_cond rfl (fun h1 => ?_) (fun h1 => ?_)
  · have hm := cd_t h1 hm
    refine c_seq ?_
    refine c_region ?_
    refine o_T (y_move rfl) rfl ?_
    have ho2 : Own rChg (.slice none 0 0) [] [] := Own.nil
    refine o_emp ?_
    refine o_L (y_assign rfl) rfl rfl ?_
    refine o_L (y_assign rfl) rfl rfl ?_
    refine o_nil0 rfl ?_
    refine c_ret ?_
    obtain ⟨rfl, rfl⟩ := pr2 hm
    refine fun aX wX heX hsX => ret2 Tryz.results179 heX rfl rfl (s_get (ks (ks k0)) (s_take (s_skip (s_take s_nil)))) ?_
    exact ⟨(.slice none 0 0), _, rfl, rfl, ho2⟩
  · have hm := cd_f h1 hm
    refine c_skip ?_
    refine c_seq ?_
    refine c_region ?_
    refine o_T (y_move rfl) rfl ?_
    obtain ⟨c2, hx2, hm⟩ := bd1 hm
    refine o_callC en_152 rfl s_nil (t152 (hr2.mono (fun _ hz => (ms (ms (mg hz))))) hx2) rfl (fun u2 S2 hR2 => ?_)
    obtain ⟨rfl, rfl⟩ := hR2
    refine o_rest ?_
    refine o_L (y_assign rfl) rfl rfl ?_
    refine o_nil0 rfl ?_
    refine c_seq ?_
    refine c_seq ?_
    refine c_region ?_
    refine o_T (y_move rfl) rfl ?_
    refine o_T (y_neq rfl rfl) rfl ?_
    refine o_nil1 30 rfl rfl ?_
    refine c_cond rfl (fun h2 => ?_) (fun h2 => ?_)
    · have hm := cd_t h2 hm
      refine c_seq ?_
      refine c_region ?_
      refine o_T (y_move rfl) rfl ?_
      have ho3 : Own rChg (.slice none 0 0) [] [] := Own.nil
      refine o_emp ?_
      refine o_L (y_assign rfl) rfl rfl ?_
      refine o_L (y_assign rfl) rfl rfl ?_
      refine o_nil0 rfl ?_
      refine c_ret ?_
      obtain ⟨rfl, rfl⟩ := pr2 hm
      refine fun aX wX heX hsX => ret2 Tryz.results179 heX rfl rfl (s_get (ks (ks k0)) (s_take (s_skip (s_take s_nil)))) ?_
      exact ⟨(.slice none 0 0), _, rfl, rfl, ho3⟩
    · have hm := cd_f h2 hm
      refine c_skip ?_
      refine c_seq ?_
      refine c_region ?_
      refine o_T (y_move rfl) rfl ?_
      have ho4 : Own rRow_ (.slice none 0 0) [] [] := Own.nil
      refine o_emp ?_
      obtain ⟨l1, hx3, hm⟩ := bd1 hm
      refine o_callC en_207 rfl (s_get (ks (ks k0)) (s_take s_nil)) (t207 ho4 hx3) rfl (fun u3 S3 hR3 => ?_)
      obtain ⟨v3, g1, rfl, rfl, ho5⟩ := hR3
      refine o_rest ?_
      refine o_L (y_assign rfl) rfl rfl ?_
      refine o_nil0 rfl ?_
      refine c_seq ?_
      refine c_region ?_
      have ho6 : Own rChg (.slice none 0 0) [] [] := Own.nil
      refine o_emp ?_
      refine o_L (y_assign rfl) rfl rfl ?_
      refine o_nil0 rfl ?_
      refine c_seq ?_
      refine c_region ?_
      refine o_L (y_assign rfl) rfl rfl ?_
      refine o_L (y_assign rfl) rfl rfl ?_
      refine o_L (y_assign rfl) rfl rfl ?_
      refine o_nil0 rfl ?_
      refine c_seq ?_
      obtain ⟨l3, c6, c7, c8, hj1, hm⟩ := bd4 hm
      refine c_joinP (n := 1) (fun sh G => ∃ (v5 : Value), ∃ (g3 : List Chunk), sh = [(10, v5), (11, .int .i64 c6), (12, .int .i64 c7), (13, .int .i64 c8)] ∧ G = [g3] ∧ Own rChg v5 l3 g3) (s_take (s_take (s_take (s_skip (s_take s_nil))))) (.s .z) (fun _ _ h => h) ?_ ?_
      · skip
        refine c_block ?_
        refine c_loopP (n := 1) (fun mm sh G => ∃ (l2 : List Chg), ∃ (c3 : Int), ∃ (c4 : Int), ∃ (c5 : Int), ∃ (v4 : Value), ∃ (g2 : List Chunk), sh = [(10, v4), (11, .int .i64 c3), (12, .int .i64 c4), (13, .int .i64 c5)] ∧ G = [g2] ∧ m179_w1 n head work l1 mm l2 c3 c4 c5 = some (l3, c6, c7, c8) ∧ Own rChg v4 l2 g2) n (s_take (s_take (s_take (s_skip (s_take s_nil))))) (.s .z) ⟨_, _, ⟨_, _, _, _, (.slice none 0 0), _, rfl, rfl, hj1, ho6⟩, ⟨rfl, rfl, rfl, rfl, trivial⟩, _, (s_take (s_take (s_take (s_skip (s_take s_nil)))))⟩ ?_
        rintro mm sh G ⟨l2, c3, c4, c5, v4, g2, rfl, rfl, hm, ho7⟩
        obtain ⟨mm1, rfl, hm⟩ := it4_s hm
        refine c_seq ?_
        refine c_seq ?_
        refine c_joinP (n := 0) (fun sh G => sh = [(49, .bool (((decide (c3 < (head.length : Int))) || (decide (c4 < (l1.length : Int)))) || (decide (c5 < (work.length : Int)))))] ∧ G = []) Sel.all' .z (fun _ _ h => h) ?_ ?_
        · skip
          refine c_region ?_
          refine o_T (y_move rfl) rfl ?_
          refine o_T (y_move rfl) rfl ?_
          refine o_T (y_lenR hr1 Tryz.underlying57 rfl) rfl ?_
          refine o_T (y_lss rfl rfl) rfl ?_
          refine o_T (y_move rfl) rfl ?_
          refine o_split 38 rfl (fun h3 => ?_) (fun h3 => ?_)
          · skip
            refine o_pass rfl rfl rfl rfl rfl ?_
            refine o_pass rfl rfl rfl rfl rfl ?_
            refine o_pass rfl rfl rfl rfl rfl ?_
            refine o_pass rfl rfl rfl rfl rfl ?_
            refine o_T (y_pickT rfl rfl) rfl ?_
            refine o_T (y_move rfl) rfl ?_
            refine o_pass rfl rfl rfl rfl rfl ?_
            refine o_pass rfl rfl rfl rfl rfl ?_
            refine o_pass rfl rfl rfl rfl rfl ?_
            refine o_pass rfl rfl rfl rfl rfl ?_
            refine o_T (y_pickT rfl rfl) rfl ?_
            refine o_nil1 49 rfl rfl ?_
            refine ⟨_, _, ⟨rfl, rfl⟩, ⟨by first | rfl | exact gtb rfl (by simp only [h3, Bool.true_and, Bool.false_and, Bool.true_or, Bool.false_or, Bool.and_true, Bool.and_false, Bool.or_true, Bool.or_false, Bool.not_true, Bool.not_false]), trivial⟩, ⟨rfl, rfl⟩, _, (s_take (s_take (s_take (s_take s_nil))))⟩
          · skip
            refine o_take rfl rfl rfl ?_
            refine o_T (y_move rfl) rfl ?_
            refine o_take rfl rfl rfl ?_
            refine o_T (y_move rfl) rfl ?_
            refine o_take rfl rfl rfl ?_
            refine o_T (y_lenR ho5.rd Tryz.underlying221 rfl) rfl ?_
            refine o_take rfl rfl rfl ?_
            refine o_T (y_lss rfl rfl) rfl ?_
            refine o_T (y_pickF rfl rfl) rfl ?_
            refine o_T (y_move rfl) rfl ?_
            refine o_split 44 rfl (fun h4 => ?_) (fun h4 => ?_)
            · skip
              refine o_pass rfl rfl rfl rfl rfl ?_
              refine o_pass rfl rfl rfl rfl rfl ?_
              refine o_pass rfl rfl rfl rfl rfl ?_
              refine o_pass rfl rfl rfl rfl rfl ?_
              refine o_T (y_pickT rfl rfl) rfl ?_
              refine o_nil1 49 rfl rfl ?_
              refine ⟨_, _, ⟨rfl, rfl⟩, ⟨by first | rfl | exact gtb rfl (by simp only [h3, h4, Bool.true_and, Bool.false_and, Bool.true_or, Bool.false_or, Bool.and_true, Bool.and_false, Bool.or_true, Bool.or_false, Bool.not_true, Bool.not_false]), trivial⟩, ⟨rfl, rfl⟩, _, (s_take (s_take (s_take (s_take s_nil))))⟩
            · skip
              refine o_take rfl rfl rfl ?_
              refine o_T (y_move rfl) rfl ?_
              refine o_take rfl rfl rfl ?_
              refine o_T (y_move rfl) rfl ?_
              refine o_take rfl rfl rfl ?_
              refine o_T (y_lenR hr2 Tryz.underlying57 rfl) rfl ?_
              refine o_take rfl rfl rfl ?_
              refine o_T (y_lss rfl rfl) rfl ?_
              refine o_T (y_pickF rfl rfl) rfl ?_
              refine o_nil1 49 rfl rfl ?_
              refine ⟨_, _, ⟨rfl, rfl⟩, ⟨by first | rfl | exact gtb rfl (by simp only [h3, h4, Bool.true_and, Bool.false_and, Bool.true_or, Bool.false_or, Bool.and_true, Bool.and_false, Bool.or_true, Bool.or_false, Bool.not_true, Bool.not_false]), trivial⟩, ⟨rfl, rfl⟩, _, (s_take (s_take (s_take (s_take s_nil))))⟩
        · rintro sh G ⟨rfl, rfl⟩
          refine c_cond rfl (fun h5 => ?_) (fun h5 => ?_)
          · have hm := cd_t h5 hm
            refine c_skip ?_
            refine c_block ?_
            refine c_seq ?_
            refine c_region ?_
            refine o_L (y_assign rfl) rfl rfl ?_
            refine o_L (y_assign rfl) rfl rfl ?_
            refine o_nil0 rfl ?_
            refine c_seq ?_
            refine c_seq ?_
            refine c_region ?_
            refine o_T (y_move rfl) rfl ?_
            refine o_T (y_move rfl) rfl ?_
            refine o_T (y_lenR hr1 Tryz.underlying57 rfl) rfl ?_
            refine o_T (y_lss rfl rfl) rfl ?_
            refine o_nil1 53 rfl rfl ?_
            obtain ⟨c9, c10, hj2, hm⟩ := bd2 hm
            refine c_joinP (n := 0) (fun sh G => sh = [(14, .string ⟨(c9 : Str).toArray⟩), (15, .bool c10)] ∧ G = []) (s_take (s_take (s_take (s_take s_nil)))) .z (fun _ _ h => h) ?_ ?_
            · have hm := hj2
              refine c_cond rfl (fun h6 => ?_) (fun h6 => ?_)
              · have hm := cd_t h6 hm
                refine c_region ?_
                refine o_T (y_move rfl) rfl ?_
                refine o_T (y_move rfl) rfl ?_
                obtain ⟨x1, hx4, hm⟩ := bd hm
                obtain ⟨b2, w1, cs1, y1, z1, vs1, hc1, ha1, hr3, hy1⟩ := hr1.ix hx4
                obtain rfl : vs1 = File.enc x1 := hr3
                refine o_T (hy1 sl_57 rfl rfl rfl) rfl ?_
                refine o_T (y_fa fl_71_0 rfl) rfl ?_
                refine o_ld one_9 rfl (ms (ms (ms (mg hc1)))) (At.getA (ha1.comp File.a_path)) rfl ?_
                refine o_L (y_assign rfl) rfl rfl ?_
                refine o_L (y_assign rfl) rfl rfl ?_
                refine o_nil0 rfl ?_
                obtain ⟨rfl, rfl⟩ := pr2 hm
                exact ⟨_, _, ⟨rfl, rfl⟩, ⟨rfl, rfl, trivial⟩, ⟨rfl, rfl⟩, _, (s_take (s_take (s_take (s_take s_nil))))⟩
              · have hm := cd_f h6 hm
                refine c_skip ?_
                obtain ⟨rfl, rfl⟩ := pr2 hm
                exact ⟨_, _, ⟨rfl, rfl⟩, ⟨rfl, rfl, trivial⟩, ⟨rfl, rfl⟩, _, (s_take (s_take (s_take (s_take s_nil))))⟩
            · rintro sh G ⟨rfl, rfl⟩
              refine c_seq ?_
              refine c_seq ?_
              obtain ⟨c11, hj3, hm⟩ := bd1 hm
              refine c_joinP (n := 0) (fun sh G => sh = [(76, .bool c11)] ∧ G = []) Sel.all' .z (fun _ _ h => h) ?_ ?_
              · have hm := hj3
                refine c_region ?_
                refine o_T (y_move rfl) rfl ?_
                refine o_T (y_move rfl) rfl ?_
                refine o_T (y_lenR ho5.rd Tryz.underlying221 rfl) rfl ?_
                refine o_T (y_lss rfl rfl) rfl ?_
                refine o_T (y_move rfl) rfl ?_
                refine o_split 63 rfl (fun h7 => ?_) (fun h7 => ?_)
                · have hm := cd_t h7 hm
                  refine o_take rfl rfl rfl ?_
                  refine o_T (y_move rfl) rfl ?_
                  refine o_take rfl rfl rfl ?_
                  refine o_T (y_not rfl) rfl ?_
                  refine o_take rfl rfl rfl ?_
                  refine o_T (y_move rfl) rfl ?_
                  refine o_split 66 rfl (fun h8 => ?_) (fun h8 => ?_)
                  · have hm := cd_t h8 hm
                    refine o_pass rfl rfl rfl rfl rfl ?_
                    refine o_pass rfl rfl rfl rfl rfl ?_
                    refine o_pass rfl rfl rfl rfl rfl ?_
                    refine o_pass rfl rfl rfl rfl rfl ?_
                    refine o_pass rfl rfl rfl rfl rfl ?_
                    refine o_pass rfl rfl rfl rfl rfl ?_
                    refine o_pass rfl rfl rfl rfl rfl ?_
                    refine o_pass rfl rfl rfl rfl rfl ?_
                    refine o_take rfl rfl rfl ?_
                    refine o_T (y_pickT rfl rfl) rfl ?_
                    refine o_T (y_pickT rfl rfl) rfl ?_
                    refine o_nil1 76 rfl rfl ?_
                    obtain rfl := p1 hm
                    exact ⟨_, _, ⟨rfl, rfl⟩, ⟨rfl, trivial⟩, ⟨rfl, rfl⟩, _, (s_take (s_take (s_take (s_take s_nil))))⟩
                  · have hm := cd_f h8 hm
                    refine o_take rfl rfl rfl ?_
                    refine o_T (y_move rfl) rfl ?_
                    refine o_take rfl rfl rfl ?_
                    refine o_T (y_move rfl) rfl ?_
                    refine o_take rfl rfl rfl ?_
                    obtain ⟨x2, hx5, hm⟩ := bd hm
                    obtain ⟨b3, w2, cs2, y2, z2, vs2, hc2, ha2, hr4, hy2⟩ := ho5.rd.ix hx5
                    obtain rfl : vs2 = Row_.enc x2 := hr4
                    refine o_T (hy2 sl_221 rfl rfl rfl) rfl ?_
                    refine o_take rfl rfl rfl ?_
                    refine o_T (y_fa fl_224_0 rfl) rfl ?_
                    refine o_take rfl rfl rfl ?_
                    refine o_T (y_fa fl_71_0 rfl) rfl ?_
                    refine o_take rfl rfl rfl ?_
                    refine o_ld one_9 rfl (ms (ms (mg hc2))) (At.getA ((ha2.comp Row_.a_f).comp File.a_path)) rfl ?_
                    refine o_take rfl rfl rfl ?_
                    refine o_T (y_move rfl) rfl ?_
                    refine o_take rfl rfl rfl ?_
                    refine o_T (y_slt rfl rfl) rfl ?_
                    refine o_take rfl rfl rfl ?_
                    refine o_T (y_pickF rfl rfl) rfl ?_
                    refine o_T (y_pickT rfl rfl) rfl ?_
                    refine o_nil1 76 rfl rfl ?_
                    obtain rfl := p1 hm
                    exact ⟨_, _, ⟨rfl, rfl⟩, ⟨rfl, trivial⟩, ⟨rfl, rfl⟩, _, (s_take (s_take (s_take (s_take s_nil))))⟩
                · have hm := cd_f h7 hm
                  refine o_pass rfl rfl rfl rfl rfl ?_
                  refine o_pass rfl rfl rfl rfl rfl ?_
                  refine o_pass rfl rfl rfl rfl rfl ?_
                  refine o_passU rfl rfl rfl rfl ?_
                  refine o_passU rfl rfl rfl rfl ?_
                  refine o_passU rfl rfl rfl rfl ?_
                  refine o_passU rfl rfl rfl rfl ?_
                  refine o_passU rfl rfl rfl rfl ?_
                  refine o_passU rfl rfl rfl rfl ?_
                  refine o_passU rfl rfl rfl rfl ?_
                  refine o_passU rfl rfl rfl rfl ?_
                  refine o_pass rfl rfl rfl rfl rfl ?_
                  refine o_T (y_pickF rfl rfl) rfl ?_
                  refine o_nil1 76 rfl rfl ?_
                  obtain rfl := p1 hm
                  exact ⟨_, _, ⟨rfl, rfl⟩, ⟨rfl, trivial⟩, ⟨rfl, rfl⟩, _, (s_take (s_take (s_take (s_take s_nil))))⟩
              · rintro sh G ⟨rfl, rfl⟩
                obtain ⟨c12, c13, hj4, hm⟩ := bd2 hm
                refine c_joinP (n := 0) (fun sh G => sh = [(14, .string ⟨(c12 : Str).toArray⟩), (15, .bool c13)] ∧ G = []) (s_take (s_take (s_take (s_take s_nil)))) .z (fun _ _ h => h) ?_ ?_
                · have hm := hj4
                  refine c_cond rfl (fun h9 => ?_) (fun h9 => ?_)
                  · have hm := cd_t h9 hm
                    refine c_region ?_
                    refine o_T (y_move rfl) rfl ?_
                    refine o_T (y_move rfl) rfl ?_
                    obtain ⟨x3, hx6, hm⟩ := bd hm
                    obtain ⟨b4, w3, cs3, y3, z3, vs3, hc3, ha3, hr5, hy3⟩ := ho5.rd.ix hx6
                    obtain rfl : vs3 = Row_.enc x3 := hr5
                    refine o_T (hy3 sl_221 rfl rfl rfl) rfl ?_
                    refine o_T (y_fa fl_224_0 rfl) rfl ?_
                    refine o_T (y_fa fl_71_0 rfl) rfl ?_
                    refine o_ld one_9 rfl (ms (ms (mg hc3))) (At.getA ((ha3.comp Row_.a_f).comp File.a_path)) rfl ?_
                    refine o_L (y_assign rfl) rfl rfl ?_
                    refine o_L (y_assign rfl) rfl rfl ?_
                    refine o_nil0 rfl ?_
                    obtain ⟨rfl, rfl⟩ := pr2 hm
                    exact ⟨_, _, ⟨rfl, rfl⟩, ⟨rfl, rfl, trivial⟩, ⟨rfl, rfl⟩, _, (s_take (s_take (s_take (s_take s_nil))))⟩
                  · have hm := cd_f h9 hm
                    refine c_skip ?_
                    obtain ⟨rfl, rfl⟩ := pr2 hm
                    exact ⟨_, _, ⟨rfl, rfl⟩, ⟨rfl, rfl, trivial⟩, ⟨rfl, rfl⟩, _, (s_take (s_take (s_take (s_take s_nil))))⟩
                · rintro sh G ⟨rfl, rfl⟩
                  refine c_seq ?_
                  refine c_seq ?_
                  obtain ⟨c14, hj5, hm⟩ := bd1 hm
                  refine c_joinP (n := 0) (fun sh G => sh = [(99, .bool c14)] ∧ G = []) Sel.all' .z (fun _ _ h => h) ?_ ?_
                  · have hm := hj5
                    refine c_region ?_
                    refine o_T (y_move rfl) rfl ?_
                    refine o_T (y_move rfl) rfl ?_
                    refine o_T (y_lenR hr2 Tryz.underlying57 rfl) rfl ?_
                    refine o_T (y_lss rfl rfl) rfl ?_
                    refine o_T (y_move rfl) rfl ?_
                    refine o_split 87 rfl (fun h10 => ?_) (fun h10 => ?_)
                    · have hm := cd_t h10 hm
                      refine o_take rfl rfl rfl ?_
                      refine o_T (y_move rfl) rfl ?_
                      refine o_take rfl rfl rfl ?_
                      refine o_T (y_not rfl) rfl ?_
                      refine o_take rfl rfl rfl ?_
                      refine o_T (y_move rfl) rfl ?_
                      refine o_split 90 rfl (fun h11 => ?_) (fun h11 => ?_)
                      · have hm := cd_t h11 hm
                        refine o_pass rfl rfl rfl rfl rfl ?_
                        refine o_pass rfl rfl rfl rfl rfl ?_
                        refine o_pass rfl rfl rfl rfl rfl ?_
                        refine o_pass rfl rfl rfl rfl rfl ?_
                        refine o_pass rfl rfl rfl rfl rfl ?_
                        refine o_pass rfl rfl rfl rfl rfl ?_
                        refine o_pass rfl rfl rfl rfl rfl ?_
                        refine o_take rfl rfl rfl ?_
                        refine o_T (y_pickT rfl rfl) rfl ?_
                        refine o_T (y_pickT rfl rfl) rfl ?_
                        refine o_nil1 99 rfl rfl ?_
                        obtain rfl := p1 hm
                        exact ⟨_, _, ⟨rfl, rfl⟩, ⟨rfl, trivial⟩, ⟨rfl, rfl⟩, _, (s_take (s_take (s_take (s_take s_nil))))⟩
                      · have hm := cd_f h11 hm
                        refine o_take rfl rfl rfl ?_
                        refine o_T (y_move rfl) rfl ?_
                        refine o_take rfl rfl rfl ?_
                        refine o_T (y_move rfl) rfl ?_
                        refine o_take rfl rfl rfl ?_
                        obtain ⟨x4, hx7, hm⟩ := bd hm
                        obtain ⟨b5, w4, cs4, y4, z4, vs4, hc4, ha4, hr6, hy4⟩ := hr2.ix hx7
                        obtain rfl : vs4 = File.enc x4 := hr6
                        refine o_T (hy4 sl_57 rfl rfl rfl) rfl ?_
                        refine o_take rfl rfl rfl ?_
                        refine o_T (y_fa fl_71_0 rfl) rfl ?_
                        refine o_take rfl rfl rfl ?_
                        refine o_ld one_9 rfl (ms (ms (ms (mg hc4)))) (At.getA (ha4.comp File.a_path)) rfl ?_
                        refine o_take rfl rfl rfl ?_
                        refine o_T (y_move rfl) rfl ?_
                        refine o_take rfl rfl rfl ?_
                        refine o_T (y_slt rfl rfl) rfl ?_
                        refine o_take rfl rfl rfl ?_
                        refine o_T (y_pickF rfl rfl) rfl ?_
                        refine o_T (y_pickT rfl rfl) rfl ?_
                        refine o_nil1 99 rfl rfl ?_
                        obtain rfl := p1 hm
                        exact ⟨_, _, ⟨rfl, rfl⟩, ⟨rfl, trivial⟩, ⟨rfl, rfl⟩, _, (s_take (s_take (s_take (s_take s_nil))))⟩
                    · have hm := cd_f h10 hm
                      refine o_pass rfl rfl rfl rfl rfl ?_
                      refine o_pass rfl rfl rfl rfl rfl ?_
                      refine o_pass rfl rfl rfl rfl rfl ?_
                      refine o_passU rfl rfl rfl rfl ?_
                      refine o_passU rfl rfl rfl rfl ?_
                      refine o_passU rfl rfl rfl rfl ?_
                      refine o_passU rfl rfl rfl rfl ?_
                      refine o_passU rfl rfl rfl rfl ?_
                      refine o_passU rfl rfl rfl rfl ?_
                      refine o_passU rfl rfl rfl rfl ?_
                      refine o_pass rfl rfl rfl rfl rfl ?_
                      refine o_T (y_pickF rfl rfl) rfl ?_
                      refine o_nil1 99 rfl rfl ?_
                      obtain rfl := p1 hm
                      exact ⟨_, _, ⟨rfl, rfl⟩, ⟨rfl, trivial⟩, ⟨rfl, rfl⟩, _, (s_take (s_take (s_take (s_take s_nil))))⟩
                  · rintro sh G ⟨rfl, rfl⟩
                    obtain ⟨c15, hj6, hm⟩ := bd1 hm
                    refine c_joinP (n := 0) (fun sh G => sh = [(14, .string ⟨(c15 : Str).toArray⟩)] ∧ G = []) (s_take (s_take (s_take (s_take s_nil)))) .z (fun _ _ h => h) ?_ ?_
                    · have hm := hj6
                      refine c_cond rfl (fun h12 => ?_) (fun h12 => ?_)
                      · have hm := cd_t h12 hm
                        refine c_region ?_
                        refine o_T (y_move rfl) rfl ?_
                        refine o_T (y_move rfl) rfl ?_
                        obtain ⟨x5, hx8, hm⟩ := bd hm
                        obtain ⟨b6, w5, cs5, y5, z5, vs5, hc5, ha5, hr7, hy5⟩ := hr2.ix hx8
                        obtain rfl : vs5 = File.enc x5 := hr7
                        refine o_T (hy5 sl_57 rfl rfl rfl) rfl ?_
                        refine o_T (y_fa fl_71_0 rfl) rfl ?_
                        refine o_ld one_9 rfl (ms (ms (ms (mg hc5)))) (At.getA (ha5.comp File.a_path)) rfl ?_
                        refine o_L (y_assign rfl) rfl rfl ?_
                        refine o_nil0 rfl ?_
                        obtain rfl := p1 hm
                        exact ⟨_, _, ⟨rfl, rfl⟩, ⟨rfl, trivial⟩, ⟨rfl, rfl⟩, _, (s_take (s_take (s_take (s_take s_nil))))⟩
                      · have hm := cd_f h12 hm
                        refine c_skip ?_
                        obtain rfl := p1 hm
                        exact ⟨_, _, ⟨rfl, rfl⟩, ⟨rfl, trivial⟩, ⟨rfl, rfl⟩, _, (s_take (s_take (s_take (s_take s_nil))))⟩
                    · rintro sh G ⟨rfl, rfl⟩
                      refine c_seq ?_
                      obtain ⟨c16, hj7, hm⟩ := bd1 hm
                      refine c_joinP (n := 0) (fun sh G => sh = [(16, .bool c16)] ∧ G = []) Sel.all' .z (fun _ _ h => h) ?_ ?_
                      · have hm := hj7
                        refine c_region ?_
                        refine o_T (y_move rfl) rfl ?_
                        refine o_T (y_move rfl) rfl ?_
                        refine o_T (y_lenR hr1 Tryz.underlying57 rfl) rfl ?_
                        refine o_T (y_lss rfl rfl) rfl ?_
                        refine o_T (y_move rfl) rfl ?_
                        refine o_split 109 rfl (fun h13 => ?_) (fun h13 => ?_)
                        · have hm := cd_t h13 hm
                          refine o_take rfl rfl rfl ?_
                          refine o_T (y_move rfl) rfl ?_
                          refine o_take rfl rfl rfl ?_
                          refine o_T (y_move rfl) rfl ?_
                          refine o_take rfl rfl rfl ?_
                          obtain ⟨x6, hx9, hm⟩ := bd hm
                          obtain ⟨b7, w6, cs6, y6, z6, vs6, hc6, ha6, hr8, hy6⟩ := hr1.ix hx9
                          obtain rfl : vs6 = File.enc x6 := hr8
                          refine o_T (hy6 sl_57 rfl rfl rfl) rfl ?_
                          refine o_take rfl rfl rfl ?_
                          refine o_T (y_fa fl_71_0 rfl) rfl ?_
                          refine o_take rfl rfl rfl ?_
                          refine o_ld one_9 rfl (ms (ms (ms (mg hc6)))) (At.getA (ha6.comp File.a_path)) rfl ?_
                          refine o_take rfl rfl rfl ?_
                          refine o_T (y_move rfl) rfl ?_
                          refine o_take rfl rfl rfl ?_
                          refine o_T (y_seq rfl rfl) rfl ?_
                          refine o_T (y_pickT rfl rfl) rfl ?_
                          refine o_L (y_assign rfl) rfl rfl ?_
                          refine o_nil0 rfl ?_
                          obtain rfl := p1 hm
                          exact ⟨_, _, ⟨rfl, rfl⟩, ⟨rfl, trivial⟩, ⟨rfl, rfl⟩, _, (s_take (s_take (s_take (s_take s_nil))))⟩
                        · have hm := cd_f h13 hm
                          refine o_pass rfl rfl rfl rfl rfl ?_
                          refine o_pass rfl rfl rfl rfl rfl ?_
                          refine o_pass rfl rfl rfl rfl rfl ?_
                          refine o_pass rfl rfl rfl rfl rfl ?_
                          refine o_pass rfl rfl rfl rfl rfl ?_
                          refine o_pass rfl rfl rfl rfl rfl ?_
                          refine o_pass rfl rfl rfl rfl rfl ?_
                          refine o_T (y_pickF rfl rfl) rfl ?_
                          refine o_L (y_assign rfl) rfl rfl ?_
                          refine o_nil0 rfl ?_
                          obtain rfl := p1 hm
                          exact ⟨_, _, ⟨rfl, rfl⟩, ⟨rfl, trivial⟩, ⟨rfl, rfl⟩, _, (s_take (s_take (s_take (s_take s_nil))))⟩
                      · rintro sh G ⟨rfl, rfl⟩
                        refine c_seq ?_
                        obtain ⟨c17, hj8, hm⟩ := bd1 hm
                        refine c_joinP (n := 0) (fun sh G => sh = [(17, .bool c17)] ∧ G = []) Sel.all' .z (fun _ _ h => h) ?_ ?_
                        · have hm := hj8
                          refine c_region ?_
                          refine o_T (y_move rfl) rfl ?_
                          refine o_T (y_move rfl) rfl ?_
                          refine o_T (y_lenR ho5.rd Tryz.underlying221 rfl) rfl ?_
                          refine o_T (y_lss rfl rfl) rfl ?_
                          refine o_T (y_move rfl) rfl ?_
                          refine o_split 122 rfl (fun h14 => ?_) (fun h14 => ?_)
                          · have hm := cd_t h14 hm
                            refine o_take rfl rfl rfl ?_
                            refine o_T (y_move rfl) rfl ?_
                            refine o_take rfl rfl rfl ?_
                            refine o_T (y_move rfl) rfl ?_
                            refine o_take rfl rfl rfl ?_
                            obtain ⟨x7, hx10, hm⟩ := bd hm
                            obtain ⟨b8, w7, cs7, y7, z7, vs7, hc7, ha7, hr9, hy7⟩ := ho5.rd.ix hx10
                            obtain rfl : vs7 = Row_.enc x7 := hr9
                            refine o_T (hy7 sl_221 rfl rfl rfl) rfl ?_
                            refine o_take rfl rfl rfl ?_
                            refine o_T (y_fa fl_224_0 rfl) rfl ?_
                            refine o_take rfl rfl rfl ?_
                            refine o_T (y_fa fl_71_0 rfl) rfl ?_
                            refine o_take rfl rfl rfl ?_
                            refine o_ld one_9 rfl (ms (ms (mg hc7))) (At.getA ((ha7.comp Row_.a_f).comp File.a_path)) rfl ?_
                            refine o_take rfl rfl rfl ?_
                            refine o_T (y_move rfl) rfl ?_
                            refine o_take rfl rfl rfl ?_
                            refine o_T (y_seq rfl rfl) rfl ?_
                            refine o_T (y_pickT rfl rfl) rfl ?_
                            refine o_L (y_assign rfl) rfl rfl ?_
                            refine o_nil0 rfl ?_
                            obtain rfl := p1 hm
                            exact ⟨_, _, ⟨rfl, rfl⟩, ⟨rfl, trivial⟩, ⟨rfl, rfl⟩, _, (s_take (s_take (s_take (s_take s_nil))))⟩
                          · have hm := cd_f h14 hm
                            refine o_pass rfl rfl rfl rfl rfl ?_
                            refine o_pass rfl rfl rfl rfl rfl ?_
                            refine o_pass rfl rfl rfl rfl rfl ?_
                            refine o_pass rfl rfl rfl rfl rfl ?_
                            refine o_pass rfl rfl rfl rfl rfl ?_
                            refine o_pass rfl rfl rfl rfl rfl ?_
                            refine o_pass rfl rfl rfl rfl rfl ?_
                            refine o_pass rfl rfl rfl rfl rfl ?_
                            refine o_T (y_pickF rfl rfl) rfl ?_
                            refine o_L (y_assign rfl) rfl rfl ?_
                            refine o_nil0 rfl ?_
                            obtain rfl := p1 hm
                            exact ⟨_, _, ⟨rfl, rfl⟩, ⟨rfl, trivial⟩, ⟨rfl, rfl⟩, _, (s_take (s_take (s_take (s_take s_nil))))⟩
                        · rintro sh G ⟨rfl, rfl⟩
                          refine c_seq ?_
                          obtain ⟨c18, hj9, hm⟩ := bd1 hm
                          refine c_joinP (n := 0) (fun sh G => sh = [(18, .bool c18)] ∧ G = []) Sel.all' .z (fun _ _ h => h) ?_ ?_
                          · have hm := hj9
                            refine c_region ?_
                            refine o_T (y_move rfl) rfl ?_
                            refine o_T (y_move rfl) rfl ?_
                            refine o_T (y_lenR hr2 Tryz.underlying57 rfl) rfl ?_
                            refine o_T (y_lss rfl rfl) rfl ?_
                            refine o_T (y_move rfl) rfl ?_
                            refine o_split 136 rfl (fun h15 => ?_) (fun h15 => ?_)
                            · have hm := cd_t h15 hm
                              refine o_take rfl rfl rfl ?_
                              refine o_T (y_move rfl) rfl ?_
                              refine o_take rfl rfl rfl ?_
                              refine o_T (y_move rfl) rfl ?_
                              refine o_take rfl rfl rfl ?_
                              obtain ⟨x8, hx11, hm⟩ := bd hm
                              obtain ⟨b9, w8, cs8, y8, z8, vs8, hc8, ha8, hr10, hy8⟩ := hr2.ix hx11
                              obtain rfl : vs8 = File.enc x8 := hr10
                              refine o_T (hy8 sl_57 rfl rfl rfl) rfl ?_
                              refine o_take rfl rfl rfl ?_
                              refine o_T (y_fa fl_71_0 rfl) rfl ?_
                              refine o_take rfl rfl rfl ?_
                              refine o_ld one_9 rfl (ms (ms (ms (mg hc8)))) (At.getA (ha8.comp File.a_path)) rfl ?_
                              refine o_take rfl rfl rfl ?_
                              refine o_T (y_move rfl) rfl ?_
                              refine o_take rfl rfl rfl ?_
                              refine o_T (y_seq rfl rfl) rfl ?_
                              refine o_T (y_pickT rfl rfl) rfl ?_
                              refine o_L (y_assign rfl) rfl rfl ?_
                              refine o_nil0 rfl ?_
                              obtain rfl := p1 hm
                              exact ⟨_, _, ⟨rfl, rfl⟩, ⟨rfl, trivial⟩, ⟨rfl, rfl⟩, _, (s_take (s_take (s_take (s_take s_nil))))⟩
                            · have hm := cd_f h15 hm
                              refine o_pass rfl rfl rfl rfl rfl ?_
                              refine o_pass rfl rfl rfl rfl rfl ?_
                              refine o_pass rfl rfl rfl rfl rfl ?_
                              refine o_pass rfl rfl rfl rfl rfl ?_
                              refine o_pass rfl rfl rfl rfl rfl ?_
                              refine o_pass rfl rfl rfl rfl rfl ?_
                              refine o_pass rfl rfl rfl rfl rfl ?_
                              refine o_T (y_pickF rfl rfl) rfl ?_
                              refine o_L (y_assign rfl) rfl rfl ?_
                              refine o_nil0 rfl ?_
                              obtain rfl := p1 hm
                              exact ⟨_, _, ⟨rfl, rfl⟩, ⟨rfl, trivial⟩, ⟨rfl, rfl⟩, _, (s_take (s_take (s_take (s_take s_nil))))⟩
                          · rintro sh G ⟨rfl, rfl⟩
                            refine c_seq ?_
                            refine c_region ?_
                            refine o_L (y_assign rfl) rfl rfl ?_
                            refine o_L (y_assign rfl) rfl rfl ?_
                            refine o_nil0 rfl ?_
                            refine c_seq ?_
                            refine c_seq ?_
                            refine c_joinP (n := 0) (fun sh G => sh = [(148, .bool (c16 && c17))] ∧ G = []) Sel.all' .z (fun _ _ h => h) ?_ ?_
                            · skip
                              refine c_region ?_
                              refine o_T (y_move rfl) rfl ?_
                              refine o_T (y_move rfl) rfl ?_
                              refine o_split 146 rfl (fun h16 => ?_) (fun h16 => ?_)
                              · skip
                                refine o_take rfl rfl rfl ?_
                                refine o_T (y_move rfl) rfl ?_
                                refine o_T (y_pickT rfl rfl) rfl ?_
                                refine o_nil1 148 rfl rfl ?_
                                refine ⟨_, _, ⟨rfl, rfl⟩, ⟨by first | rfl | exact gtb rfl (by simp only [h16, Bool.true_and, Bool.false_and, Bool.true_or, Bool.false_or, Bool.and_true, Bool.and_false, Bool.or_true, Bool.or_false, Bool.not_true, Bool.not_false]), trivial⟩, ⟨rfl, rfl⟩, _, (s_take (s_take (s_take (s_take s_nil))))⟩
                              · skip
                                refine o_pass rfl rfl rfl rfl rfl ?_
                                refine o_T (y_pickF rfl rfl) rfl ?_
                                refine o_nil1 148 rfl rfl ?_
                                refine ⟨_, _, ⟨rfl, rfl⟩, ⟨by first | rfl | exact gtb rfl (by simp only [h16, Bool.true_and, Bool.false_and, Bool.true_or, Bool.false_or, Bool.and_true, Bool.and_false, Bool.or_true, Bool.or_false, Bool.not_true, Bool.not_false]), trivial⟩, ⟨rfl, rfl⟩, _, (s_take (s_take (s_take (s_take s_nil))))⟩
                            · rintro sh G ⟨rfl, rfl⟩
                              obtain ⟨c19, hj10, hm⟩ := bd1 hm
                              refine c_joinP (n := 0) (fun sh G => sh = [(19, .bool c19)] ∧ G = []) (s_take (s_take (s_take (s_take s_nil)))) .z (fun _ _ h => h) ?_ ?_
                              · have hm := hj10
                                refine c_cond rfl (fun h17 => ?_) (fun h17 => ?_)
                                · have hm := cd_t h17 hm
                                  refine c_seq ?_
                                  refine c_draw #[true, true, true, true, true, true, true, true, true, false, true] rfl (n := 11) rfl ?_
                                  refine d_T 0 rfl sb_179_23_0 rfl (y_move rfl) rfl ?_
                                  refine d_T 1 rfl sb_179_23_1 rfl (y_move rfl) rfl ?_
                                  obtain ⟨x9, hx12, hm⟩ := bd hm
                                  obtain ⟨b10, w9, cs9, y9, z9, vs9, hc9, ha9, hr11, hy9⟩ := ho5.rd.ix hx12
                                  obtain rfl : vs9 = Row_.enc x9 := hr11
                                  refine d_T 2 rfl sb_179_23_2 rfl (hy9 sl_221 rfl rfl rfl) rfl ?_
                                  refine d_lda 3 rfl sb_179_23_3 ag_224 rfl (fun x hx => hx) (ms (ms (mg hc9))) (At.ext (ha9) (Row_.len _)) (At.fit (ha9) (Row_.len _)) rfl ?_
                                  refine d_T 4 rfl sb_179_23_4 rfl (y_move rfl) rfl ?_
                                  refine d_T 5 rfl sb_179_23_5 rfl (y_move rfl) rfl ?_
                                  obtain ⟨x10, hx13, hm⟩ := bd hm
                                  obtain ⟨b11, w10, cs10, y10, z10, vs10, hc10, ha10, hr12, hy10⟩ := hr1.ix hx13
                                  obtain rfl : vs10 = File.enc x10 := hr12
                                  refine d_T 6 rfl sb_179_23_6 rfl (hy10 sl_57 rfl rfl rfl) rfl ?_
                                  refine d_T 7 rfl sb_179_23_7 rfl (y_fa fl_71_1 rfl) rfl ?_
                                  refine d_ld 8 rfl sb_179_23_8 one_9 rfl (fun x hx => hx) (ms (ms (ms (mg hc10)))) (At.getA (ha10.comp File.a_data)) rfl ?_
                                  refine d_hard 9 rfl sb_179_23_9 ?_
                                  obtain ⟨c20, hx14, hm⟩ := bd1 hm
                                  refine o_callC en_250 rfl s_nil (t250 hx14) rfl (fun u4 S4 hR4 => ?_)
                                  obtain ⟨rfl, rfl⟩ := hR4
                                  refine o_rest ?_
                                  refine o_stop (fun h => nomatch h) ?_
                                  refine d_L 10 rfl sb_179_23_10 rfl (y_assign rfl) rfl rfl ?_
                                  refine d_nil0 sb_179_23_11 rfl ?_
                                  refine c_seq ?_
                                  refine c_draw #[true, true, true, true, true, true, true, true, true, true, true, true] rfl (n := 12) rfl ?_
                                  refine d_T 0 rfl sb_179_24_0 rfl (y_move rfl) rfl ?_
                                  refine d_T 1 rfl sb_179_24_1 rfl (y_move rfl) rfl ?_
                                  obtain ⟨x11, hx15, hm⟩ := bd hm
                                  obtain ⟨b12, w11, cs11, y11, z11, vs11, hc11, ha11, hr13, hy11⟩ := hr1.ix hx15
                                  obtain rfl : vs11 = File.enc x11 := hr13
                                  refine d_T 2 rfl sb_179_24_2 rfl (hy11 sl_57 rfl rfl rfl) rfl ?_
                                  refine d_T 3 rfl sb_179_24_3 rfl (y_fa fl_71_2 rfl) rfl ?_
                                  refine d_ld 4 rfl sb_179_24_4 one_3 rfl (fun x hx => hx) (ms (ms (ms (mg hc11)))) (At.getA (ha11.comp File.a_mode)) rfl ?_
                                  refine d_T 5 rfl sb_179_24_5 rfl (y_move rfl) rfl ?_
                                  refine d_T 6 rfl sb_179_24_6 rfl (y_move rfl) rfl ?_
                                  obtain ⟨x12, hx16, hm⟩ := bd hm
                                  obtain ⟨b13, w12, cs12, y12, z12, vs12, hc12, ha12, hr14, hy12⟩ := ho5.rd.ix hx16
                                  obtain rfl : vs12 = Row_.enc x12 := hr14
                                  refine d_T 7 rfl sb_179_24_7 rfl (hy12 sl_221 rfl rfl rfl) rfl ?_
                                  refine d_T 8 rfl sb_179_24_8 rfl (y_fa fl_224_0 rfl) rfl ?_
                                  refine d_T 9 rfl sb_179_24_9 rfl (y_fa fl_71_2 rfl) rfl ?_
                                  refine d_ld 10 rfl sb_179_24_10 one_3 rfl (fun x hx => hx) (ms (ms (mg hc12))) (At.getA ((ha12.comp Row_.a_f).comp File.a_mode)) rfl ?_
                                  refine d_T 11 rfl sb_179_24_11 rfl (y_neq rfl rfl) rfl ?_
                                  refine d_nil1 170 sb_179_24_12 rfl rfl ?_
                                  refine c_cond rfl (fun h18 => ?_) (fun h18 => ?_)
                                  · have hm := cd_t h18 hm
                                    refine c_region ?_
                                    refine o_L (y_assign rfl) rfl rfl ?_
                                    refine o_nil0 rfl ?_
                                    obtain rfl := p1 hm
                                    exact ⟨_, _, ⟨rfl, rfl⟩, ⟨rfl, trivial⟩, ⟨rfl, rfl⟩, _, (s_take (s_take (s_take (s_take s_nil))))⟩
                                  · have hm := cd_f h18 hm
                                    refine c_skip ?_
                                    obtain rfl := p1 hm
                                    exact ⟨_, _, ⟨rfl, rfl⟩, ⟨rfl, trivial⟩, ⟨rfl, rfl⟩, _, (s_take (s_take (s_take (s_take s_nil))))⟩
                                · have hm := cd_f h17 hm
                                  refine c_skip ?_
                                  obtain rfl := p1 hm
                                  exact ⟨_, _, ⟨rfl, rfl⟩, ⟨rfl, trivial⟩, ⟨rfl, rfl⟩, _, (s_take (s_take (s_take (s_take s_nil))))⟩
                              · rintro sh G ⟨rfl, rfl⟩
                                refine c_seq ?_
                                refine c_seq ?_
                                refine c_joinP (n := 0) (fun sh G => sh = [(174, .bool (c17 && c18))] ∧ G = []) Sel.all' .z (fun _ _ h => h) ?_ ?_
                                · skip
                                  refine c_region ?_
                                  refine o_T (y_move rfl) rfl ?_
                                  refine o_T (y_move rfl) rfl ?_
                                  refine o_split 172 rfl (fun h19 => ?_) (fun h19 => ?_)
                                  · skip
                                    refine o_take rfl rfl rfl ?_
                                    refine o_T (y_move rfl) rfl ?_
                                    refine o_T (y_pickT rfl rfl) rfl ?_
                                    refine o_nil1 174 rfl rfl ?_
                                    refine ⟨_, _, ⟨rfl, rfl⟩, ⟨by first | rfl | exact gtb rfl (by simp only [h19, Bool.true_and, Bool.false_and, Bool.true_or, Bool.false_or, Bool.and_true, Bool.and_false, Bool.or_true, Bool.or_false, Bool.not_true, Bool.not_false]), trivial⟩, ⟨rfl, rfl⟩, _, (s_take (s_take (s_take (s_take s_nil))))⟩
                                  · skip
                                    refine o_pass rfl rfl rfl rfl rfl ?_
                                    refine o_T (y_pickF rfl rfl) rfl ?_
                                    refine o_nil1 174 rfl rfl ?_
                                    refine ⟨_, _, ⟨rfl, rfl⟩, ⟨by first | rfl | exact gtb rfl (by simp only [h19, Bool.true_and, Bool.false_and, Bool.true_or, Bool.false_or, Bool.and_true, Bool.and_false, Bool.or_true, Bool.or_false, Bool.not_true, Bool.not_false]), trivial⟩, ⟨rfl, rfl⟩, _, (s_take (s_take (s_take (s_take s_nil))))⟩
                                · rintro sh G ⟨rfl, rfl⟩
                                  obtain ⟨c21, hj11, hm⟩ := bd1 hm
                                  refine c_joinP (n := 0) (fun sh G => sh = [(20, .bool c21)] ∧ G = []) (s_take (s_take (s_take (s_take s_nil)))) .z (fun _ _ h => h) ?_ ?_
                                  · have hm := hj11
                                    refine c_cond rfl (fun h20 => ?_) (fun h20 => ?_)
                                    · have hm := cd_t h20 hm
                                      refine c_draw #[true, true, true, true, true, true, true, true, true, false, true] rfl (n := 11) rfl ?_
                                      refine d_T 0 rfl sb_179_27_0 rfl (y_move rfl) rfl ?_
                                      refine d_T 1 rfl sb_179_27_1 rfl (y_move rfl) rfl ?_
                                      obtain ⟨x13, hx17, hm⟩ := bd hm
                                      obtain ⟨b14, w13, cs13, y13, z13, vs13, hc13, ha13, hr15, hy13⟩ := ho5.rd.ix hx17
                                      obtain rfl : vs13 = Row_.enc x13 := hr15
                                      refine d_T 2 rfl sb_179_27_2 rfl (hy13 sl_221 rfl rfl rfl) rfl ?_
                                      refine d_lda 3 rfl sb_179_27_3 ag_224 rfl (fun x hx => hx) (ms (ms (mg hc13))) (At.ext (ha13) (Row_.len _)) (At.fit (ha13) (Row_.len _)) rfl ?_
                                      refine d_T 4 rfl sb_179_27_4 rfl (y_move rfl) rfl ?_
                                      refine d_T 5 rfl sb_179_27_5 rfl (y_move rfl) rfl ?_
                                      obtain ⟨x14, hx18, hm⟩ := bd hm
                                      obtain ⟨b15, w14, cs14, y14, z14, vs14, hc14, ha14, hr16, hy14⟩ := hr2.ix hx18
                                      obtain rfl : vs14 = File.enc x14 := hr16
                                      refine d_T 6 rfl sb_179_27_6 rfl (hy14 sl_57 rfl rfl rfl) rfl ?_
                                      refine d_T 7 rfl sb_179_27_7 rfl (y_fa fl_71_1 rfl) rfl ?_
                                      refine d_ld 8 rfl sb_179_27_8 one_9 rfl (fun x hx => hx) (ms (ms (ms (mg hc14)))) (At.getA (ha14.comp File.a_data)) rfl ?_
                                      refine d_hard 9 rfl sb_179_27_9 ?_
                                      obtain ⟨c22, hx19, hm⟩ := bd1 hm
                                      refine o_callC en_250 rfl s_nil (t250 hx19) rfl (fun u5 S5 hR5 => ?_)
                                      obtain ⟨rfl, rfl⟩ := hR5
                                      refine o_rest ?_
                                      refine o_stop (fun h => nomatch h) ?_
                                      refine d_L 10 rfl sb_179_27_10 rfl (y_assign rfl) rfl rfl ?_
                                      refine d_nil0 sb_179_27_11 rfl ?_
                                      obtain rfl := p1 hm
                                      exact ⟨_, _, ⟨rfl, rfl⟩, ⟨rfl, trivial⟩, ⟨rfl, rfl⟩, _, (s_take (s_take (s_take (s_take s_nil))))⟩
                                    · have hm := cd_f h20 hm
                                      refine c_skip ?_
                                      obtain rfl := p1 hm
                                      exact ⟨_, _, ⟨rfl, rfl⟩, ⟨rfl, trivial⟩, ⟨rfl, rfl⟩, _, (s_take (s_take (s_take (s_take s_nil))))⟩
                                  · rintro sh G ⟨rfl, rfl⟩
                                    refine c_seq ?_
                                    refine c_region ?_
                                    refine o_T (y_move rfl) rfl ?_
                                    refine o_T (y_build st_196 rfl (fbU rfl Chg.u_path rfl rfl fbU0)) rfl ?_
                                    refine o_alloc ze_196 rfl rfl (fun b16 => ?_)
                                    obtain ⟨z15, hn1, hm⟩ := nm_s hm
                                    refine o_stNA ag_196 rfl rfl (Chg.plain _) (Chg.len _) (Upd.refl ((Chg.len _).trans (Chg.len _).symm)) r0 (show (Chg.enc z15) = _ from by subst hn1; rfl) ?_
                                    refine o_nil0 rfl ?_
                                    refine c_seq ?_
                                    refine c_region ?_
                                    refine o_T (y_move rfl) rfl ?_
                                    refine o_T (y_move rfl) rfl ?_
                                    refine o_T (y_move rfl) rfl ?_
                                    obtain ⟨c23, hx20, hm⟩ := bd1 hm
                                    refine o_callC en_251 rfl s_nil (t251 hx20) rfl (fun u6 S6 hR6 => ?_)
                                    obtain ⟨rfl, rfl⟩ := hR6
                                    refine o_rest ?_
                                    refine o_T (y_fa fl_196_1 rfl) rfl ?_
                                    obtain ⟨z16, hn2, hm⟩ := nm_s hm
                                    refine o_stN one_3 rfl rfl rfl (Upd.z Chg.u_staged) r0 (show (Chg.enc z16) = _ from by subst hn2; rfl) ?_
                                    refine o_nil0 rfl ?_
                                    refine c_seq ?_
                                    refine c_region ?_
                                    refine o_T (y_move rfl) rfl ?_
                                    refine o_T (y_move rfl) rfl ?_
                                    refine o_T (y_move rfl) rfl ?_
                                    obtain ⟨c24, hx21, hm⟩ := bd1 hm
                                    refine o_callC en_251 rfl s_nil (t251 hx21) rfl (fun u7 S7 hR7 => ?_)
                                    obtain ⟨rfl, rfl⟩ := hR7
                                    refine o_rest ?_
                                    refine o_T (y_fa fl_196_2 rfl) rfl ?_
                                    obtain ⟨z17, hn3, hm⟩ := nm_s hm
                                    refine o_stN one_3 rfl rfl rfl (Upd.z Chg.u_work) r0 (show (Chg.enc z17) = _ from by subst hn3; rfl) ?_
                                    refine o_nil0 rfl ?_
                                    refine c_seq ?_
                                    refine c_seq ?_
                                    refine c_joinP (n := 0) (fun sh G => sh = [(204, .bool ((decide (¬ (z17.staged = 0))) || (decide (¬ (z17.work = 0)))))] ∧ G = []) Sel.all' .z (fun _ _ h => h) ?_ ?_
                                    · skip
                                      refine c_region ?_
                                      refine o_T (y_fa fl_196_1 rfl) rfl ?_
                                      refine o_ld one_3 rfl m0 (At.got (At.refl.comp Chg.a_staged)) rfl ?_
                                      refine o_T (y_neq rfl rfl) rfl ?_
                                      refine o_T (y_move rfl) rfl ?_
                                      refine o_split 200 rfl (fun h21 => ?_) (fun h21 => ?_)
                                      · skip
                                        refine o_pass rfl rfl rfl rfl rfl ?_
                                        refine o_pass rfl rfl rfl rfl rfl ?_
                                        refine o_pass rfl rfl rfl rfl rfl ?_
                                        refine o_T (y_pickT rfl rfl) rfl ?_
                                        refine o_nil1 204 rfl rfl ?_
                                        refine ⟨_, _, ⟨rfl, rfl⟩, ⟨by first | rfl | exact gtb rfl (by simp only [h21, Bool.true_and, Bool.false_and, Bool.true_or, Bool.false_or, Bool.and_true, Bool.and_false, Bool.or_true, Bool.or_false, Bool.not_true, Bool.not_false]), trivial⟩, ⟨rfl, rfl⟩, _, (s_take (s_take (s_take (s_take (s_take s_nil)))))⟩
                                      · skip
                                        refine o_take rfl rfl rfl ?_
                                        refine o_T (y_fa fl_196_2 rfl) rfl ?_
                                        refine o_take rfl rfl rfl ?_
                                        refine o_ld one_3 rfl m0 (At.got (At.refl.comp Chg.a_work)) rfl ?_
                                        refine o_take rfl rfl rfl ?_
                                        refine o_T (y_neq rfl rfl) rfl ?_
                                        refine o_T (y_pickF rfl rfl) rfl ?_
                                        refine o_nil1 204 rfl rfl ?_
                                        refine ⟨_, _, ⟨rfl, rfl⟩, ⟨by first | rfl | exact gtb rfl (by simp only [h21, Bool.true_and, Bool.false_and, Bool.true_or, Bool.false_or, Bool.and_true, Bool.and_false, Bool.or_true, Bool.or_false, Bool.not_true, Bool.not_false]), trivial⟩, ⟨rfl, rfl⟩, _, (s_take (s_take (s_take (s_take (s_take s_nil)))))⟩
                                    · rintro sh G ⟨rfl, rfl⟩
                                      refine c_cond rfl (fun h22 => ?_) (fun h22 => ?_)
                                      · have hm := cd_t h22 hm
                                        refine c_region ?_
                                        refine o_T (y_move rfl) rfl ?_
                                        refine o_lda ag_196 rfl m0 (At.exs At.refl (Chg.len _)) (At.fits At.refl (Chg.len _)) rfl ?_
                                        refine o_bs1 sz_99 rfl rfl rfl rfl rfl rfl (fun b17 => ?_)
                                        obtain ⟨l4, hx22, hm⟩ := bd hm
                                        refine o_appR (R := rChg) (a := z17) sz_99 rfl rfl rfl rfl ho7 rfl hx22 (Sel.e (s_get (ks (ks k0)) (s_take s_nil))) rfl (fun v6 g4 ho9 => ?_)
                                        refine o_L (y_assign rfl) rfl rfl ?_
                                        refine o_nil0 rfl ?_
                                        refine c_seq ?_
                                        refine c_seq ?_
                                        refine c_region ?_
                                        refine o_T (y_move rfl) rfl ?_
                                        refine o_nil1 209 rfl rfl ?_
                                        refine c_cond rfl (fun h23 => ?_) (fun h23 => ?_)
                                        · have hm := cd_t h23 hm
                                          refine c_region ?_
                                          refine o_T (y_move rfl) rfl ?_
                                          refine o_T (y_add rfl rfl rfl) rfl ?_
                                          refine o_L (y_assign rfl) rfl rfl ?_
                                          refine o_nil0 rfl ?_
                                          refine c_seq ?_
                                          refine c_seq ?_
                                          refine c_region ?_
                                          refine o_T (y_move rfl) rfl ?_
                                          refine o_nil1 212 rfl rfl ?_
                                          refine c_cond rfl (fun h24 => ?_) (fun h24 => ?_)
                                          · have hm := cd_t h24 hm
                                            refine c_region ?_
                                            refine o_T (y_move rfl) rfl ?_
                                            refine o_T (y_add rfl rfl rfl) rfl ?_
                                            refine o_L (y_assign rfl) rfl rfl ?_
                                            refine o_nil0 rfl ?_
                                            refine c_seq ?_
                                            refine c_region ?_
                                            refine o_T (y_move rfl) rfl ?_
                                            refine o_nil1 215 rfl rfl ?_
                                            refine c_cond rfl (fun h25 => ?_) (fun h25 => ?_)
                                            · have hm := cd_t h25 hm
                                              refine c_region ?_
                                              refine o_T (y_move rfl) rfl ?_
                                              refine o_T (y_add rfl rfl rfl) rfl ?_
                                              refine o_L (y_assign rfl) rfl rfl ?_
                                              refine o_nil0 rfl ?_
                                              exact ⟨mm1, Nat.lt_succ_self _, _, _, ⟨_, _, _, _, v6, _, rfl, rfl, hm, ho9⟩, ⟨rfl, rfl, rfl, rfl, trivial⟩, ⟨rfl, rfl⟩, _, (s_take (s_skip (s_take (s_take (s_take s_nil)))))⟩
                                            · have hm := cd_f h25 hm
                                              refine c_skip ?_
                                              exact ⟨mm1, Nat.lt_succ_self _, _, _, ⟨_, _, _, _, v6, _, rfl, rfl, hm, ho9⟩, ⟨rfl, rfl, rfl, rfl, trivial⟩, ⟨rfl, rfl⟩, _, (s_take (s_skip (s_take (s_take (s_take s_nil)))))⟩
                                          · have hm := cd_f h24 hm
                                            refine c_skip ?_
                                            refine c_seq ?_
                                            refine c_region ?_
                                            refine o_T (y_move rfl) rfl ?_
                                            refine o_nil1 215 rfl rfl ?_
                                            refine c_cond rfl (fun h26 => ?_) (fun h26 => ?_)
                                            · have hm := cd_t h26 hm
                                              refine c_region ?_
                                              refine o_T (y_move rfl) rfl ?_
                                              refine o_T (y_add rfl rfl rfl) rfl ?_
                                              refine o_L (y_assign rfl) rfl rfl ?_
                                              refine o_nil0 rfl ?_
                                              exact ⟨mm1, Nat.lt_succ_self _, _, _, ⟨_, _, _, _, v6, _, rfl, rfl, hm, ho9⟩, ⟨rfl, rfl, rfl, rfl, trivial⟩, ⟨rfl, rfl⟩, _, (s_take (s_skip (s_take (s_take (s_take s_nil)))))⟩
                                            · have hm := cd_f h26 hm
                                              refine c_skip ?_
                                              exact ⟨mm1, Nat.lt_succ_self _, _, _, ⟨_, _, _, _, v6, _, rfl, rfl, hm, ho9⟩, ⟨rfl, rfl, rfl, rfl, trivial⟩, ⟨rfl, rfl⟩, _, (s_take (s_skip (s_take (s_take (s_take s_nil)))))⟩
                                        · have hm := cd_f h23 hm
                                          refine c_skip ?_
                                          refine c_seq ?_
                                          refine c_seq ?_
                                          refine c_region ?_
                                          refine o_T (y_move rfl) rfl ?_
                                          refine o_nil1 212 rfl rfl ?_
                                          refine c_cond rfl (fun h27 => ?_) (fun h27 => ?_)
                                          · have hm := cd_t h27 hm
                                            refine c_region ?_
                                            refine o_T (y_move rfl) rfl ?_
                                            refine o_T (y_add rfl rfl rfl) rfl ?_
                                            refine o_L (y_assign rfl) rfl rfl ?_
                                            refine o_nil0 rfl ?_
                                            refine c_seq ?_
                                            refine c_region ?_
                                            refine o_T (y_move rfl) rfl ?_
                                            refine o_nil1 215 rfl rfl ?_
                                            refine c_cond rfl (fun h28 => ?_) (fun h28 => ?_)
                                            · have hm := cd_t h28 hm
                                              refine c_region ?_
                                              refine o_T (y_move rfl) rfl ?_
                                              refine o_T (y_add rfl rfl rfl) rfl ?_
                                              refine o_L (y_assign rfl) rfl rfl ?_
                                              refine o_nil0 rfl ?_
                                              exact ⟨mm1, Nat.lt_succ_self _, _, _, ⟨_, _, _, _, v6, _, rfl, rfl, hm, ho9⟩, ⟨rfl, rfl, rfl, rfl, trivial⟩, ⟨rfl, rfl⟩, _, (s_take (s_skip (s_take (s_take (s_take s_nil)))))⟩
                                            · have hm := cd_f h28 hm
                                              refine c_skip ?_
                                              exact ⟨mm1, Nat.lt_succ_self _, _, _, ⟨_, _, _, _, v6, _, rfl, rfl, hm, ho9⟩, ⟨rfl, rfl, rfl, rfl, trivial⟩, ⟨rfl, rfl⟩, _, (s_take (s_skip (s_take (s_take (s_take s_nil)))))⟩
                                          · have hm := cd_f h27 hm
                                            refine c_skip ?_
                                            refine c_seq ?_
                                            refine c_region ?_
                                            refine o_T (y_move rfl) rfl ?_
                                            refine o_nil1 215 rfl rfl ?_
                                            refine c_cond rfl (fun h29 => ?_) (fun h29 => ?_)
                                            · have hm := cd_t h29 hm
                                              refine c_region ?_
                                              refine o_T (y_move rfl) rfl ?_
                                              refine o_T (y_add rfl rfl rfl) rfl ?_
                                              refine o_L (y_assign rfl) rfl rfl ?_
                                              refine o_nil0 rfl ?_
                                              exact ⟨mm1, Nat.lt_succ_self _, _, _, ⟨_, _, _, _, v6, _, rfl, rfl, hm, ho9⟩, ⟨rfl, rfl, rfl, rfl, trivial⟩, ⟨rfl, rfl⟩, _, (s_take (s_skip (s_take (s_take (s_take s_nil)))))⟩
                                            · have hm := cd_f h29 hm
                                              refine c_skip ?_
                                              exact ⟨mm1, Nat.lt_succ_self _, _, _, ⟨_, _, _, _, v6, _, rfl, rfl, hm, ho9⟩, ⟨rfl, rfl, rfl, rfl, trivial⟩, ⟨rfl, rfl⟩, _, (s_take (s_skip (s_take (s_take (s_take s_nil)))))⟩
                                      · have hm := cd_f h22 hm
                                        refine c_skip ?_
                                        refine c_seq ?_
                                        refine c_seq ?_
                                        refine c_region ?_
                                        refine o_T (y_move rfl) rfl ?_
                                        refine o_nil1 209 rfl rfl ?_
                                        refine c_cond rfl (fun h30 => ?_) (fun h30 => ?_)
                                        · have hm := cd_t h30 hm
                                          refine c_region ?_
                                          refine o_T (y_move rfl) rfl ?_
                                          refine o_T (y_add rfl rfl rfl) rfl ?_
                                          refine o_L (y_assign rfl) rfl rfl ?_
                                          refine o_nil0 rfl ?_
                                          refine c_seq ?_
                                          refine c_seq ?_
                                          refine c_region ?_
                                          refine o_T (y_move rfl) rfl ?_
                                          refine o_nil1 212 rfl rfl ?_
                                          refine c_cond rfl (fun h31 => ?_) (fun h31 => ?_)
                                          · have hm := cd_t h31 hm
                                            refine c_region ?_
                                            refine o_T (y_move rfl) rfl ?_
                                            refine o_T (y_add rfl rfl rfl) rfl ?_
                                            refine o_L (y_assign rfl) rfl rfl ?_
                                            refine o_nil0 rfl ?_
                                            refine c_seq ?_
                                            refine c_region ?_
                                            refine o_T (y_move rfl) rfl ?_
                                            refine o_nil1 215 rfl rfl ?_
                                            refine c_cond rfl (fun h32 => ?_) (fun h32 => ?_)
                                            · have hm := cd_t h32 hm
                                              refine c_region ?_
                                              refine o_T (y_move rfl) rfl ?_
                                              refine o_T (y_add rfl rfl rfl) rfl ?_
                                              refine o_L (y_assign rfl) rfl rfl ?_
                                              refine o_nil0 rfl ?_
                                              exact ⟨mm1, Nat.lt_succ_self _, _, _, ⟨_, _, _, _, v4, _, rfl, rfl, hm, ho7⟩, ⟨rfl, rfl, rfl, rfl, trivial⟩, ⟨rfl, rfl⟩, _, (s_skip (s_take (s_take (s_take (s_take s_nil)))))⟩
                                            · have hm := cd_f h32 hm
                                              refine c_skip ?_
                                              exact ⟨mm1, Nat.lt_succ_self _, _, _, ⟨_, _, _, _, v4, _, rfl, rfl, hm, ho7⟩, ⟨rfl, rfl, rfl, rfl, trivial⟩, ⟨rfl, rfl⟩, _, (s_skip (s_take (s_take (s_take (s_take s_nil)))))⟩
                                          · have hm := cd_f h31 hm
                                            refine c_skip ?_
                                            refine c_seq ?_
                                            refine c_region ?_
                                            refine o_T (y_move rfl) rfl ?_
                                            refine o_nil1 215 rfl rfl ?_
                                            refine c_cond rfl (fun h33 => ?_) (fun h33 => ?_)
                                            · have hm := cd_t h33 hm
                                              refine c_region ?_
                                              refine o_T (y_move rfl) rfl ?_
                                              refine o_T (y_add rfl rfl rfl) rfl ?_
                                              refine o_L (y_assign rfl) rfl rfl ?_
                                              refine o_nil0 rfl ?_
                                              exact ⟨mm1, Nat.lt_succ_self _, _, _, ⟨_, _, _, _, v4, _, rfl, rfl, hm, ho7⟩, ⟨rfl, rfl, rfl, rfl, trivial⟩, ⟨rfl, rfl⟩, _, (s_skip (s_take (s_take (s_take (s_take s_nil)))))⟩
                                            · have hm := cd_f h33 hm
                                              refine c_skip ?_
                                              exact ⟨mm1, Nat.lt_succ_self _, _, _, ⟨_, _, _, _, v4, _, rfl, rfl, hm, ho7⟩, ⟨rfl, rfl, rfl, rfl, trivial⟩, ⟨rfl, rfl⟩, _, (s_skip (s_take (s_take (s_take (s_take s_nil)))))⟩
                                        · have hm := cd_f h30 hm
                                          refine c_skip ?_
                                          refine c_seq ?_
                                          refine c_seq ?_
                                          refine c_region ?_
                                          refine o_T (y_move rfl) rfl ?_
                                          refine o_nil1 212 rfl rfl ?_
                                          refine c_cond rfl (fun h34 => ?_) (fun h34 => ?_)
                                          · have hm := cd_t h34 hm
                                            refine c_region ?_
                                            refine o_T (y_move rfl) rfl ?_
                                            refine o_T (y_add rfl rfl rfl) rfl ?_
                                            refine o_L (y_assign rfl) rfl rfl ?_
                                            refine o_nil0 rfl ?_
                                            refine c_seq ?_
                                            refine c_region ?_
                                            refine o_T (y_move rfl) rfl ?_
                                            refine o_nil1 215 rfl rfl ?_
                                            refine c_cond rfl (fun h35 => ?_) (fun h35 => ?_)
                                            · have hm := cd_t h35 hm
                                              refine c_region ?_
                                              refine o_T (y_move rfl) rfl ?_
                                              refine o_T (y_add rfl rfl rfl) rfl ?_
                                              refine o_L (y_assign rfl) rfl rfl ?_
                                              refine o_nil0 rfl ?_
                                              exact ⟨mm1, Nat.lt_succ_self _, _, _, ⟨_, _, _, _, v4, _, rfl, rfl, hm, ho7⟩, ⟨rfl, rfl, rfl, rfl, trivial⟩, ⟨rfl, rfl⟩, _, (s_skip (s_take (s_take (s_take (s_take s_nil)))))⟩
                                            · have hm := cd_f h35 hm
                                              refine c_skip ?_
                                              exact ⟨mm1, Nat.lt_succ_self _, _, _, ⟨_, _, _, _, v4, _, rfl, rfl, hm, ho7⟩, ⟨rfl, rfl, rfl, rfl, trivial⟩, ⟨rfl, rfl⟩, _, (s_skip (s_take (s_take (s_take (s_take s_nil)))))⟩
                                          · have hm := cd_f h34 hm
                                            refine c_skip ?_
                                            refine c_seq ?_
                                            refine c_region ?_
                                            refine o_T (y_move rfl) rfl ?_
                                            refine o_nil1 215 rfl rfl ?_
                                            refine c_cond rfl (fun h36 => ?_) (fun h36 => ?_)
                                            · have hm := cd_t h36 hm
                                              refine c_region ?_
                                              refine o_T (y_move rfl) rfl ?_
                                              refine o_T (y_add rfl rfl rfl) rfl ?_
                                              refine o_L (y_assign rfl) rfl rfl ?_
                                              refine o_nil0 rfl ?_
                                              exact ⟨mm1, Nat.lt_succ_self _, _, _, ⟨_, _, _, _, v4, _, rfl, rfl, hm, ho7⟩, ⟨rfl, rfl, rfl, rfl, trivial⟩, ⟨rfl, rfl⟩, _, (s_skip (s_take (s_take (s_take (s_take s_nil)))))⟩
                                            · have hm := cd_f h36 hm
                                              refine c_skip ?_
                                              exact ⟨mm1, Nat.lt_succ_self _, _, _, ⟨_, _, _, _, v4, _, rfl, rfl, hm, ho7⟩, ⟨rfl, rfl, rfl, rfl, trivial⟩, ⟨rfl, rfl⟩, _, (s_skip (s_take (s_take (s_take (s_take s_nil)))))⟩
          · have hm := cd_f h5 hm
            refine c_exit ?_
            obtain ⟨rfl, rfl, rfl, rfl⟩ := pr4 hm
            exact ⟨_, _, ⟨v4, _, rfl, rfl, ho7⟩, ⟨rfl, rfl, rfl, rfl, trivial⟩, ⟨rfl, rfl⟩, _, (s_take (s_take (s_take (s_take s_nil))))⟩
      · rintro sh G ⟨v5, g3, rfl, rfl, ho8⟩
        refine c_seq ?_
        refine c_region ?_
        refine o_T (y_move rfl) rfl ?_
        refine o_L (y_assign rfl) rfl rfl ?_
        refine o_L (y_assign rfl) rfl rfl ?_
        refine o_nil0 rfl ?_
        refine c_ret ?_
        obtain ⟨rfl, rfl⟩ := pr2 hm
        refine fun aX wX heX hsX => ret2 Tryz.results179 heX rfl rfl (s_get (ks k0) (s_take (s_skip (s_take s_nil)))) ?_
        exact ⟨v5, _, rfl, rfl, ho8⟩
end Go.Proofs.Qxb6500350aGreat
