/- MADE BY PROGRAM (tools350/mir.py): mirror and walk. -/
import Derived.Test.Qxb6500350aGreatF2
import Derived.Test.Qxb6500350aGreatT270
import Derived.Test.Qxb6500350aGreatT267
set_option linter.unusedVariables false
set_option linter.unusedSimpArgs false
set_option maxRecDepth 20000
set_option maxHeartbeats 4000000
namespace Go.Proofs.Qxb6500350aGreat
open Go.Eng

def op_205_2 : Array Go.Oper := #[{ dst := some 9, op := Go.Op.move (Go.Operand.tmp 0), type := 31, pos := "index.go:41", after := #[], guard := none }, { dst := some 10, op := Go.Op.move (Go.Operand.tmp 4), type := 3, pos := "index.go:41", after := #[], guard := none }, { dst := some 11, op := Go.Op.fieldAddr 71 (Go.Operand.tmp 3) 1, type := 0, pos := "index.go:41", after := #[], guard := none }, { dst := some 12, op := Go.Op.load 9 (Go.Operand.tmp 11), type := 9, pos := "index.go:41", after := #[{ on := 2, ground := Go.Ground.data }], guard := none }, { dst := some 13, op := Go.Op.nilCheck (Go.Operand.tmp 9), type := 0, pos := "index.go:41", after := #[{ on := 0, ground := Go.Ground.data }], guard := none }, { dst := some 14, op := Go.Op.fieldAddr 184 (Go.Operand.tmp 13) 0, type := 0, pos := "index.go:41", after := #[{ on := 4, ground := Go.Ground.data }], guard := none }, { dst := some 15, op := Go.Op.indexAddr 182 (Go.Operand.tmp 14) (Go.Operand.tmp 10), type := 0, pos := "index.go:41", after := #[{ on := 5, ground := Go.Ground.data }, { on := 1, ground := Go.Ground.data }, { on := 0, ground := Go.Ground.phase }, { on := 1, ground := Go.Ground.phase }, { on := 2, ground := Go.Ground.phase }, { on := 3, ground := Go.Ground.phase }], guard := none }, { dst := some 16, op := Go.Op.fieldAddr 181 (Go.Operand.tmp 15) 4, type := 0, pos := "index.go:41", after := #[{ on := 6, ground := Go.Ground.data }, { on := 0, ground := Go.Ground.phase }, { on := 1, ground := Go.Ground.phase }, { on := 2, ground := Go.Ground.phase }, { on := 3, ground := Go.Ground.phase }], guard := none }, { dst := none, op := Go.Op.store 9 (Go.Operand.tmp 16) (Go.Operand.tmp 12), type := 0, pos := "index.go:41", after := #[{ on := 7, ground := Go.Ground.data }, { on := 3, ground := Go.Ground.data }, { on := 0, ground := Go.Ground.phase }, { on := 1, ground := Go.Ground.phase }, { on := 2, ground := Go.Ground.phase }, { on := 3, ground := Go.Ground.phase }], guard := none }]
def op_205_3 : Array Go.Oper := #[{ dst := some 17, op := Go.Op.move (Go.Operand.tmp 0), type := 31, pos := "index.go:42", after := #[], guard := none }, { dst := some 18, op := Go.Op.move (Go.Operand.tmp 4), type := 3, pos := "index.go:42", after := #[], guard := none }, { dst := some 19, op := Go.Op.fieldAddr 71 (Go.Operand.tmp 3) 2, type := 0, pos := "index.go:42", after := #[], guard := none }, { dst := some 20, op := Go.Op.load 3 (Go.Operand.tmp 19), type := 3, pos := "index.go:42", after := #[{ on := 2, ground := Go.Ground.data }], guard := none }, { dst := some 21, op := Go.Op.nilCheck (Go.Operand.tmp 17), type := 0, pos := "index.go:42", after := #[{ on := 0, ground := Go.Ground.data }], guard := none }, { dst := some 22, op := Go.Op.fieldAddr 184 (Go.Operand.tmp 21) 0, type := 0, pos := "index.go:42", after := #[{ on := 4, ground := Go.Ground.data }], guard := none }, { dst := some 23, op := Go.Op.indexAddr 182 (Go.Operand.tmp 22) (Go.Operand.tmp 18), type := 0, pos := "index.go:42", after := #[{ on := 5, ground := Go.Ground.data }, { on := 1, ground := Go.Ground.data }, { on := 0, ground := Go.Ground.phase }, { on := 1, ground := Go.Ground.phase }, { on := 2, ground := Go.Ground.phase }, { on := 3, ground := Go.Ground.phase }], guard := none }, { dst := some 24, op := Go.Op.fieldAddr 181 (Go.Operand.tmp 23) 5, type := 0, pos := "index.go:42", after := #[{ on := 6, ground := Go.Ground.data }, { on := 0, ground := Go.Ground.phase }, { on := 1, ground := Go.Ground.phase }, { on := 2, ground := Go.Ground.phase }, { on := 3, ground := Go.Ground.phase }], guard := none }, { dst := none, op := Go.Op.store 3 (Go.Operand.tmp 24) (Go.Operand.tmp 20), type := 0, pos := "index.go:42", after := #[{ on := 7, ground := Go.Ground.data }, { on := 3, ground := Go.Ground.data }, { on := 0, ground := Go.Ground.phase }, { on := 1, ground := Go.Ground.phase }, { on := 2, ground := Go.Ground.phase }, { on := 3, ground := Go.Ground.phase }], guard := none }]
def op_205_4 : Array Go.Oper := #[{ dst := some 25, op := Go.Op.move (Go.Operand.tmp 0), type := 31, pos := "index.go:43", after := #[], guard := none }, { dst := some 26, op := Go.Op.move (Go.Operand.tmp 4), type := 3, pos := "index.go:43", after := #[], guard := none }, { dst := some 27, op := Go.Op.fieldAddr 71 (Go.Operand.tmp 3) 1, type := 0, pos := "index.go:43", after := #[], guard := none }, { dst := some 28, op := Go.Op.load 9 (Go.Operand.tmp 27), type := 9, pos := "index.go:43", after := #[{ on := 2, ground := Go.Ground.data }], guard := none }, { dst := some 29, op := Go.Op.call { callee := Go.Callee.builtin Go.Builtin.len, args := #[Go.Operand.tmp 28], argTypes := #[9] }, type := 3, pos := "index.go:43", after := #[{ on := 3, ground := Go.Ground.data }], guard := none }, { dst := some 30, op := Go.Op.nilCheck (Go.Operand.tmp 25), type := 0, pos := "index.go:43", after := #[{ on := 0, ground := Go.Ground.data }], guard := none }, { dst := some 31, op := Go.Op.fieldAddr 184 (Go.Operand.tmp 30) 0, type := 0, pos := "index.go:43", after := #[{ on := 5, ground := Go.Ground.data }], guard := none }, { dst := some 32, op := Go.Op.indexAddr 182 (Go.Operand.tmp 31) (Go.Operand.tmp 26), type := 0, pos := "index.go:43", after := #[{ on := 6, ground := Go.Ground.data }, { on := 1, ground := Go.Ground.data }, { on := 0, ground := Go.Ground.phase }, { on := 1, ground := Go.Ground.phase }, { on := 2, ground := Go.Ground.phase }, { on := 3, ground := Go.Ground.phase }, { on := 4, ground := Go.Ground.phase }], guard := none }, { dst := some 33, op := Go.Op.fieldAddr 181 (Go.Operand.tmp 32) 6, type := 0, pos := "index.go:43", after := #[{ on := 7, ground := Go.Ground.data }, { on := 0, ground := Go.Ground.phase }, { on := 1, ground := Go.Ground.phase }, { on := 2, ground := Go.Ground.phase }, { on := 3, ground := Go.Ground.phase }, { on := 4, ground := Go.Ground.phase }], guard := none }, { dst := none, op := Go.Op.store 3 (Go.Operand.tmp 33) (Go.Operand.tmp 29), type := 0, pos := "index.go:43", after := #[{ on := 8, ground := Go.Ground.data }, { on := 4, ground := Go.Ground.data }, { on := 0, ground := Go.Ground.phase }, { on := 1, ground := Go.Ground.phase }, { on := 2, ground := Go.Ground.phase }, { on := 3, ground := Go.Ground.phase }, { on := 4, ground := Go.Ground.phase }], guard := none }]
def op_205_5 : Array Go.Oper := #[{ dst := some 34, op := Go.Op.move (Go.Operand.tmp 0), type := 31, pos := "index.go:44", after := #[], guard := none }, { dst := some 35, op := Go.Op.move (Go.Operand.tmp 4), type := 3, pos := "index.go:44", after := #[], guard := none }, { dst := some 36, op := Go.Op.fieldAddr 71 (Go.Operand.tmp 3) 1, type := 0, pos := "index.go:44", after := #[], guard := none }, { dst := some 37, op := Go.Op.load 9 (Go.Operand.tmp 36), type := 9, pos := "index.go:44", after := #[{ on := 2, ground := Go.Ground.data }], guard := none }, { dst := some 38, op := Go.Op.call { callee := Go.Callee.value (Go.Operand.func 267), args := #[Go.Operand.tmp 37], argTypes := #[9] }, type := 3, pos := "index.go:44", after := #[{ on := 3, ground := Go.Ground.data }], guard := none }, { dst := some 39, op := Go.Op.nilCheck (Go.Operand.tmp 34), type := 0, pos := "index.go:44", after := #[{ on := 0, ground := Go.Ground.data }], guard := none }, { dst := some 40, op := Go.Op.fieldAddr 184 (Go.Operand.tmp 39) 0, type := 0, pos := "index.go:44", after := #[{ on := 5, ground := Go.Ground.data }], guard := none }, { dst := some 41, op := Go.Op.indexAddr 182 (Go.Operand.tmp 40) (Go.Operand.tmp 35), type := 0, pos := "index.go:44", after := #[{ on := 6, ground := Go.Ground.data }, { on := 1, ground := Go.Ground.data }, { on := 0, ground := Go.Ground.phase }, { on := 1, ground := Go.Ground.phase }, { on := 2, ground := Go.Ground.phase }, { on := 3, ground := Go.Ground.phase }, { on := 4, ground := Go.Ground.phase }], guard := none }, { dst := some 42, op := Go.Op.fieldAddr 181 (Go.Operand.tmp 41) 7, type := 0, pos := "index.go:44", after := #[{ on := 7, ground := Go.Ground.data }, { on := 0, ground := Go.Ground.phase }, { on := 1, ground := Go.Ground.phase }, { on := 2, ground := Go.Ground.phase }, { on := 3, ground := Go.Ground.phase }, { on := 4, ground := Go.Ground.phase }], guard := none }, { dst := none, op := Go.Op.store 3 (Go.Operand.tmp 42) (Go.Operand.tmp 38), type := 0, pos := "index.go:44", after := #[{ on := 8, ground := Go.Ground.data }, { on := 4, ground := Go.Ground.data }, { on := 4, ground := Go.Ground.chain }, { on := 0, ground := Go.Ground.phase }, { on := 1, ground := Go.Ground.phase }, { on := 2, ground := Go.Ground.phase }, { on := 3, ground := Go.Ground.phase }, { on := 4, ground := Go.Ground.phase }], guard := none }]
theorem sb_205_2_0 : softB op_205_2 #[true, true, true, true, true, true, true, true, false] (Array.replicate 9 false) 0 = true := by kernel_rfl
theorem sb_205_2_1 : softB op_205_2 #[true, true, true, true, true, true, true, true, false] ((Array.replicate 9 false).setIfInBounds 0 true) 1 = true := by kernel_rfl
theorem sb_205_2_2 : softB op_205_2 #[true, true, true, true, true, true, true, true, false] (((Array.replicate 9 false).setIfInBounds 0 true).setIfInBounds 1 true) 2 = true := by kernel_rfl
theorem sb_205_2_3 : softB op_205_2 #[true, true, true, true, true, true, true, true, false] ((((Array.replicate 9 false).setIfInBounds 0 true).setIfInBounds 1 true).setIfInBounds 2 true) 3 = true := by kernel_rfl
theorem sb_205_2_4 : softB op_205_2 #[true, true, true, true, true, true, true, true, false] (((((Array.replicate 9 false).setIfInBounds 0 true).setIfInBounds 1 true).setIfInBounds 2 true).setIfInBounds 3 true) 4 = true := by kernel_rfl
theorem sb_205_2_5 : softB op_205_2 #[true, true, true, true, true, true, true, true, false] ((((((Array.replicate 9 false).setIfInBounds 0 true).setIfInBounds 1 true).setIfInBounds 2 true).setIfInBounds 3 true).setIfInBounds 4 true) 5 = true := by kernel_rfl
theorem sb_205_2_6 : softB op_205_2 #[true, true, true, true, true, true, true, true, false] (((((((Array.replicate 9 false).setIfInBounds 0 true).setIfInBounds 1 true).setIfInBounds 2 true).setIfInBounds 3 true).setIfInBounds 4 true).setIfInBounds 5 true) 6 = true := by kernel_rfl
theorem sb_205_2_7 : softB op_205_2 #[true, true, true, true, true, true, true, true, false] ((((((((Array.replicate 9 false).setIfInBounds 0 true).setIfInBounds 1 true).setIfInBounds 2 true).setIfInBounds 3 true).setIfInBounds 4 true).setIfInBounds 5 true).setIfInBounds 6 true) 7 = true := by kernel_rfl
theorem sb_205_2_8 : hardB op_205_2 (((((((((Array.replicate 9 false).setIfInBounds 0 true).setIfInBounds 1 true).setIfInBounds 2 true).setIfInBounds 3 true).setIfInBounds 4 true).setIfInBounds 5 true).setIfInBounds 6 true).setIfInBounds 7 true) [8] = true := by kernel_rfl
theorem sb_205_2_9 : hardB op_205_2 ((((((((((Array.replicate 9 false).setIfInBounds 0 true).setIfInBounds 1 true).setIfInBounds 2 true).setIfInBounds 3 true).setIfInBounds 4 true).setIfInBounds 5 true).setIfInBounds 6 true).setIfInBounds 7 true).setIfInBounds 8 true) [] = true := by kernel_rfl
theorem sb_205_3_0 : softB op_205_3 #[true, true, true, true, true, true, true, true, false] (Array.replicate 9 false) 0 = true := by kernel_rfl
theorem sb_205_3_1 : softB op_205_3 #[true, true, true, true, true, true, true, true, false] ((Array.replicate 9 false).setIfInBounds 0 true) 1 = true := by kernel_rfl
theorem sb_205_3_2 : softB op_205_3 #[true, true, true, true, true, true, true, true, false] (((Array.replicate 9 false).setIfInBounds 0 true).setIfInBounds 1 true) 2 = true := by kernel_rfl
theorem sb_205_3_3 : softB op_205_3 #[true, true, true, true, true, true, true, true, false] ((((Array.replicate 9 false).setIfInBounds 0 true).setIfInBounds 1 true).setIfInBounds 2 true) 3 = true := by kernel_rfl
theorem sb_205_3_4 : softB op_205_3 #[true, true, true, true, true, true, true, true, false] (((((Array.replicate 9 false).setIfInBounds 0 true).setIfInBounds 1 true).setIfInBounds 2 true).setIfInBounds 3 true) 4 = true := by kernel_rfl
theorem sb_205_3_5 : softB op_205_3 #[true, true, true, true, true, true, true, true, false] ((((((Array.replicate 9 false).setIfInBounds 0 true).setIfInBounds 1 true).setIfInBounds 2 true).setIfInBounds 3 true).setIfInBounds 4 true) 5 = true := by kernel_rfl
theorem sb_205_3_6 : softB op_205_3 #[true, true, true, true, true, true, true, true, false] (((((((Array.replicate 9 false).setIfInBounds 0 true).setIfInBounds 1 true).setIfInBounds 2 true).setIfInBounds 3 true).setIfInBounds 4 true).setIfInBounds 5 true) 6 = true := by kernel_rfl
theorem sb_205_3_7 : softB op_205_3 #[true, true, true, true, true, true, true, true, false] ((((((((Array.replicate 9 false).setIfInBounds 0 true).setIfInBounds 1 true).setIfInBounds 2 true).setIfInBounds 3 true).setIfInBounds 4 true).setIfInBounds 5 true).setIfInBounds 6 true) 7 = true := by kernel_rfl
theorem sb_205_3_8 : hardB op_205_3 (((((((((Array.replicate 9 false).setIfInBounds 0 true).setIfInBounds 1 true).setIfInBounds 2 true).setIfInBounds 3 true).setIfInBounds 4 true).setIfInBounds 5 true).setIfInBounds 6 true).setIfInBounds 7 true) [8] = true := by kernel_rfl
theorem sb_205_3_9 : hardB op_205_3 ((((((((((Array.replicate 9 false).setIfInBounds 0 true).setIfInBounds 1 true).setIfInBounds 2 true).setIfInBounds 3 true).setIfInBounds 4 true).setIfInBounds 5 true).setIfInBounds 6 true).setIfInBounds 7 true).setIfInBounds 8 true) [] = true := by kernel_rfl
theorem sb_205_4_0 : softB op_205_4 #[true, true, true, true, true, true, true, true, true, false] (Array.replicate 10 false) 0 = true := by kernel_rfl
theorem sb_205_4_1 : softB op_205_4 #[true, true, true, true, true, true, true, true, true, false] ((Array.replicate 10 false).setIfInBounds 0 true) 1 = true := by kernel_rfl
theorem sb_205_4_2 : softB op_205_4 #[true, true, true, true, true, true, true, true, true, false] (((Array.replicate 10 false).setIfInBounds 0 true).setIfInBounds 1 true) 2 = true := by kernel_rfl
theorem sb_205_4_3 : softB op_205_4 #[true, true, true, true, true, true, true, true, true, false] ((((Array.replicate 10 false).setIfInBounds 0 true).setIfInBounds 1 true).setIfInBounds 2 true) 3 = true := by kernel_rfl
theorem sb_205_4_4 : softB op_205_4 #[true, true, true, true, true, true, true, true, true, false] (((((Array.replicate 10 false).setIfInBounds 0 true).setIfInBounds 1 true).setIfInBounds 2 true).setIfInBounds 3 true) 4 = true := by kernel_rfl
theorem sb_205_4_5 : softB op_205_4 #[true, true, true, true, true, true, true, true, true, false] ((((((Array.replicate 10 false).setIfInBounds 0 true).setIfInBounds 1 true).setIfInBounds 2 true).setIfInBounds 3 true).setIfInBounds 4 true) 5 = true := by kernel_rfl
theorem sb_205_4_6 : softB op_205_4 #[true, true, true, true, true, true, true, true, true, false] (((((((Array.replicate 10 false).setIfInBounds 0 true).setIfInBounds 1 true).setIfInBounds 2 true).setIfInBounds 3 true).setIfInBounds 4 true).setIfInBounds 5 true) 6 = true := by kernel_rfl
theorem sb_205_4_7 : softB op_205_4 #[true, true, true, true, true, true, true, true, true, false] ((((((((Array.replicate 10 false).setIfInBounds 0 true).setIfInBounds 1 true).setIfInBounds 2 true).setIfInBounds 3 true).setIfInBounds 4 true).setIfInBounds 5 true).setIfInBounds 6 true) 7 = true := by kernel_rfl
theorem sb_205_4_8 : softB op_205_4 #[true, true, true, true, true, true, true, true, true, false] (((((((((Array.replicate 10 false).setIfInBounds 0 true).setIfInBounds 1 true).setIfInBounds 2 true).setIfInBounds 3 true).setIfInBounds 4 true).setIfInBounds 5 true).setIfInBounds 6 true).setIfInBounds 7 true) 8 = true := by kernel_rfl
theorem sb_205_4_9 : hardB op_205_4 ((((((((((Array.replicate 10 false).setIfInBounds 0 true).setIfInBounds 1 true).setIfInBounds 2 true).setIfInBounds 3 true).setIfInBounds 4 true).setIfInBounds 5 true).setIfInBounds 6 true).setIfInBounds 7 true).setIfInBounds 8 true) [9] = true := by kernel_rfl
theorem sb_205_4_10 : hardB op_205_4 (((((((((((Array.replicate 10 false).setIfInBounds 0 true).setIfInBounds 1 true).setIfInBounds 2 true).setIfInBounds 3 true).setIfInBounds 4 true).setIfInBounds 5 true).setIfInBounds 6 true).setIfInBounds 7 true).setIfInBounds 8 true).setIfInBounds 9 true) [] = true := by kernel_rfl
theorem sb_205_5_0 : softB op_205_5 #[true, true, true, true, false, true, true, true, true, false] (Array.replicate 10 false) 0 = true := by kernel_rfl
theorem sb_205_5_1 : softB op_205_5 #[true, true, true, true, false, true, true, true, true, false] ((Array.replicate 10 false).setIfInBounds 0 true) 1 = true := by kernel_rfl
theorem sb_205_5_2 : softB op_205_5 #[true, true, true, true, false, true, true, true, true, false] (((Array.replicate 10 false).setIfInBounds 0 true).setIfInBounds 1 true) 2 = true := by kernel_rfl
theorem sb_205_5_3 : softB op_205_5 #[true, true, true, true, false, true, true, true, true, false] ((((Array.replicate 10 false).setIfInBounds 0 true).setIfInBounds 1 true).setIfInBounds 2 true) 3 = true := by kernel_rfl
theorem sb_205_5_4 : softB op_205_5 #[true, true, true, true, false, true, true, true, true, false] (((((Array.replicate 10 false).setIfInBounds 0 true).setIfInBounds 1 true).setIfInBounds 2 true).setIfInBounds 3 true) 5 = true := by kernel_rfl
theorem sb_205_5_5 : softB op_205_5 #[true, true, true, true, false, true, true, true, true, false] ((((((Array.replicate 10 false).setIfInBounds 0 true).setIfInBounds 1 true).setIfInBounds 2 true).setIfInBounds 3 true).setIfInBounds 5 true) 6 = true := by kernel_rfl
theorem sb_205_5_6 : hardB op_205_5 (((((((Array.replicate 10 false).setIfInBounds 0 true).setIfInBounds 1 true).setIfInBounds 2 true).setIfInBounds 3 true).setIfInBounds 5 true).setIfInBounds 6 true) [4] = true := by kernel_rfl
theorem sb_205_5_7 : softB op_205_5 #[true, true, true, true, false, true, true, true, true, false] ((((((((Array.replicate 10 false).setIfInBounds 0 true).setIfInBounds 1 true).setIfInBounds 2 true).setIfInBounds 3 true).setIfInBounds 5 true).setIfInBounds 6 true).setIfInBounds 4 true) 7 = true := by kernel_rfl
theorem sb_205_5_8 : softB op_205_5 #[true, true, true, true, false, true, true, true, true, false] (((((((((Array.replicate 10 false).setIfInBounds 0 true).setIfInBounds 1 true).setIfInBounds 2 true).setIfInBounds 3 true).setIfInBounds 5 true).setIfInBounds 6 true).setIfInBounds 4 true).setIfInBounds 7 true) 8 = true := by kernel_rfl
theorem sb_205_5_9 : hardB op_205_5 ((((((((((Array.replicate 10 false).setIfInBounds 0 true).setIfInBounds 1 true).setIfInBounds 2 true).setIfInBounds 3 true).setIfInBounds 5 true).setIfInBounds 6 true).setIfInBounds 4 true).setIfInBounds 7 true).setIfInBounds 8 true) [9] = true := by kernel_rfl
theorem sb_205_5_10 : hardB op_205_5 (((((((((((Array.replicate 10 false).setIfInBounds 0 true).setIfInBounds 1 true).setIfInBounds 2 true).setIfInBounds 3 true).setIfInBounds 5 true).setIfInBounds 6 true).setIfInBounds 4 true).setIfInBounds 7 true).setIfInBounds 8 true).setIfInBounds 9 true) [] = true := by kernel_rfl
/- (*index.Index).put -/
def m205 (n : Nat) (x : Index) (f : File) : Option (Index) :=
ob2 (m270 n x f.path) fun c1 z1 =>
Option.bind (ckA c1 49) fun _ =>
nm ({ z1 with pool := (upI z1.pool c1 { (z1.pool c1) with data := f.data }) } : Index) fun z2 =>
Option.bind (ckA c1 49) fun _ =>
nm ({ z2 with pool := (upI z2.pool c1 { (z2.pool c1) with mode := f.mode }) } : Index) fun z3 =>
Option.bind (ckA c1 49) fun _ =>
nm ({ z3 with pool := (upI z3.pool c1 { (z3.pool c1) with size := (f.data.length : Int) }) } : Index) fun z4 =>
ob1 (m267 n f.data) fun c2 =>
Option.bind (ckA c1 49) fun _ =>
nm ({ z4 with pool := (upI z4.pool c1 { (z4.pool c1) with hash := c2 }) } : Index) fun z5 =>
some z5
theorem t205 {n : Nat} {C : List Chunk} {rz1 : Index} {b1 : Nat} {x : Index} {f : File}   (hm : m205 n x f = some rz1) : Trip Tryz.prog 205 #[.pointer (some ⟨b1, 0, none⟩), .agg (File.enc f).toArray] ([[(b1, .cells (Index.enc x).toArray 184 (0, 0))]] ++ [C]) (fun u S' => .tuple #[] = u ∧ S' = [[(b1, .cells (Index.enc rz1).toArray 184 (0, 0))]] ++ [C]) := by
  refine fn_entry (args := [.pointer (some ⟨b1, 0, none⟩), .agg (File.enc f).toArray]) Tryz.func205 rfl Tryz.ntmps205 rfl (fun w0 => ?_)
  refine c_seq ?_
  refine c_region ?_
  refine o_box rfl rfl rfl rfl (fun b2 => ?_)
  refine o_nil0 rfl ?_
  refine c_seq ?_
  refine c_region ?_
  refine o_T (y_move rfl) rfl ?_
  refine o_T (y_fa fl_71_0 rfl) rfl ?_
  refine o_ld one_9 rfl m0 (At.got (At.refl.comp File.a_path)) rfl ?_
  obtain ⟨c1, z1, hx1, hm⟩ := bd2 hm
  refine o_callC en_270 rfl (s_skip (s_take s_nil)) (t270 hx1) rfl (fun u1 S1 hR1 => ?_)
  obtain ⟨rfl, rfl⟩ := hR1
  refine o_rest ?_
  refine o_L (y_assign rfl) rfl rfl ?_
  refine o_nil0 rfl ?_
  refine c_seq ?_
  refine c_draw #[true, true, true, true, true, true, true, true, false] rfl (n := 9) rfl ?_
  refine d_T 0 rfl sb_205_2_0 rfl (y_move rfl) rfl ?_
  refine d_T 1 rfl sb_205_2_1 rfl (y_move rfl) rfl ?_
  refine d_T 2 rfl sb_205_2_2 rfl (y_fa fl_71_1 rfl) rfl ?_
  refine d_ld 3 rfl sb_205_2_3 one_9 rfl (fun x hx => hx) (ms m0) (At.got (At.refl.comp File.a_data)) rfl ?_
  refine d_T 4 rfl sb_205_2_4 rfl (y_nilck rfl) rfl ?_
  refine d_T 5 rfl sb_205_2_5 rfl (y_fa fl_184_0 rfl) rfl ?_
  obtain ⟨_, hx2, hm⟩ := bd hm
  have hx2 := ckA_some hx2
  refine d_T 6 rfl sb_205_2_6 rfl (y_ia ar_182 rfl rfl hx2.1 hx2.2) rfl ?_
  refine d_T 7 rfl sb_205_2_7 rfl (y_fa fl_181_4 rfl) rfl ?_
  refine d_hard 8 rfl sb_205_2_8 ?_
  obtain ⟨z2, hn1, hm⟩ := nm_s hm
  refine o_stN one_9 rfl rfl rfl (((Upd.z Index.u_pool).comp (encN_u Nod.len _ _ _ hx2.1 _ hx2.2)).comp Nod.u_data) r0 (show (Index.enc z2) = _ from by subst hn1; rfl) ?_
  refine o_stop (fun h => nomatch h) ?_
  refine d_nil0 sb_205_2_9 rfl ?_
  refine c_seq ?_
  refine c_draw #[true, true, true, true, true, true, true, true, false] rfl (n := 9) rfl ?_
  refine d_T 0 rfl sb_205_3_0 rfl (y_move rfl) rfl ?_
  refine d_T 1 rfl sb_205_3_1 rfl (y_move rfl) rfl ?_
  refine d_T 2 rfl sb_205_3_2 rfl (y_fa fl_71_2 rfl) rfl ?_
  refine d_ld 3 rfl sb_205_3_3 one_3 rfl (fun x hx => hx) (ms m0) (At.got (At.refl.comp File.a_mode)) rfl ?_
  refine d_T 4 rfl sb_205_3_4 rfl (y_nilck rfl) rfl ?_
  refine d_T 5 rfl sb_205_3_5 rfl (y_fa fl_184_0 rfl) rfl ?_
  obtain ⟨_, hx3, hm⟩ := bd hm
  have hx3 := ckA_some hx3
  refine d_T 6 rfl sb_205_3_6 rfl (y_ia ar_182 rfl rfl hx3.1 hx3.2) rfl ?_
  refine d_T 7 rfl sb_205_3_7 rfl (y_fa fl_181_5 rfl) rfl ?_
  refine d_hard 8 rfl sb_205_3_8 ?_
  obtain ⟨z3, hn2, hm⟩ := nm_s hm
  refine o_stN one_3 rfl rfl rfl (((Upd.z Index.u_pool).comp (encN_u Nod.len _ _ _ hx3.1 _ hx3.2)).comp Nod.u_mode) r0 (show (Index.enc z3) = _ from by subst hn2; rfl) ?_
  refine o_stop (fun h => nomatch h) ?_
  refine d_nil0 sb_205_3_9 rfl ?_
  refine c_seq ?_
  refine c_draw #[true, true, true, true, true, true, true, true, true, false] rfl (n := 10) rfl ?_
  refine d_T 0 rfl sb_205_4_0 rfl (y_move rfl) rfl ?_
  refine d_T 1 rfl sb_205_4_1 rfl (y_move rfl) rfl ?_
  refine d_T 2 rfl sb_205_4_2 rfl (y_fa fl_71_1 rfl) rfl ?_
  refine d_ld 3 rfl sb_205_4_3 one_9 rfl (fun x hx => hx) (ms m0) (At.got (At.refl.comp File.a_data)) rfl ?_
  refine d_T 4 rfl sb_205_4_4 rfl (y_slen Tryz.underlying9 rfl) rfl ?_
  refine d_T 5 rfl sb_205_4_5 rfl (y_nilck rfl) rfl ?_
  refine d_T 6 rfl sb_205_4_6 rfl (y_fa fl_184_0 rfl) rfl ?_
  obtain ⟨_, hx4, hm⟩ := bd hm
  have hx4 := ckA_some hx4
  refine d_T 7 rfl sb_205_4_7 rfl (y_ia ar_182 rfl rfl hx4.1 hx4.2) rfl ?_
  refine d_T 8 rfl sb_205_4_8 rfl (y_fa fl_181_6 rfl) rfl ?_
  refine d_hard 9 rfl sb_205_4_9 ?_
  obtain ⟨z4, hn3, hm⟩ := nm_s hm
  refine o_stN one_3 rfl rfl rfl (((Upd.z Index.u_pool).comp (encN_u Nod.len _ _ _ hx4.1 _ hx4.2)).comp Nod.u_size) r0 (show (Index.enc z4) = _ from by subst hn3; rfl) ?_
  refine o_stop (fun h => nomatch h) ?_
  refine d_nil0 sb_205_4_10 rfl ?_
  refine c_draw #[true, true, true, true, false, true, true, true, true, false] rfl (n := 10) rfl ?_
  refine d_T 0 rfl sb_205_5_0 rfl (y_move rfl) rfl ?_
  refine d_T 1 rfl sb_205_5_1 rfl (y_move rfl) rfl ?_
  refine d_T 2 rfl sb_205_5_2 rfl (y_fa fl_71_1 rfl) rfl ?_
  refine d_ld 3 rfl sb_205_5_3 one_9 rfl (fun x hx => hx) (ms m0) (At.got (At.refl.comp File.a_data)) rfl ?_
  refine d_T 5 rfl sb_205_5_4 rfl (y_nilck rfl) rfl ?_
  refine d_T 6 rfl sb_205_5_5 rfl (y_fa fl_184_0 rfl) rfl ?_
  refine d_hard 4 rfl sb_205_5_6 ?_
  obtain ⟨c2, hx5, hm⟩ := bd1 hm
  refine o_callC en_267 rfl s_nil (t267 hx5) rfl (fun u2 S2 hR2 => ?_)
  obtain ⟨rfl, rfl⟩ := hR2
  refine o_rest ?_
  refine o_stop (fun h => nomatch h) ?_
  obtain ⟨_, hx6, hm⟩ := bd hm
  have hx6 := ckA_some hx6
  refine d_T 7 rfl sb_205_5_7 rfl (y_ia ar_182 rfl rfl hx6.1 hx6.2) rfl ?_
  refine d_T 8 rfl sb_205_5_8 rfl (y_fa fl_181_7 rfl) rfl ?_
  refine d_hard 9 rfl sb_205_5_9 ?_
  obtain ⟨z5, hn4, hm⟩ := nm_s hm
  refine o_stN one_3 rfl rfl rfl (((Upd.z Index.u_pool).comp (encN_u Nod.len _ _ _ hx6.1 _ hx6.2)).comp Nod.u_hash) r0 (show (Index.enc z5) = _ from by subst hn4; rfl) ?_
  refine o_stop (fun h => nomatch h) ?_
  refine d_nil0 sb_205_5_10 rfl ?_
  obtain rfl := p1 hm
  refine fun aX wX heX hsX => ret0 Tryz.results205 (s_take (s_skip (s_take s_nil))) ?_
  exact ⟨rfl, rfl⟩
end Go.Proofs.Qxb6500350aGreat
