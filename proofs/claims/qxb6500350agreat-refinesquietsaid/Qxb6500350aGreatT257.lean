/- MADE BY PROGRAM (tools350/mir.py): mirror and walk. -/
import Derived.Test.Qxb6500350aGreatF2
import Derived.Test.Qxb6500350aGreatT294
set_option linter.unusedVariables false
set_option linter.unusedSimpArgs false
set_option maxRecDepth 20000
set_option maxHeartbeats 4000000
namespace Go.Proofs.Qxb6500350aGreat
open Go.Eng

def op_257_6 : Array Go.Oper := #[{ dst := some 19, op := Go.Op.move (Go.Operand.tmp 8), type := 3, pos := "text.go:76", after := #[], guard := none }, { dst := some 20, op := Go.Op.move (Go.Operand.tmp 1), type := 185, pos := "text.go:76", after := #[], guard := none }, { dst := some 21, op := Go.Op.call { callee := Go.Callee.builtin Go.Builtin.len, args := #[Go.Operand.tmp 20], argTypes := #[185] }, type := 3, pos := "text.go:76", after := #[{ on := 1, ground := Go.Ground.data }], guard := none }, { dst := some 22, op := Go.Op.binOp Go.BinOp.lss 3 (Go.Operand.tmp 19) (Go.Operand.tmp 21) 3, type := 4, pos := "text.go:76", after := #[{ on := 0, ground := Go.Ground.data }, { on := 2, ground := Go.Ground.data }], guard := none }, { dst := some 23, op := Go.Op.move (Go.Operand.tmp 22), type := 4, pos := "text.go:76", after := #[{ on := 3, ground := Go.Ground.data }], guard := none }, { dst := some 24, op := Go.Op.move (Go.Operand.tmp 0), type := 185, pos := "text.go:76", after := #[{ on := 4, ground := Go.Ground.guard }], guard := some (4, true) }, { dst := some 25, op := Go.Op.move (Go.Operand.tmp 7), type := 3, pos := "text.go:76", after := #[{ on := 4, ground := Go.Ground.guard }], guard := some (4, true) }, { dst := some 26, op := Go.Op.indexAddr 185 (Go.Operand.tmp 24) (Go.Operand.tmp 25), type := 0, pos := "text.go:76", after := #[{ on := 5, ground := Go.Ground.data }, { on := 6, ground := Go.Ground.data }, { on := 4, ground := Go.Ground.guard }], guard := some (4, true) }, { dst := some 27, op := Go.Op.load 9 (Go.Operand.tmp 26), type := 9, pos := "text.go:76", after := #[{ on := 7, ground := Go.Ground.data }, { on := 4, ground := Go.Ground.guard }], guard := some (4, true) }, { dst := some 28, op := Go.Op.move (Go.Operand.tmp 1), type := 185, pos := "text.go:76", after := #[{ on := 4, ground := Go.Ground.guard }], guard := some (4, true) }, { dst := some 29, op := Go.Op.move (Go.Operand.tmp 8), type := 3, pos := "text.go:76", after := #[{ on := 4, ground := Go.Ground.guard }], guard := some (4, true) }, { dst := some 30, op := Go.Op.indexAddr 185 (Go.Operand.tmp 28) (Go.Operand.tmp 29), type := 0, pos := "text.go:76", after := #[{ on := 9, ground := Go.Ground.data }, { on := 10, ground := Go.Ground.data }, { on := 4, ground := Go.Ground.guard }], guard := some (4, true) }, { dst := some 31, op := Go.Op.load 9 (Go.Operand.tmp 30), type := 9, pos := "text.go:76", after := #[{ on := 11, ground := Go.Ground.data }, { on := 4, ground := Go.Ground.guard }], guard := some (4, true) }, { dst := some 32, op := Go.Op.binOp Go.BinOp.eql 9 (Go.Operand.tmp 27) (Go.Operand.tmp 31) 9, type := 4, pos := "text.go:76", after := #[{ on := 8, ground := Go.Ground.data }, { on := 12, ground := Go.Ground.data }, { on := 4, ground := Go.Ground.guard }], guard := some (4, true) }, { dst := some 33, op := Go.Op.pick (Go.Operand.tmp 23) (Go.Operand.tmp 32) (Go.Operand.const (Go.Value.bool false)), type := 4, pos := "text.go:76", after := #[{ on := 4, ground := Go.Ground.data }, { on := 13, ground := Go.Ground.data }], guard := none }]
def op_257_10 : Array Go.Oper := #[{ dst := some 42, op := Go.Op.move (Go.Operand.tmp 8), type := 3, pos := "text.go:80", after := #[], guard := none }, { dst := some 43, op := Go.Op.move (Go.Operand.tmp 1), type := 185, pos := "text.go:80", after := #[], guard := none }, { dst := some 44, op := Go.Op.call { callee := Go.Callee.builtin Go.Builtin.len, args := #[Go.Operand.tmp 43], argTypes := #[185] }, type := 3, pos := "text.go:80", after := #[{ on := 1, ground := Go.Ground.data }], guard := none }, { dst := some 45, op := Go.Op.binOp Go.BinOp.geq 3 (Go.Operand.tmp 42) (Go.Operand.tmp 44) 3, type := 4, pos := "text.go:80", after := #[{ on := 0, ground := Go.Ground.data }, { on := 2, ground := Go.Ground.data }], guard := none }, { dst := some 46, op := Go.Op.move (Go.Operand.tmp 45), type := 4, pos := "text.go:80", after := #[{ on := 3, ground := Go.Ground.data }], guard := none }, { dst := some 47, op := Go.Op.move (Go.Operand.tmp 5), type := 299, pos := "text.go:80", after := #[{ on := 4, ground := Go.Ground.guard }], guard := some (4, false) }, { dst := some 48, op := Go.Op.move (Go.Operand.tmp 7), type := 3, pos := "text.go:80", after := #[{ on := 4, ground := Go.Ground.guard }], guard := some (4, false) }, { dst := some 49, op := Go.Op.binOp Go.BinOp.add 3 (Go.Operand.tmp 48) (Go.Operand.const (Go.Value.int Go.IntKind.i64 1)) 3, type := 3, pos := "text.go:80", after := #[{ on := 6, ground := Go.Ground.data }, { on := 4, ground := Go.Ground.guard }], guard := some (4, false) }, { dst := some 50, op := Go.Op.indexAddr 299 (Go.Operand.tmp 47) (Go.Operand.tmp 49), type := 0, pos := "text.go:80", after := #[{ on := 5, ground := Go.Ground.data }, { on := 7, ground := Go.Ground.data }, { on := 4, ground := Go.Ground.guard }], guard := some (4, false) }, { dst := some 51, op := Go.Op.load 65 (Go.Operand.tmp 50), type := 65, pos := "text.go:80", after := #[{ on := 8, ground := Go.Ground.data }, { on := 4, ground := Go.Ground.guard }], guard := some (4, false) }, { dst := some 52, op := Go.Op.move (Go.Operand.tmp 8), type := 3, pos := "text.go:80", after := #[{ on := 4, ground := Go.Ground.guard }], guard := some (4, false) }, { dst := some 53, op := Go.Op.indexAddr 65 (Go.Operand.tmp 51) (Go.Operand.tmp 52), type := 0, pos := "text.go:80", after := #[{ on := 9, ground := Go.Ground.data }, { on := 10, ground := Go.Ground.data }, { on := 4, ground := Go.Ground.guard }], guard := some (4, false) }, { dst := some 54, op := Go.Op.load 3 (Go.Operand.tmp 53), type := 3, pos := "text.go:80", after := #[{ on := 11, ground := Go.Ground.data }, { on := 4, ground := Go.Ground.guard }], guard := some (4, false) }, { dst := some 55, op := Go.Op.move (Go.Operand.tmp 5), type := 299, pos := "text.go:80", after := #[{ on := 4, ground := Go.Ground.guard }], guard := some (4, false) }, { dst := some 56, op := Go.Op.move (Go.Operand.tmp 7), type := 3, pos := "text.go:80", after := #[{ on := 4, ground := Go.Ground.guard }], guard := some (4, false) }, { dst := some 57, op := Go.Op.indexAddr 299 (Go.Operand.tmp 55) (Go.Operand.tmp 56), type := 0, pos := "text.go:80", after := #[{ on := 13, ground := Go.Ground.data }, { on := 14, ground := Go.Ground.data }, { on := 4, ground := Go.Ground.guard }], guard := some (4, false) }, { dst := some 58, op := Go.Op.load 65 (Go.Operand.tmp 57), type := 65, pos := "text.go:80", after := #[{ on := 15, ground := Go.Ground.data }, { on := 4, ground := Go.Ground.guard }], guard := some (4, false) }, { dst := some 59, op := Go.Op.move (Go.Operand.tmp 8), type := 3, pos := "text.go:80", after := #[{ on := 4, ground := Go.Ground.guard }], guard := some (4, false) }, { dst := some 60, op := Go.Op.binOp Go.BinOp.add 3 (Go.Operand.tmp 59) (Go.Operand.const (Go.Value.int Go.IntKind.i64 1)) 3, type := 3, pos := "text.go:80", after := #[{ on := 17, ground := Go.Ground.data }, { on := 4, ground := Go.Ground.guard }], guard := some (4, false) }, { dst := some 61, op := Go.Op.indexAddr 65 (Go.Operand.tmp 58) (Go.Operand.tmp 60), type := 0, pos := "text.go:80", after := #[{ on := 16, ground := Go.Ground.data }, { on := 18, ground := Go.Ground.data }, { on := 4, ground := Go.Ground.guard }], guard := some (4, false) }, { dst := some 62, op := Go.Op.load 3 (Go.Operand.tmp 61), type := 3, pos := "text.go:80", after := #[{ on := 19, ground := Go.Ground.data }, { on := 4, ground := Go.Ground.guard }], guard := some (4, false) }, { dst := some 63, op := Go.Op.binOp Go.BinOp.geq 3 (Go.Operand.tmp 54) (Go.Operand.tmp 62) 3, type := 4, pos := "text.go:80", after := #[{ on := 12, ground := Go.Ground.data }, { on := 20, ground := Go.Ground.data }, { on := 4, ground := Go.Ground.guard }], guard := some (4, false) }, { dst := some 64, op := Go.Op.pick (Go.Operand.tmp 46) (Go.Operand.const (Go.Value.bool true)) (Go.Operand.tmp 63), type := 4, pos := "text.go:80", after := #[{ on := 4, ground := Go.Ground.data }, { on := 21, ground := Go.Ground.data }], guard := none }]
theorem sb_257_6_0 : softB op_257_6 #[true, true, true, true, true, true, true, true, true, true, true, true, true, true, true] (Array.replicate 15 false) 0 = true := by kernel_rfl
theorem sb_257_6_1 : softB op_257_6 #[true, true, true, true, true, true, true, true, true, true, true, true, true, true, true] ((Array.replicate 15 false).setIfInBounds 0 true) 1 = true := by kernel_rfl
theorem sb_257_6_2 : softB op_257_6 #[true, true, true, true, true, true, true, true, true, true, true, true, true, true, true] (((Array.replicate 15 false).setIfInBounds 0 true).setIfInBounds 1 true) 2 = true := by kernel_rfl
theorem sb_257_6_3 : softB op_257_6 #[true, true, true, true, true, true, true, true, true, true, true, true, true, true, true] ((((Array.replicate 15 false).setIfInBounds 0 true).setIfInBounds 1 true).setIfInBounds 2 true) 3 = true := by kernel_rfl
theorem sb_257_6_4 : softB op_257_6 #[true, true, true, true, true, true, true, true, true, true, true, true, true, true, true] (((((Array.replicate 15 false).setIfInBounds 0 true).setIfInBounds 1 true).setIfInBounds 2 true).setIfInBounds 3 true) 4 = true := by kernel_rfl
theorem sb_257_6_5 : softB op_257_6 #[true, true, true, true, true, true, true, true, true, true, true, true, true, true, true] ((((((Array.replicate 15 false).setIfInBounds 0 true).setIfInBounds 1 true).setIfInBounds 2 true).setIfInBounds 3 true).setIfInBounds 4 true) 5 = true := by kernel_rfl
theorem sb_257_6_6 : softB op_257_6 #[true, true, true, true, true, true, true, true, true, true, true, true, true, true, true] (((((((Array.replicate 15 false).setIfInBounds 0 true).setIfInBounds 1 true).setIfInBounds 2 true).setIfInBounds 3 true).setIfInBounds 4 true).setIfInBounds 5 true) 6 = true := by kernel_rfl
theorem sb_257_6_7 : softB op_257_6 #[true, true, true, true, true, true, true, true, true, true, true, true, true, true, true] ((((((((Array.replicate 15 false).setIfInBounds 0 true).setIfInBounds 1 true).setIfInBounds 2 true).setIfInBounds 3 true).setIfInBounds 4 true).setIfInBounds 5 true).setIfInBounds 6 true) 7 = true := by kernel_rfl
theorem sb_257_6_8 : softB op_257_6 #[true, true, true, true, true, true, true, true, true, true, true, true, true, true, true] (((((((((Array.replicate 15 false).setIfInBounds 0 true).setIfInBounds 1 true).setIfInBounds 2 true).setIfInBounds 3 true).setIfInBounds 4 true).setIfInBounds 5 true).setIfInBounds 6 true).setIfInBounds 7 true) 8 = true := by kernel_rfl
theorem sb_257_6_9 : softB op_257_6 #[true, true, true, true, true, true, true, true, true, true, true, true, true, true, true] ((((((((((Array.replicate 15 false).setIfInBounds 0 true).setIfInBounds 1 true).setIfInBounds 2 true).setIfInBounds 3 true).setIfInBounds 4 true).setIfInBounds 5 true).setIfInBounds 6 true).setIfInBounds 7 true).setIfInBounds 8 true) 9 = true := by kernel_rfl
theorem sb_257_6_10 : softB op_257_6 #[true, true, true, true, true, true, true, true, true, true, true, true, true, true, true] (((((((((((Array.replicate 15 false).setIfInBounds 0 true).setIfInBounds 1 true).setIfInBounds 2 true).setIfInBounds 3 true).setIfInBounds 4 true).setIfInBounds 5 true).setIfInBounds 6 true).setIfInBounds 7 true).setIfInBounds 8 true).setIfInBounds 9 true) 10 = true := by kernel_rfl
theorem sb_257_6_11 : softB op_257_6 #[true, true, true, true, true, true, true, true, true, true, true, true, true, true, true] ((((((((((((Array.replicate 15 false).setIfInBounds 0 true).setIfInBounds 1 true).setIfInBounds 2 true).setIfInBounds 3 true).setIfInBounds 4 true).setIfInBounds 5 true).setIfInBounds 6 true).setIfInBounds 7 true).setIfInBounds 8 true).setIfInBounds 9 true).setIfInBounds 10 true) 11 = true := by kernel_rfl
theorem sb_257_6_12 : softB op_257_6 #[true, true, true, true, true, true, true, true, true, true, true, true, true, true, true] (((((((((((((Array.replicate 15 false).setIfInBounds 0 true).setIfInBounds 1 true).setIfInBounds 2 true).setIfInBounds 3 true).setIfInBounds 4 true).setIfInBounds 5 true).setIfInBounds 6 true).setIfInBounds 7 true).setIfInBounds 8 true).setIfInBounds 9 true).setIfInBounds 10 true).setIfInBounds 11 true) 12 = true := by kernel_rfl
theorem sb_257_6_13 : softB op_257_6 #[true, true, true, true, true, true, true, true, true, true, true, true, true, true, true] ((((((((((((((Array.replicate 15 false).setIfInBounds 0 true).setIfInBounds 1 true).setIfInBounds 2 true).setIfInBounds 3 true).setIfInBounds 4 true).setIfInBounds 5 true).setIfInBounds 6 true).setIfInBounds 7 true).setIfInBounds 8 true).setIfInBounds 9 true).setIfInBounds 10 true).setIfInBounds 11 true).setIfInBounds 12 true) 13 = true := by kernel_rfl
theorem sb_257_6_14 : softB op_257_6 #[true, true, true, true, true, true, true, true, true, true, true, true, true, true, true] (((((((((((((((Array.replicate 15 false).setIfInBounds 0 true).setIfInBounds 1 true).setIfInBounds 2 true).setIfInBounds 3 true).setIfInBounds 4 true).setIfInBounds 5 true).setIfInBounds 6 true).setIfInBounds 7 true).setIfInBounds 8 true).setIfInBounds 9 true).setIfInBounds 10 true).setIfInBounds 11 true).setIfInBounds 12 true).setIfInBounds 13 true) 14 = true := by kernel_rfl
theorem sb_257_6_15 : hardB op_257_6 ((((((((((((((((Array.replicate 15 false).setIfInBounds 0 true).setIfInBounds 1 true).setIfInBounds 2 true).setIfInBounds 3 true).setIfInBounds 4 true).setIfInBounds 5 true).setIfInBounds 6 true).setIfInBounds 7 true).setIfInBounds 8 true).setIfInBounds 9 true).setIfInBounds 10 true).setIfInBounds 11 true).setIfInBounds 12 true).setIfInBounds 13 true).setIfInBounds 14 true) [] = true := by kernel_rfl
theorem sb_257_10_0 : softB op_257_10 #[true, true, true, true, true, true, true, true, true, true, true, true, true, true, true, true, true, true, true, true, true, true, true] (Array.replicate 23 false) 0 = true := by kernel_rfl
theorem sb_257_10_1 : softB op_257_10 #[true, true, true, true, true, true, true, true, true, true, true, true, true, true, true, true, true, true, true, true, true, true, true] ((Array.replicate 23 false).setIfInBounds 0 true) 1 = true := by kernel_rfl
theorem sb_257_10_2 : softB op_257_10 #[true, true, true, true, true, true, true, true, true, true, true, true, true, true, true, true, true, true, true, true, true, true, true] (((Array.replicate 23 false).setIfInBounds 0 true).setIfInBounds 1 true) 2 = true := by kernel_rfl
theorem sb_257_10_3 : softB op_257_10 #[true, true, true, true, true, true, true, true, true, true, true, true, true, true, true, true, true, true, true, true, true, true, true] ((((Array.replicate 23 false).setIfInBounds 0 true).setIfInBounds 1 true).setIfInBounds 2 true) 3 = true := by kernel_rfl
theorem sb_257_10_4 : softB op_257_10 #[true, true, true, true, true, true, true, true, true, true, true, true, true, true, true, true, true, true, true, true, true, true, true] (((((Array.replicate 23 false).setIfInBounds 0 true).setIfInBounds 1 true).setIfInBounds 2 true).setIfInBounds 3 true) 4 = true := by kernel_rfl
theorem sb_257_10_5 : softB op_257_10 #[true, true, true, true, true, true, true, true, true, true, true, true, true, true, true, true, true, true, true, true, true, true, true] ((((((Array.replicate 23 false).setIfInBounds 0 true).setIfInBounds 1 true).setIfInBounds 2 true).setIfInBounds 3 true).setIfInBounds 4 true) 5 = true := by kernel_rfl
theorem sb_257_10_6 : softB op_257_10 #[true, true, true, true, true, true, true, true, true, true, true, true, true, true, true, true, true, true, true, true, true, true, true] (((((((Array.replicate 23 false).setIfInBounds 0 true).setIfInBounds 1 true).setIfInBounds 2 true).setIfInBounds 3 true).setIfInBounds 4 true).setIfInBounds 5 true) 6 = true := by kernel_rfl
theorem sb_257_10_7 : softB op_257_10 #[true, true, true, true, true, true, true, true, true, true, true, true, true, true, true, true, true, true, true, true, true, true, true] ((((((((Array.replicate 23 false).setIfInBounds 0 true).setIfInBounds 1 true).setIfInBounds 2 true).setIfInBounds 3 true).setIfInBounds 4 true).setIfInBounds 5 true).setIfInBounds 6 true) 7 = true := by kernel_rfl
theorem sb_257_10_8 : softB op_257_10 #[true, true, true, true, true, true, true, true, true, true, true, true, true, true, true, true, true, true, true, true, true, true, true] (((((((((Array.replicate 23 false).setIfInBounds 0 true).setIfInBounds 1 true).setIfInBounds 2 true).setIfInBounds 3 true).setIfInBounds 4 true).setIfInBounds 5 true).setIfInBounds 6 true).setIfInBounds 7 true) 8 = true := by kernel_rfl
theorem sb_257_10_9 : softB op_257_10 #[true, true, true, true, true, true, true, true, true, true, true, true, true, true, true, true, true, true, true, true, true, true, true] ((((((((((Array.replicate 23 false).setIfInBounds 0 true).setIfInBounds 1 true).setIfInBounds 2 true).setIfInBounds 3 true).setIfInBounds 4 true).setIfInBounds 5 true).setIfInBounds 6 true).setIfInBounds 7 true).setIfInBounds 8 true) 9 = true := by kernel_rfl
theorem sb_257_10_10 : softB op_257_10 #[true, true, true, true, true, true, true, true, true, true, true, true, true, true, true, true, true, true, true, true, true, true, true] (((((((((((Array.replicate 23 false).setIfInBounds 0 true).setIfInBounds 1 true).setIfInBounds 2 true).setIfInBounds 3 true).setIfInBounds 4 true).setIfInBounds 5 true).setIfInBounds 6 true).setIfInBounds 7 true).setIfInBounds 8 true).setIfInBounds 9 true) 10 = true := by kernel_rfl
theorem sb_257_10_11 : softB op_257_10 #[true, true, true, true, true, true, true, true, true, true, true, true, true, true, true, true, true, true, true, true, true, true, true] ((((((((((((Array.replicate 23 false).setIfInBounds 0 true).setIfInBounds 1 true).setIfInBounds 2 true).setIfInBounds 3 true).setIfInBounds 4 true).setIfInBounds 5 true).setIfInBounds 6 true).setIfInBounds 7 true).setIfInBounds 8 true).setIfInBounds 9 true).setIfInBounds 10 true) 11 = true := by kernel_rfl
theorem sb_257_10_12 : softB op_257_10 #[true, true, true, true, true, true, true, true, true, true, true, true, true, true, true, true, true, true, true, true, true, true, true] (((((((((((((Array.replicate 23 false).setIfInBounds 0 true).setIfInBounds 1 true).setIfInBounds 2 true).setIfInBounds 3 true).setIfInBounds 4 true).setIfInBounds 5 true).setIfInBounds 6 true).setIfInBounds 7 true).setIfInBounds 8 true).setIfInBounds 9 true).setIfInBounds 10 true).setIfInBounds 11 true) 12 = true := by kernel_rfl
theorem sb_257_10_13 : softB op_257_10 #[true, true, true, true, true, true, true, true, true, true, true, true, true, true, true, true, true, true, true, true, true, true, true] ((((((((((((((Array.replicate 23 false).setIfInBounds 0 true).setIfInBounds 1 true).setIfInBounds 2 true).setIfInBounds 3 true).setIfInBounds 4 true).setIfInBounds 5 true).setIfInBounds 6 true).setIfInBounds 7 true).setIfInBounds 8 true).setIfInBounds 9 true).setIfInBounds 10 true).setIfInBounds 11 true).setIfInBounds 12 true) 13 = true := by kernel_rfl
theorem sb_257_10_14 : softB op_257_10 #[true, true, true, true, true, true, true, true, true, true, true, true, true, true, true, true, true, true, true, true, true, true, true] (((((((((((((((Array.replicate 23 false).setIfInBounds 0 true).setIfInBounds 1 true).setIfInBounds 2 true).setIfInBounds 3 true).setIfInBounds 4 true).setIfInBounds 5 true).setIfInBounds 6 true).setIfInBounds 7 true).setIfInBounds 8 true).setIfInBounds 9 true).setIfInBounds 10 true).setIfInBounds 11 true).setIfInBounds 12 true).setIfInBounds 13 true) 14 = true := by kernel_rfl
theorem sb_257_10_15 : softB op_257_10 #[true, true, true, true, true, true, true, true, true, true, true, true, true, true, true, true, true, true, true, true, true, true, true] ((((((((((((((((Array.replicate 23 false).setIfInBounds 0 true).setIfInBounds 1 true).setIfInBounds 2 true).setIfInBounds 3 true).setIfInBounds 4 true).setIfInBounds 5 true).setIfInBounds 6 true).setIfInBounds 7 true).setIfInBounds 8 true).setIfInBounds 9 true).setIfInBounds 10 true).setIfInBounds 11 true).setIfInBounds 12 true).setIfInBounds 13 true).setIfInBounds 14 true) 15 = true := by kernel_rfl
theorem sb_257_10_16 : softB op_257_10 #[true, true, true, true, true, true, true, true, true, true, true, true, true, true, true, true, true, true, true, true, true, true, true] (((((((((((((((((Array.replicate 23 false).setIfInBounds 0 true).setIfInBounds 1 true).setIfInBounds 2 true).setIfInBounds 3 true).setIfInBounds 4 true).setIfInBounds 5 true).setIfInBounds 6 true).setIfInBounds 7 true).setIfInBounds 8 true).setIfInBounds 9 true).setIfInBounds 10 true).setIfInBounds 11 true).setIfInBounds 12 true).setIfInBounds 13 true).setIfInBounds 14 true).setIfInBounds 15 true) 16 = true := by kernel_rfl
theorem sb_257_10_17 : softB op_257_10 #[true, true, true, true, true, true, true, true, true, true, true, true, true, true, true, true, true, true, true, true, true, true, true] ((((((((((((((((((Array.replicate 23 false).setIfInBounds 0 true).setIfInBounds 1 true).setIfInBounds 2 true).setIfInBounds 3 true).setIfInBounds 4 true).setIfInBounds 5 true).setIfInBounds 6 true).setIfInBounds 7 true).setIfInBounds 8 true).setIfInBounds 9 true).setIfInBounds 10 true).setIfInBounds 11 true).setIfInBounds 12 true).setIfInBounds 13 true).setIfInBounds 14 true).setIfInBounds 15 true).setIfInBounds 16 true) 17 = true := by kernel_rfl
theorem sb_257_10_18 : softB op_257_10 #[true, true, true, true, true, true, true, true, true, true, true, true, true, true, true, true, true, true, true, true, true, true, true] (((((((((((((((((((Array.replicate 23 false).setIfInBounds 0 true).setIfInBounds 1 true).setIfInBounds 2 true).setIfInBounds 3 true).setIfInBounds 4 true).setIfInBounds 5 true).setIfInBounds 6 true).setIfInBounds 7 true).setIfInBounds 8 true).setIfInBounds 9 true).setIfInBounds 10 true).setIfInBounds 11 true).setIfInBounds 12 true).setIfInBounds 13 true).setIfInBounds 14 true).setIfInBounds 15 true).setIfInBounds 16 true).setIfInBounds 17 true) 18 = true := by kernel_rfl
theorem sb_257_10_19 : softB op_257_10 #[true, true, true, true, true, true, true, true, true, true, true, true, true, true, true, true, true, true, true, true, true, true, true] ((((((((((((((((((((Array.replicate 23 false).setIfInBounds 0 true).setIfInBounds 1 true).setIfInBounds 2 true).setIfInBounds 3 true).setIfInBounds 4 true).setIfInBounds 5 true).setIfInBounds 6 true).setIfInBounds 7 true).setIfInBounds 8 true).setIfInBounds 9 true).setIfInBounds 10 true).setIfInBounds 11 true).setIfInBounds 12 true).setIfInBounds 13 true).setIfInBounds 14 true).setIfInBounds 15 true).setIfInBounds 16 true).setIfInBounds 17 true).setIfInBounds 18 true) 19 = true := by kernel_rfl
theorem sb_257_10_20 : softB op_257_10 #[true, true, true, true, true, true, true, true, true, true, true, true, true, true, true, true, true, true, true, true, true, true, true] (((((((((((((((((((((Array.replicate 23 false).setIfInBounds 0 true).setIfInBounds 1 true).setIfInBounds 2 true).setIfInBounds 3 true).setIfInBounds 4 true).setIfInBounds 5 true).setIfInBounds 6 true).setIfInBounds 7 true).setIfInBounds 8 true).setIfInBounds 9 true).setIfInBounds 10 true).setIfInBounds 11 true).setIfInBounds 12 true).setIfInBounds 13 true).setIfInBounds 14 true).setIfInBounds 15 true).setIfInBounds 16 true).setIfInBounds 17 true).setIfInBounds 18 true).setIfInBounds 19 true) 20 = true := by kernel_rfl
theorem sb_257_10_21 : softB op_257_10 #[true, true, true, true, true, true, true, true, true, true, true, true, true, true, true, true, true, true, true, true, true, true, true] ((((((((((((((((((((((Array.replicate 23 false).setIfInBounds 0 true).setIfInBounds 1 true).setIfInBounds 2 true).setIfInBounds 3 true).setIfInBounds 4 true).setIfInBounds 5 true).setIfInBounds 6 true).setIfInBounds 7 true).setIfInBounds 8 true).setIfInBounds 9 true).setIfInBounds 10 true).setIfInBounds 11 true).setIfInBounds 12 true).setIfInBounds 13 true).setIfInBounds 14 true).setIfInBounds 15 true).setIfInBounds 16 true).setIfInBounds 17 true).setIfInBounds 18 true).setIfInBounds 19 true).setIfInBounds 20 true) 21 = true := by kernel_rfl
theorem sb_257_10_22 : softB op_257_10 #[true, true, true, true, true, true, true, true, true, true, true, true, true, true, true, true, true, true, true, true, true, true, true] (((((((((((((((((((((((Array.replicate 23 false).setIfInBounds 0 true).setIfInBounds 1 true).setIfInBounds 2 true).setIfInBounds 3 true).setIfInBounds 4 true).setIfInBounds 5 true).setIfInBounds 6 true).setIfInBounds 7 true).setIfInBounds 8 true).setIfInBounds 9 true).setIfInBounds 10 true).setIfInBounds 11 true).setIfInBounds 12 true).setIfInBounds 13 true).setIfInBounds 14 true).setIfInBounds 15 true).setIfInBounds 16 true).setIfInBounds 17 true).setIfInBounds 18 true).setIfInBounds 19 true).setIfInBounds 20 true).setIfInBounds 21 true) 22 = true := by kernel_rfl
theorem sb_257_10_23 : hardB op_257_10 ((((((((((((((((((((((((Array.replicate 23 false).setIfInBounds 0 true).setIfInBounds 1 true).setIfInBounds 2 true).setIfInBounds 3 true).setIfInBounds 4 true).setIfInBounds 5 true).setIfInBounds 6 true).setIfInBounds 7 true).setIfInBounds 8 true).setIfInBounds 9 true).setIfInBounds 10 true).setIfInBounds 11 true).setIfInBounds 12 true).setIfInBounds 13 true).setIfInBounds 14 true).setIfInBounds 15 true).setIfInBounds 16 true).setIfInBounds 17 true).setIfInBounds 18 true).setIfInBounds 19 true).setIfInBounds 20 true).setIfInBounds 21 true).setIfInBounds 22 true) [] = true := by kernel_rfl
/- api.Match -/
def m257_w1 (n : Nat) (a : (List Str)) (b_ : (List Str)) (l1 : List (List Int)) (mm : Nat) : Int → Int → (List Int) → Option (Int × Int × (List Int)) := it3 (fun lp1 c1 c2 l3 =>
cond (decide (c1 < (a.length : Int))) (
ob1 (cond (decide (c2 < (b_.length : Int))) (Option.bind (ixL a c1) fun x1 =>
Option.bind (ixL b_ c2) fun x2 =>
some ((decide (x1 = x2)))) (some (false))) fun c5 =>
cond c5 (
Option.bind (ckA c1 (l3.length : Int)) fun _ =>
Option.bind (stL l3 c1 c2) fun l5 =>
lp1 (wi (c1 + 1)) (wi (c2 + 1)) l5) (
ob1 (cond (decide ((b_.length : Int) ≤ c2)) (some (true)) (Option.bind (ixL l1 (wi (c1 + 1))) fun x4 =>
Option.bind (ixL x4 c2) fun x5 =>
Option.bind (ixL l1 c1) fun x6 =>
Option.bind (ixL x6 (wi (c2 + 1))) fun x7 =>
some ((decide (x7 ≤ x5))))) fun c6 =>
cond c6 (
Option.bind (ckA c1 (l3.length : Int)) fun _ =>
Option.bind (stL l3 c1 (-1)) fun l6 =>
lp1 (wi (c1 + 1)) c2 l6) (
lp1 c1 (wi (c2 + 1)) l3))) (
some (c1, c2, l3))) mm
def m257 (n : Nat) (a : (List Str)) (b_ : (List Str)) : Option ((List Int)) :=
ob1 (m294 n a b_) fun l1 =>
Option.bind (mkL (a.length : Int) (a.length : Int) (0 : Int)) fun l2 =>
ob3 (m257_w1 n a b_ l1 n 0 0 l2) fun c3 c4 l4 =>
some l4
theorem t257 {n : Nat} {C : List Chunk} {rl1 : List Int} {v1 : Value} {a : (List Str)} {v2 : Value} {b_ : (List Str)} (hr1 : Rd rStr C v1 a) (hr2 : Rd rStr C v2 b_)  (hm : m257 n a b_ = some rl1) : Trip Tryz.prog 257 #[v1, v2] ([] ++ [C]) (fun u S' => ∃ (ev1 : Value), ∃ (eg1 : List Chunk), ev1 = u ∧ S' = [eg1] ++ [C] ∧ Own rInt ev1 rl1 eg1) := by
  refine fn_entry (args := [v1, v2]) Tryz.func257 rfl Tryz.ntmps257 rfl (fun w0 => ?_)
  refine c_seq ?_
  refine c_region ?_
  have ho1 : Own rInt (.slice none 0 0) [] [] := Own.nil
  refine o_emp ?_
  refine o_L (y_assign rfl) rfl rfl ?_
  refine o_nil0 rfl ?_
  refine c_seq ?_
  refine c_region ?_
  refine o_T (y_move rfl) rfl ?_
  refine o_T (y_move rfl) rfl ?_
  obtain ⟨l1, hx1, hm⟩ := bd1 hm
  refine o_callC en_294 rfl s_nil (t294 (hr1.mono (fun _ hz => (ms (mg hz)))) (hr2.mono (fun _ hz => (ms (mg hz)))) hx1) rfl (fun u1 S1 hR1 => ?_)
  obtain ⟨v3, g1, rfl, rfl, ho2⟩ := hR1
  refine o_rest ?_
  refine o_L (y_assign rfl) rfl rfl ?_
  refine o_nil0 rfl ?_
  refine c_seq ?_
  refine c_region ?_
  refine o_T (y_move rfl) rfl ?_
  refine o_T (y_lenR hr1 Tryz.underlying185 rfl) rfl ?_
  obtain ⟨l2, hx2, hm⟩ := bd hm
  refine o_mkR (R := rInt) (a := 0) sz_65 rfl rfl rfl rfl rfl hx2 rfl (fun v4 g2 ho3 => ?_)
  refine o_L (y_assign rfl) rfl rfl ?_
  refine o_nil0 rfl ?_
  refine c_seq ?_
  refine c_region ?_
  refine o_L (y_assign rfl) rfl rfl ?_
  refine o_nil0 rfl ?_
  refine c_seq ?_
  refine c_region ?_
  refine o_L (y_assign rfl) rfl rfl ?_
  refine o_nil0 rfl ?_
  refine c_seq ?_
  obtain ⟨c3, c4, l4, hj1, hm⟩ := bd3 hm
  refine c_joinP (n := 1) (fun sh G => ∃ (g4 : List Chunk), sh = [(7, .int .i64 c3), (8, .int .i64 c4)] ∧ G = [g4] ∧ Own rInt v4 l4 g4) (s_take (s_take (s_skip (s_take s_nil)))) (.s .z) (fun _ _ h => h) ?_ ?_
  · skip
    refine c_block ?_
    refine c_loopP (n := 1) (fun mm sh G => ∃ (c1 : Int), ∃ (c2 : Int), ∃ (l3 : List Int), ∃ (g3 : List Chunk), sh = [(7, .int .i64 c1), (8, .int .i64 c2)] ∧ G = [g3] ∧ m257_w1 n a b_ l1 mm c1 c2 l3 = some (c3, c4, l4) ∧ Own rInt v4 l3 g3) n (s_take (s_take (s_skip (s_take s_nil)))) (.s .z) ⟨_, _, ⟨_, _, _, _, rfl, rfl, hj1, ho3⟩, ⟨rfl, rfl, trivial⟩, _, (s_take (s_take (s_skip (s_take s_nil))))⟩ ?_
    rintro mm sh G ⟨c1, c2, l3, g3, rfl, rfl, hm, ho4⟩
    obtain ⟨mm1, rfl, hm⟩ := it3_s hm
    refine c_seq ?_
    refine c_seq ?_
    refine c_region ?_
    refine o_T (y_move rfl) rfl ?_
    refine o_T (y_move rfl) rfl ?_
    refine o_T (y_lenR hr1 Tryz.underlying185 rfl) rfl ?_
    refine o_T (y_lss rfl rfl) rfl ?_
    refine o_nil1 18 rfl rfl ?_
    refine c_cond rfl (fun h1 => ?_) (fun h1 => ?_)
    · have hm := cd_t h1 hm
      refine c_skip ?_
      refine c_block ?_
      refine c_seq ?_
      obtain ⟨c5, hj2, hm⟩ := bd1 hm
      refine c_joinP (n := 0) (fun sh G => sh = [(33, .bool c5)] ∧ G = []) Sel.all' .z (fun _ _ h => h) ?_ ?_
      · have hm := hj2
        refine c_draw #[true, true, true, true, true, true, true, true, true, true, true, true, true, true, true] rfl (n := 15) rfl ?_
        refine d_T 0 rfl sb_257_6_0 rfl (y_move rfl) rfl ?_
        refine d_T 1 rfl sb_257_6_1 rfl (y_move rfl) rfl ?_
        refine d_T 2 rfl sb_257_6_2 rfl (y_lenR hr2 Tryz.underlying185 rfl) rfl ?_
        refine d_T 3 rfl sb_257_6_3 rfl (y_lss rfl rfl) rfl ?_
        refine d_T 4 rfl sb_257_6_4 rfl (y_move rfl) rfl ?_
        refine d_split 23 rfl (fun h2 => ?_) (fun h2 => ?_)
        · have hm := cd_t h2 hm
          refine d_Tg 5 rfl rfl rfl rfl sb_257_6_5 rfl (y_move rfl) rfl ?_
          refine d_Tg 6 rfl rfl rfl rfl sb_257_6_6 rfl (y_move rfl) rfl ?_
          obtain ⟨x1, hx3, hm⟩ := bd hm
          obtain ⟨b1, w1, cs1, y1, z1, vs1, hc1, ha1, hr3, hy1⟩ := hr1.ix hx3
          obtain rfl : vs1 = (encS x1) := hr3
          refine d_Tg 7 rfl rfl rfl rfl sb_257_6_7 rfl (hy1 sl_185 rfl rfl rfl) rfl ?_
          refine d_ldt 8 rfl rfl rfl rfl sb_257_6_8 one_9 rfl (fun x hx => hx) (ms (ms (mg hc1))) (At.getA (ha1)) rfl ?_
          refine d_Tg 9 rfl rfl rfl rfl sb_257_6_9 rfl (y_move rfl) rfl ?_
          refine d_Tg 10 rfl rfl rfl rfl sb_257_6_10 rfl (y_move rfl) rfl ?_
          obtain ⟨x2, hx4, hm⟩ := bd hm
          obtain ⟨b2, w2, cs2, y2, z2, vs2, hc2, ha2, hr4, hy2⟩ := hr2.ix hx4
          obtain rfl : vs2 = (encS x2) := hr4
          refine d_Tg 11 rfl rfl rfl rfl sb_257_6_11 rfl (hy2 sl_185 rfl rfl rfl) rfl ?_
          refine d_ldt 12 rfl rfl rfl rfl sb_257_6_12 one_9 rfl (fun x hx => hx) (ms (ms (mg hc2))) (At.getA (ha2)) rfl ?_
          refine d_Tg 13 rfl rfl rfl rfl sb_257_6_13 rfl (y_seq rfl rfl) rfl ?_
          refine d_T 14 rfl sb_257_6_14 rfl (y_pickT rfl rfl) rfl ?_
          refine d_nil1 33 sb_257_6_15 rfl rfl ?_
          obtain rfl := p1 hm
          exact ⟨_, _, ⟨rfl, rfl⟩, ⟨rfl, trivial⟩, ⟨rfl, rfl⟩, _, (s_take (s_take (s_take s_nil)))⟩
        · have hm := cd_f h2 hm
          refine d_pass 5 rfl rfl rfl rfl rfl sb_257_6_5 (fun x hx => hx) rfl ?_
          refine d_pass 6 rfl rfl rfl rfl rfl sb_257_6_6 (fun x hx => hx) rfl ?_
          refine d_pass 7 rfl rfl rfl rfl rfl sb_257_6_7 (fun x hx => hx) rfl ?_
          refine d_pass 8 rfl rfl rfl rfl rfl sb_257_6_8 (fun x hx => hx) rfl ?_
          refine d_pass 9 rfl rfl rfl rfl rfl sb_257_6_9 (fun x hx => hx) rfl ?_
          refine d_pass 10 rfl rfl rfl rfl rfl sb_257_6_10 (fun x hx => hx) rfl ?_
          refine d_pass 11 rfl rfl rfl rfl rfl sb_257_6_11 (fun x hx => hx) rfl ?_
          refine d_pass 12 rfl rfl rfl rfl rfl sb_257_6_12 (fun x hx => hx) rfl ?_
          refine d_pass 13 rfl rfl rfl rfl rfl sb_257_6_13 (fun x hx => hx) rfl ?_
          refine d_T 14 rfl sb_257_6_14 rfl (y_pickF rfl rfl) rfl ?_
          refine d_nil1 33 sb_257_6_15 rfl rfl ?_
          obtain rfl := p1 hm
          exact ⟨_, _, ⟨rfl, rfl⟩, ⟨rfl, trivial⟩, ⟨rfl, rfl⟩, _, (s_take (s_take (s_take s_nil)))⟩
      · rintro sh G ⟨rfl, rfl⟩
        refine c_cond rfl (fun h3 => ?_) (fun h3 => ?_)
        · have hm := cd_t h3 hm
          refine c_seq ?_
          refine c_region ?_
          refine o_T (y_move rfl) rfl ?_
          refine o_T (y_move rfl) rfl ?_
          refine o_T (y_move rfl) rfl ?_
          obtain ⟨_, hi1, hm⟩ := bd hm
          have hi1 := ckA_some hi1
          obtain ⟨b3, cp1, hv1, hy3⟩ := ho4.ix hi1
          refine o_T (hy3 sl_65 rfl rfl rfl) rfl ?_
          obtain ⟨l5, hx6, hm⟩ := bd hm
          refine o_stO1 one_3 rfl rfl rfl rfl ho4 hv1 hx6 (fun _ => q0) (fun g5 ho6 => ?_)
          refine o_nil0 rfl ?_
          refine c_seq ?_
          refine c_region ?_
          refine o_T (y_move rfl) rfl ?_
          refine o_T (y_add rfl rfl rfl) rfl ?_
          refine o_L (y_assign rfl) rfl rfl ?_
          refine o_nil0 rfl ?_
          refine c_region ?_
          refine o_T (y_move rfl) rfl ?_
          refine o_T (y_add rfl rfl rfl) rfl ?_
          refine o_L (y_assign rfl) rfl rfl ?_
          refine o_nil0 rfl ?_
          exact ⟨mm1, Nat.lt_succ_self _, _, _, ⟨_, _, _, _, rfl, rfl, hm, ho6⟩, ⟨rfl, rfl, trivial⟩, ⟨rfl, rfl⟩, _, (s_take (s_take (s_take s_nil)))⟩
        · have hm := cd_f h3 hm
          refine c_seq ?_
          obtain ⟨c6, hj3, hm⟩ := bd1 hm
          refine c_joinP (n := 0) (fun sh G => sh = [(64, .bool c6)] ∧ G = []) Sel.all' .z (fun _ _ h => h) ?_ ?_
          · have hm := hj3
            refine c_draw #[true, true, true, true, true, true, true, true, true, true, true, true, true, true, true, true, true, true, true, true, true, true, true] rfl (n := 23) rfl ?_
            refine d_T 0 rfl sb_257_10_0 rfl (y_move rfl) rfl ?_
            refine d_T 1 rfl sb_257_10_1 rfl (y_move rfl) rfl ?_
            refine d_T 2 rfl sb_257_10_2 rfl (y_lenR hr2 Tryz.underlying185 rfl) rfl ?_
            refine d_T 3 rfl sb_257_10_3 rfl (y_geq rfl rfl) rfl ?_
            refine d_T 4 rfl sb_257_10_4 rfl (y_move rfl) rfl ?_
            refine d_split 46 rfl (fun h4 => ?_) (fun h4 => ?_)
            · have hm := cd_t h4 hm
              refine d_pass 5 rfl rfl rfl rfl rfl sb_257_10_5 (fun x hx => hx) rfl ?_
              refine d_pass 6 rfl rfl rfl rfl rfl sb_257_10_6 (fun x hx => hx) rfl ?_
              refine d_pass 7 rfl rfl rfl rfl rfl sb_257_10_7 (fun x hx => hx) rfl ?_
              refine d_pass 8 rfl rfl rfl rfl rfl sb_257_10_8 (fun x hx => hx) rfl ?_
              refine d_pass 9 rfl rfl rfl rfl rfl sb_257_10_9 (fun x hx => hx) rfl ?_
              refine d_pass 10 rfl rfl rfl rfl rfl sb_257_10_10 (fun x hx => hx) rfl ?_
              refine d_pass 11 rfl rfl rfl rfl rfl sb_257_10_11 (fun x hx => hx) rfl ?_
              refine d_pass 12 rfl rfl rfl rfl rfl sb_257_10_12 (fun x hx => hx) rfl ?_
              refine d_pass 13 rfl rfl rfl rfl rfl sb_257_10_13 (fun x hx => hx) rfl ?_
              refine d_pass 14 rfl rfl rfl rfl rfl sb_257_10_14 (fun x hx => hx) rfl ?_
              refine d_pass 15 rfl rfl rfl rfl rfl sb_257_10_15 (fun x hx => hx) rfl ?_
              refine d_pass 16 rfl rfl rfl rfl rfl sb_257_10_16 (fun x hx => hx) rfl ?_
              refine d_pass 17 rfl rfl rfl rfl rfl sb_257_10_17 (fun x hx => hx) rfl ?_
              refine d_pass 18 rfl rfl rfl rfl rfl sb_257_10_18 (fun x hx => hx) rfl ?_
              refine d_pass 19 rfl rfl rfl rfl rfl sb_257_10_19 (fun x hx => hx) rfl ?_
              refine d_pass 20 rfl rfl rfl rfl rfl sb_257_10_20 (fun x hx => hx) rfl ?_
              refine d_pass 21 rfl rfl rfl rfl rfl sb_257_10_21 (fun x hx => hx) rfl ?_
              refine d_T 22 rfl sb_257_10_22 rfl (y_pickT rfl rfl) rfl ?_
              refine d_nil1 64 sb_257_10_23 rfl rfl ?_
              obtain rfl := p1 hm
              exact ⟨_, _, ⟨rfl, rfl⟩, ⟨rfl, trivial⟩, ⟨rfl, rfl⟩, _, (s_take (s_take (s_take s_nil)))⟩
            · have hm := cd_f h4 hm
              refine d_Tg 5 rfl rfl rfl rfl sb_257_10_5 rfl (y_move rfl) rfl ?_
              refine d_Tg 6 rfl rfl rfl rfl sb_257_10_6 rfl (y_move rfl) rfl ?_
              refine d_Tg 7 rfl rfl rfl rfl sb_257_10_7 rfl (y_add rfl rfl rfl) rfl ?_
              obtain ⟨x4, hx7, hm⟩ := bd hm
              obtain ⟨b4, w3, cs3, y3, z3, vs3, hc3, ha3, hr5, hy4⟩ := ho2.rd.ix hx7
              obtain ⟨v7, rfl, hr6⟩ := hr5
              refine d_Tg 8 rfl rfl rfl rfl sb_257_10_8 rfl (hy4 sl_299 rfl rfl rfl) rfl ?_
              refine d_ldt 9 rfl rfl rfl rfl sb_257_10_9 one_65 rfl (fun x hx => hx) (ms (mg hc3)) (At.getA (ha3)) rfl ?_
              refine d_Tg 10 rfl rfl rfl rfl sb_257_10_10 rfl (y_move rfl) rfl ?_
              obtain ⟨x5, hx8, hm⟩ := bd hm
              obtain ⟨b5, w4, cs4, y4, z4, vs4, hc4, ha4, hr7, hy5⟩ := hr6.ix hx8
              obtain rfl : vs4 = (encI x5) := hr7
              refine d_Tg 11 rfl rfl rfl rfl sb_257_10_11 rfl (hy5 sl_65 rfl rfl rfl) rfl ?_
              refine d_ldt 12 rfl rfl rfl rfl sb_257_10_12 one_3 rfl (fun x hx => hx) (ms (mg hc4)) (At.getA (ha4)) rfl ?_
              refine d_Tg 13 rfl rfl rfl rfl sb_257_10_13 rfl (y_move rfl) rfl ?_
              refine d_Tg 14 rfl rfl rfl rfl sb_257_10_14 rfl (y_move rfl) rfl ?_
              obtain ⟨x6, hx9, hm⟩ := bd hm
              obtain ⟨b6, w5, cs5, y5, z5, vs5, hc5, ha5, hr8, hy6⟩ := ho2.rd.ix hx9
              obtain ⟨v8, rfl, hr9⟩ := hr8
              refine d_Tg 15 rfl rfl rfl rfl sb_257_10_15 rfl (hy6 sl_299 rfl rfl rfl) rfl ?_
              refine d_ldt 16 rfl rfl rfl rfl sb_257_10_16 one_65 rfl (fun x hx => hx) (ms (mg hc5)) (At.getA (ha5)) rfl ?_
              refine d_Tg 17 rfl rfl rfl rfl sb_257_10_17 rfl (y_move rfl) rfl ?_
              refine d_Tg 18 rfl rfl rfl rfl sb_257_10_18 rfl (y_add rfl rfl rfl) rfl ?_
              obtain ⟨x7, hx10, hm⟩ := bd hm
              obtain ⟨b7, w6, cs6, y6, z6, vs6, hc6, ha6, hr10, hy7⟩ := hr9.ix hx10
              obtain rfl : vs6 = (encI x7) := hr10
              refine d_Tg 19 rfl rfl rfl rfl sb_257_10_19 rfl (hy7 sl_65 rfl rfl rfl) rfl ?_
              refine d_ldt 20 rfl rfl rfl rfl sb_257_10_20 one_3 rfl (fun x hx => hx) (ms (mg hc6)) (At.getA (ha6)) rfl ?_
              refine d_Tg 21 rfl rfl rfl rfl sb_257_10_21 rfl (y_geq rfl rfl) rfl ?_
              refine d_T 22 rfl sb_257_10_22 rfl (y_pickF rfl rfl) rfl ?_
              refine d_nil1 64 sb_257_10_23 rfl rfl ?_
              obtain rfl := p1 hm
              exact ⟨_, _, ⟨rfl, rfl⟩, ⟨rfl, trivial⟩, ⟨rfl, rfl⟩, _, (s_take (s_take (s_take s_nil)))⟩
          · rintro sh G ⟨rfl, rfl⟩
            refine c_cond rfl (fun h5 => ?_) (fun h5 => ?_)
            · have hm := cd_t h5 hm
              refine c_seq ?_
              refine c_region ?_
              refine o_T (y_move rfl) rfl ?_
              refine o_T (y_move rfl) rfl ?_
              obtain ⟨_, hi2, hm⟩ := bd hm
              have hi2 := ckA_some hi2
              obtain ⟨b8, cp2, hv2, hy8⟩ := ho4.ix hi2
              refine o_T (hy8 sl_65 rfl rfl rfl) rfl ?_
              obtain ⟨l6, hx12, hm⟩ := bd hm
              refine o_stO1 one_3 rfl rfl rfl rfl ho4 hv2 hx12 (fun _ => q0) (fun g6 ho7 => ?_)
              refine o_nil0 rfl ?_
              refine c_region ?_
              refine o_T (y_move rfl) rfl ?_
              refine o_T (y_add rfl rfl rfl) rfl ?_
              refine o_L (y_assign rfl) rfl rfl ?_
              refine o_nil0 rfl ?_
              exact ⟨mm1, Nat.lt_succ_self _, _, _, ⟨_, _, _, _, rfl, rfl, hm, ho7⟩, ⟨rfl, rfl, trivial⟩, ⟨rfl, rfl⟩, _, (s_take (s_take (s_take s_nil)))⟩
            · have hm := cd_f h5 hm
              refine c_region ?_
              refine o_T (y_move rfl) rfl ?_
              refine o_T (y_add rfl rfl rfl) rfl ?_
              refine o_L (y_assign rfl) rfl rfl ?_
              refine o_nil0 rfl ?_
              exact ⟨mm1, Nat.lt_succ_self _, _, _, ⟨_, _, _, _, rfl, rfl, hm, ho4⟩, ⟨rfl, rfl, trivial⟩, ⟨rfl, rfl⟩, _, (s_take (s_take (s_take s_nil)))⟩
    · have hm := cd_f h1 hm
      refine c_exit ?_
      obtain ⟨rfl, rfl, rfl⟩ := pr3 hm
      exact ⟨_, _, ⟨_, rfl, rfl, ho4⟩, ⟨rfl, rfl, trivial⟩, ⟨rfl, rfl⟩, _, (s_take (s_take (s_take s_nil)))⟩
  · rintro sh G ⟨g4, rfl, rfl, ho5⟩
    refine c_seq ?_
    refine c_region ?_
    refine o_T (y_move rfl) rfl ?_
    refine o_L (y_assign rfl) rfl rfl ?_
    refine o_nil0 rfl ?_
    refine c_ret ?_
    obtain rfl := p1 hm
    refine fun aX wX heX hsX => ret1 Tryz.results257 heX rfl (s_take (s_skip (s_take s_nil))) ?_
    exact ⟨v4, _, rfl, rfl, ho5⟩
end Go.Proofs.Qxb6500350aGreat
