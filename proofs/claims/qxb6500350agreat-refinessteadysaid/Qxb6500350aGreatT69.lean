/- MADE BY PROGRAM (tools350/mir.py): mirror and walk. -/
import Derived.Test.Qxb6500350aGreatF2
import Derived.Test.Qxb6500350aGreatT23
set_option linter.unusedVariables false
set_option linter.unusedSimpArgs false
set_option maxRecDepth 20000
set_option maxHeartbeats 4000000
namespace Go.Proofs.Qxb6500350aGreat
open Go.Eng

def op_69_5 : Array Go.Oper := #[{ dst := some 20, op := Go.Op.move (Go.Operand.tmp 5), type := 27, pos := "devm.go:70", after := #[], guard := none }, { dst := some 21, op := Go.Op.nilCheck (Go.Operand.tmp 20), type := 0, pos := "devm.go:70", after := #[{ on := 0, ground := Go.Ground.data }], guard := none }, { dst := some 22, op := Go.Op.fieldAddr 85 (Go.Operand.tmp 21) 0, type := 0, pos := "devm.go:70", after := #[{ on := 1, ground := Go.Ground.data }], guard := none }, { dst := some 23, op := Go.Op.load 81 (Go.Operand.tmp 22), type := 81, pos := "devm.go:70", after := #[{ on := 2, ground := Go.Ground.data }], guard := none }, { dst := some 24, op := Go.Op.move (Go.Operand.tmp 6), type := 3, pos := "devm.go:70", after := #[], guard := none }, { dst := some 25, op := Go.Op.move (Go.Operand.tmp 0), type := 27, pos := "devm.go:70", after := #[], guard := none }, { dst := some 26, op := Go.Op.nilCheck (Go.Operand.tmp 25), type := 0, pos := "devm.go:70", after := #[{ on := 5, ground := Go.Ground.data }], guard := none }, { dst := some 27, op := Go.Op.fieldAddr 85 (Go.Operand.tmp 26) 1, type := 0, pos := "devm.go:70", after := #[{ on := 6, ground := Go.Ground.data }], guard := none }, { dst := some 28, op := Go.Op.load 81 (Go.Operand.tmp 27), type := 81, pos := "devm.go:70", after := #[{ on := 7, ground := Go.Ground.data }], guard := none }, { dst := some 29, op := Go.Op.move (Go.Operand.tmp 6), type := 3, pos := "devm.go:70", after := #[], guard := none }, { dst := some 30, op := Go.Op.indexAddr 81 (Go.Operand.tmp 28) (Go.Operand.tmp 29), type := 0, pos := "devm.go:70", after := #[{ on := 8, ground := Go.Ground.data }, { on := 9, ground := Go.Ground.data }], guard := none }, { dst := some 31, op := Go.Op.load 5 (Go.Operand.tmp 30), type := 5, pos := "devm.go:70", after := #[{ on := 10, ground := Go.Ground.data }], guard := none }, { dst := some 32, op := Go.Op.indexAddr 81 (Go.Operand.tmp 23) (Go.Operand.tmp 24), type := 0, pos := "devm.go:70", after := #[{ on := 3, ground := Go.Ground.data }, { on := 4, ground := Go.Ground.data }, { on := 0, ground := Go.Ground.phase }, { on := 1, ground := Go.Ground.phase }, { on := 2, ground := Go.Ground.phase }, { on := 3, ground := Go.Ground.phase }, { on := 4, ground := Go.Ground.phase }, { on := 5, ground := Go.Ground.phase }, { on := 6, ground := Go.Ground.phase }, { on := 7, ground := Go.Ground.phase }, { on := 8, ground := Go.Ground.phase }, { on := 9, ground := Go.Ground.phase }, { on := 10, ground := Go.Ground.phase }, { on := 11, ground := Go.Ground.phase }], guard := none }, { dst := none, op := Go.Op.store 5 (Go.Operand.tmp 32) (Go.Operand.tmp 31), type := 0, pos := "devm.go:70", after := #[{ on := 12, ground := Go.Ground.data }, { on := 11, ground := Go.Ground.data }, { on := 0, ground := Go.Ground.phase }, { on := 1, ground := Go.Ground.phase }, { on := 2, ground := Go.Ground.phase }, { on := 3, ground := Go.Ground.phase }, { on := 4, ground := Go.Ground.phase }, { on := 5, ground := Go.Ground.phase }, { on := 6, ground := Go.Ground.phase }, { on := 7, ground := Go.Ground.phase }, { on := 8, ground := Go.Ground.phase }, { on := 9, ground := Go.Ground.phase }, { on := 10, ground := Go.Ground.phase }, { on := 11, ground := Go.Ground.phase }], guard := none }]
def op_69_12 : Array Go.Oper := #[{ dst := some 51, op := Go.Op.move (Go.Operand.tmp 5), type := 27, pos := "devm.go:74", after := #[], guard := none }, { dst := some 52, op := Go.Op.nilCheck (Go.Operand.tmp 51), type := 0, pos := "devm.go:74", after := #[{ on := 0, ground := Go.Ground.data }], guard := none }, { dst := some 53, op := Go.Op.fieldAddr 85 (Go.Operand.tmp 52) 0, type := 0, pos := "devm.go:74", after := #[{ on := 1, ground := Go.Ground.data }], guard := none }, { dst := some 54, op := Go.Op.load 81 (Go.Operand.tmp 53), type := 81, pos := "devm.go:74", after := #[{ on := 2, ground := Go.Ground.data }], guard := none }, { dst := some 55, op := Go.Op.move (Go.Operand.tmp 0), type := 27, pos := "devm.go:74", after := #[], guard := none }, { dst := some 56, op := Go.Op.nilCheck (Go.Operand.tmp 55), type := 0, pos := "devm.go:74", after := #[{ on := 4, ground := Go.Ground.data }], guard := none }, { dst := some 57, op := Go.Op.fieldAddr 85 (Go.Operand.tmp 56) 2, type := 0, pos := "devm.go:74", after := #[{ on := 5, ground := Go.Ground.data }], guard := none }, { dst := some 58, op := Go.Op.load 65 (Go.Operand.tmp 57), type := 65, pos := "devm.go:74", after := #[{ on := 6, ground := Go.Ground.data }], guard := none }, { dst := some 59, op := Go.Op.move (Go.Operand.tmp 7), type := 3, pos := "devm.go:74", after := #[], guard := none }, { dst := some 60, op := Go.Op.indexAddr 65 (Go.Operand.tmp 58) (Go.Operand.tmp 59), type := 0, pos := "devm.go:74", after := #[{ on := 7, ground := Go.Ground.data }, { on := 8, ground := Go.Ground.data }], guard := none }, { dst := some 61, op := Go.Op.load 3 (Go.Operand.tmp 60), type := 3, pos := "devm.go:74", after := #[{ on := 9, ground := Go.Ground.data }], guard := none }, { dst := some 62, op := Go.Op.binOp Go.BinOp.mul 3 (Go.Operand.tmp 61) (Go.Operand.const (Go.Value.int Go.IntKind.i64 64)) 3, type := 3, pos := "devm.go:74", after := #[{ on := 10, ground := Go.Ground.data }], guard := none }, { dst := some 63, op := Go.Op.move (Go.Operand.tmp 8), type := 3, pos := "devm.go:74", after := #[], guard := none }, { dst := some 64, op := Go.Op.binOp Go.BinOp.add 3 (Go.Operand.tmp 62) (Go.Operand.tmp 63) 3, type := 3, pos := "devm.go:74", after := #[{ on := 11, ground := Go.Ground.data }, { on := 12, ground := Go.Ground.data }], guard := none }, { dst := some 65, op := Go.Op.move (Go.Operand.tmp 0), type := 27, pos := "devm.go:74", after := #[], guard := none }, { dst := some 66, op := Go.Op.nilCheck (Go.Operand.tmp 65), type := 0, pos := "devm.go:74", after := #[{ on := 14, ground := Go.Ground.data }], guard := none }, { dst := some 67, op := Go.Op.fieldAddr 85 (Go.Operand.tmp 66) 3, type := 0, pos := "devm.go:74", after := #[{ on := 15, ground := Go.Ground.data }], guard := none }, { dst := some 68, op := Go.Op.load 81 (Go.Operand.tmp 67), type := 81, pos := "devm.go:74", after := #[{ on := 16, ground := Go.Ground.data }], guard := none }, { dst := some 69, op := Go.Op.move (Go.Operand.tmp 7), type := 3, pos := "devm.go:74", after := #[], guard := none }, { dst := some 70, op := Go.Op.binOp Go.BinOp.mul 3 (Go.Operand.tmp 69) (Go.Operand.const (Go.Value.int Go.IntKind.i64 64)) 3, type := 3, pos := "devm.go:74", after := #[{ on := 18, ground := Go.Ground.data }], guard := none }, { dst := some 71, op := Go.Op.move (Go.Operand.tmp 8), type := 3, pos := "devm.go:74", after := #[], guard := none }, { dst := some 72, op := Go.Op.binOp Go.BinOp.add 3 (Go.Operand.tmp 70) (Go.Operand.tmp 71) 3, type := 3, pos := "devm.go:74", after := #[{ on := 19, ground := Go.Ground.data }, { on := 20, ground := Go.Ground.data }], guard := none }, { dst := some 73, op := Go.Op.indexAddr 81 (Go.Operand.tmp 68) (Go.Operand.tmp 72), type := 0, pos := "devm.go:74", after := #[{ on := 17, ground := Go.Ground.data }, { on := 21, ground := Go.Ground.data }], guard := none }, { dst := some 74, op := Go.Op.load 5 (Go.Operand.tmp 73), type := 5, pos := "devm.go:74", after := #[{ on := 22, ground := Go.Ground.data }], guard := none }, { dst := some 75, op := Go.Op.indexAddr 81 (Go.Operand.tmp 54) (Go.Operand.tmp 64), type := 0, pos := "devm.go:74", after := #[{ on := 3, ground := Go.Ground.data }, { on := 13, ground := Go.Ground.data }, { on := 0, ground := Go.Ground.phase }, { on := 1, ground := Go.Ground.phase }, { on := 2, ground := Go.Ground.phase }, { on := 3, ground := Go.Ground.phase }, { on := 4, ground := Go.Ground.phase }, { on := 5, ground := Go.Ground.phase }, { on := 6, ground := Go.Ground.phase }, { on := 7, ground := Go.Ground.phase }, { on := 8, ground := Go.Ground.phase }, { on := 9, ground := Go.Ground.phase }, { on := 10, ground := Go.Ground.phase }, { on := 11, ground := Go.Ground.phase }, { on := 12, ground := Go.Ground.phase }, { on := 13, ground := Go.Ground.phase }, { on := 14, ground := Go.Ground.phase }, { on := 15, ground := Go.Ground.phase }, { on := 16, ground := Go.Ground.phase }, { on := 17, ground := Go.Ground.phase }, { on := 18, ground := Go.Ground.phase }, { on := 19, ground := Go.Ground.phase }, { on := 20, ground := Go.Ground.phase }, { on := 21, ground := Go.Ground.phase }, { on := 22, ground := Go.Ground.phase }, { on := 23, ground := Go.Ground.phase }], guard := none }, { dst := none, op := Go.Op.store 5 (Go.Operand.tmp 75) (Go.Operand.tmp 74), type := 0, pos := "devm.go:74", after := #[{ on := 24, ground := Go.Ground.data }, { on := 23, ground := Go.Ground.data }, { on := 0, ground := Go.Ground.phase }, { on := 1, ground := Go.Ground.phase }, { on := 2, ground := Go.Ground.phase }, { on := 3, ground := Go.Ground.phase }, { on := 4, ground := Go.Ground.phase }, { on := 5, ground := Go.Ground.phase }, { on := 6, ground := Go.Ground.phase }, { on := 7, ground := Go.Ground.phase }, { on := 8, ground := Go.Ground.phase }, { on := 9, ground := Go.Ground.phase }, { on := 10, ground := Go.Ground.phase }, { on := 11, ground := Go.Ground.phase }, { on := 12, ground := Go.Ground.phase }, { on := 13, ground := Go.Ground.phase }, { on := 14, ground := Go.Ground.phase }, { on := 15, ground := Go.Ground.phase }, { on := 16, ground := Go.Ground.phase }, { on := 17, ground := Go.Ground.phase }, { on := 18, ground := Go.Ground.phase }, { on := 19, ground := Go.Ground.phase }, { on := 20, ground := Go.Ground.phase }, { on := 21, ground := Go.Ground.phase }, { on := 22, ground := Go.Ground.phase }, { on := 23, ground := Go.Ground.phase }], guard := none }]
def op_69_16 : Array Go.Oper := #[{ dst := some 85, op := Go.Op.move (Go.Operand.tmp 5), type := 27, pos := "devm.go:78", after := #[], guard := none }, { dst := some 86, op := Go.Op.nilCheck (Go.Operand.tmp 85), type := 0, pos := "devm.go:78", after := #[{ on := 0, ground := Go.Ground.data }], guard := none }, { dst := some 87, op := Go.Op.fieldAddr 85 (Go.Operand.tmp 86) 1, type := 0, pos := "devm.go:78", after := #[{ on := 1, ground := Go.Ground.data }], guard := none }, { dst := some 88, op := Go.Op.load 81 (Go.Operand.tmp 87), type := 81, pos := "devm.go:78", after := #[{ on := 2, ground := Go.Ground.data }], guard := none }, { dst := some 89, op := Go.Op.move (Go.Operand.tmp 9), type := 3, pos := "devm.go:78", after := #[], guard := none }, { dst := some 90, op := Go.Op.move (Go.Operand.tmp 5), type := 27, pos := "devm.go:78", after := #[], guard := none }, { dst := some 91, op := Go.Op.nilCheck (Go.Operand.tmp 90), type := 0, pos := "devm.go:78", after := #[{ on := 5, ground := Go.Ground.data }], guard := none }, { dst := some 92, op := Go.Op.fieldAddr 85 (Go.Operand.tmp 91) 0, type := 0, pos := "devm.go:78", after := #[{ on := 6, ground := Go.Ground.data }], guard := none }, { dst := some 93, op := Go.Op.load 81 (Go.Operand.tmp 92), type := 81, pos := "devm.go:78", after := #[{ on := 7, ground := Go.Ground.data }], guard := none }, { dst := some 94, op := Go.Op.move (Go.Operand.tmp 9), type := 3, pos := "devm.go:78", after := #[], guard := none }, { dst := some 95, op := Go.Op.indexAddr 81 (Go.Operand.tmp 93) (Go.Operand.tmp 94), type := 0, pos := "devm.go:78", after := #[{ on := 8, ground := Go.Ground.data }, { on := 9, ground := Go.Ground.data }], guard := none }, { dst := some 96, op := Go.Op.load 5 (Go.Operand.tmp 95), type := 5, pos := "devm.go:78", after := #[{ on := 10, ground := Go.Ground.data }], guard := none }, { dst := some 97, op := Go.Op.indexAddr 81 (Go.Operand.tmp 88) (Go.Operand.tmp 89), type := 0, pos := "devm.go:78", after := #[{ on := 3, ground := Go.Ground.data }, { on := 4, ground := Go.Ground.data }, { on := 0, ground := Go.Ground.phase }, { on := 1, ground := Go.Ground.phase }, { on := 2, ground := Go.Ground.phase }, { on := 3, ground := Go.Ground.phase }, { on := 4, ground := Go.Ground.phase }, { on := 5, ground := Go.Ground.phase }, { on := 6, ground := Go.Ground.phase }, { on := 7, ground := Go.Ground.phase }, { on := 8, ground := Go.Ground.phase }, { on := 9, ground := Go.Ground.phase }, { on := 10, ground := Go.Ground.phase }, { on := 11, ground := Go.Ground.phase }], guard := none }, { dst := none, op := Go.Op.store 5 (Go.Operand.tmp 97) (Go.Operand.tmp 96), type := 0, pos := "devm.go:78", after := #[{ on := 12, ground := Go.Ground.data }, { on := 11, ground := Go.Ground.data }, { on := 0, ground := Go.Ground.phase }, { on := 1, ground := Go.Ground.phase }, { on := 2, ground := Go.Ground.phase }, { on := 3, ground := Go.Ground.phase }, { on := 4, ground := Go.Ground.phase }, { on := 5, ground := Go.Ground.phase }, { on := 6, ground := Go.Ground.phase }, { on := 7, ground := Go.Ground.phase }, { on := 8, ground := Go.Ground.phase }, { on := 9, ground := Go.Ground.phase }, { on := 10, ground := Go.Ground.phase }, { on := 11, ground := Go.Ground.phase }], guard := none }]
theorem sb_69_5_0 : softB op_69_5 #[true, true, true, true, true, true, true, true, true, true, true, true, true, false] (Array.replicate 14 false) 0 = true := by kernel_rfl
theorem sb_69_5_1 : softB op_69_5 #[true, true, true, true, true, true, true, true, true, true, true, true, true, false] ((Array.replicate 14 false).setIfInBounds 0 true) 1 = true := by kernel_rfl
theorem sb_69_5_2 : softB op_69_5 #[true, true, true, true, true, true, true, true, true, true, true, true, true, false] (((Array.replicate 14 false).setIfInBounds 0 true).setIfInBounds 1 true) 2 = true := by kernel_rfl
theorem sb_69_5_3 : softB op_69_5 #[true, true, true, true, true, true, true, true, true, true, true, true, true, false] ((((Array.replicate 14 false).setIfInBounds 0 true).setIfInBounds 1 true).setIfInBounds 2 true) 3 = true := by kernel_rfl
theorem sb_69_5_4 : softB op_69_5 #[true, true, true, true, true, true, true, true, true, true, true, true, true, false] (((((Array.replicate 14 false).setIfInBounds 0 true).setIfInBounds 1 true).setIfInBounds 2 true).setIfInBounds 3 true) 4 = true := by kernel_rfl
theorem sb_69_5_5 : softB op_69_5 #[true, true, true, true, true, true, true, true, true, true, true, true, true, false] ((((((Array.replicate 14 false).setIfInBounds 0 true).setIfInBounds 1 true).setIfInBounds 2 true).setIfInBounds 3 true).setIfInBounds 4 true) 5 = true := by kernel_rfl
theorem sb_69_5_6 : softB op_69_5 #[true, true, true, true, true, true, true, true, true, true, true, true, true, false] (((((((Array.replicate 14 false).setIfInBounds 0 true).setIfInBounds 1 true).setIfInBounds 2 true).setIfInBounds 3 true).setIfInBounds 4 true).setIfInBounds 5 true) 6 = true := by kernel_rfl
theorem sb_69_5_7 : softB op_69_5 #[true, true, true, true, true, true, true, true, true, true, true, true, true, false] ((((((((Array.replicate 14 false).setIfInBounds 0 true).setIfInBounds 1 true).setIfInBounds 2 true).setIfInBounds 3 true).setIfInBounds 4 true).setIfInBounds 5 true).setIfInBounds 6 true) 7 = true := by kernel_rfl
theorem sb_69_5_8 : softB op_69_5 #[true, true, true, true, true, true, true, true, true, true, true, true, true, false] (((((((((Array.replicate 14 false).setIfInBounds 0 true).setIfInBounds 1 true).setIfInBounds 2 true).setIfInBounds 3 true).setIfInBounds 4 true).setIfInBounds 5 true).setIfInBounds 6 true).setIfInBounds 7 true) 8 = true := by kernel_rfl
theorem sb_69_5_9 : softB op_69_5 #[true, true, true, true, true, true, true, true, true, true, true, true, true, false] ((((((((((Array.replicate 14 false).setIfInBounds 0 true).setIfInBounds 1 true).setIfInBounds 2 true).setIfInBounds 3 true).setIfInBounds 4 true).setIfInBounds 5 true).setIfInBounds 6 true).setIfInBounds 7 true).setIfInBounds 8 true) 9 = true := by kernel_rfl
theorem sb_69_5_10 : softB op_69_5 #[true, true, true, true, true, true, true, true, true, true, true, true, true, false] (((((((((((Array.replicate 14 false).setIfInBounds 0 true).setIfInBounds 1 true).setIfInBounds 2 true).setIfInBounds 3 true).setIfInBounds 4 true).setIfInBounds 5 true).setIfInBounds 6 true).setIfInBounds 7 true).setIfInBounds 8 true).setIfInBounds 9 true) 10 = true := by kernel_rfl
theorem sb_69_5_11 : softB op_69_5 #[true, true, true, true, true, true, true, true, true, true, true, true, true, false] ((((((((((((Array.replicate 14 false).setIfInBounds 0 true).setIfInBounds 1 true).setIfInBounds 2 true).setIfInBounds 3 true).setIfInBounds 4 true).setIfInBounds 5 true).setIfInBounds 6 true).setIfInBounds 7 true).setIfInBounds 8 true).setIfInBounds 9 true).setIfInBounds 10 true) 11 = true := by kernel_rfl
theorem sb_69_5_12 : softB op_69_5 #[true, true, true, true, true, true, true, true, true, true, true, true, true, false] (((((((((((((Array.replicate 14 false).setIfInBounds 0 true).setIfInBounds 1 true).setIfInBounds 2 true).setIfInBounds 3 true).setIfInBounds 4 true).setIfInBounds 5 true).setIfInBounds 6 true).setIfInBounds 7 true).setIfInBounds 8 true).setIfInBounds 9 true).setIfInBounds 10 true).setIfInBounds 11 true) 12 = true := by kernel_rfl
theorem sb_69_5_13 : hardB op_69_5 ((((((((((((((Array.replicate 14 false).setIfInBounds 0 true).setIfInBounds 1 true).setIfInBounds 2 true).setIfInBounds 3 true).setIfInBounds 4 true).setIfInBounds 5 true).setIfInBounds 6 true).setIfInBounds 7 true).setIfInBounds 8 true).setIfInBounds 9 true).setIfInBounds 10 true).setIfInBounds 11 true).setIfInBounds 12 true) [13] = true := by kernel_rfl
theorem sb_69_5_14 : hardB op_69_5 (((((((((((((((Array.replicate 14 false).setIfInBounds 0 true).setIfInBounds 1 true).setIfInBounds 2 true).setIfInBounds 3 true).setIfInBounds 4 true).setIfInBounds 5 true).setIfInBounds 6 true).setIfInBounds 7 true).setIfInBounds 8 true).setIfInBounds 9 true).setIfInBounds 10 true).setIfInBounds 11 true).setIfInBounds 12 true).setIfInBounds 13 true) [] = true := by kernel_rfl
theorem sb_69_12_0 : softB op_69_12 #[true, true, true, true, true, true, true, true, true, true, true, true, true, true, true, true, true, true, true, true, true, true, true, true, true, false] (Array.replicate 26 false) 0 = true := by kernel_rfl
theorem sb_69_12_1 : softB op_69_12 #[true, true, true, true, true, true, true, true, true, true, true, true, true, true, true, true, true, true, true, true, true, true, true, true, true, false] ((Array.replicate 26 false).setIfInBounds 0 true) 1 = true := by kernel_rfl
theorem sb_69_12_2 : softB op_69_12 #[true, true, true, true, true, true, true, true, true, true, true, true, true, true, true, true, true, true, true, true, true, true, true, true, true, false] (((Array.replicate 26 false).setIfInBounds 0 true).setIfInBounds 1 true) 2 = true := by kernel_rfl
theorem sb_69_12_3 : softB op_69_12 #[true, true, true, true, true, true, true, true, true, true, true, true, true, true, true, true, true, true, true, true, true, true, true, true, true, false] ((((Array.replicate 26 false).setIfInBounds 0 true).setIfInBounds 1 true).setIfInBounds 2 true) 3 = true := by kernel_rfl
theorem sb_69_12_4 : softB op_69_12 #[true, true, true, true, true, true, true, true, true, true, true, true, true, true, true, true, true, true, true, true, true, true, true, true, true, false] (((((Array.replicate 26 false).setIfInBounds 0 true).setIfInBounds 1 true).setIfInBounds 2 true).setIfInBounds 3 true) 4 = true := by kernel_rfl
theorem sb_69_12_5 : softB op_69_12 #[true, true, true, true, true, true, true, true, true, true, true, true, true, true, true, true, true, true, true, true, true, true, true, true, true, false] ((((((Array.replicate 26 false).setIfInBounds 0 true).setIfInBounds 1 true).setIfInBounds 2 true).setIfInBounds 3 true).setIfInBounds 4 true) 5 = true := by kernel_rfl
theorem sb_69_12_6 : softB op_69_12 #[true, true, true, true, true, true, true, true, true, true, true, true, true, true, true, true, true, true, true, true, true, true, true, true, true, false] (((((((Array.replicate 26 false).setIfInBounds 0 true).setIfInBounds 1 true).setIfInBounds 2 true).setIfInBounds 3 true).setIfInBounds 4 true).setIfInBounds 5 true) 6 = true := by kernel_rfl
theorem sb_69_12_7 : softB op_69_12 #[true, true, true, true, true, true, true, true, true, true, true, true, true, true, true, true, true, true, true, true, true, true, true, true, true, false] ((((((((Array.replicate 26 false).setIfInBounds 0 true).setIfInBounds 1 true).setIfInBounds 2 true).setIfInBounds 3 true).setIfInBounds 4 true).setIfInBounds 5 true).setIfInBounds 6 true) 7 = true := by kernel_rfl
theorem sb_69_12_8 : softB op_69_12 #[true, true, true, true, true, true, true, true, true, true, true, true, true, true, true, true, true, true, true, true, true, true, true, true, true, false] (((((((((Array.replicate 26 false).setIfInBounds 0 true).setIfInBounds 1 true).setIfInBounds 2 true).setIfInBounds 3 true).setIfInBounds 4 true).setIfInBounds 5 true).setIfInBounds 6 true).setIfInBounds 7 true) 8 = true := by kernel_rfl
theorem sb_69_12_9 : softB op_69_12 #[true, true, true, true, true, true, true, true, true, true, true, true, true, true, true, true, true, true, true, true, true, true, true, true, true, false] ((((((((((Array.replicate 26 false).setIfInBounds 0 true).setIfInBounds 1 true).setIfInBounds 2 true).setIfInBounds 3 true).setIfInBounds 4 true).setIfInBounds 5 true).setIfInBounds 6 true).setIfInBounds 7 true).setIfInBounds 8 true) 9 = true := by kernel_rfl
theorem sb_69_12_10 : softB op_69_12 #[true, true, true, true, true, true, true, true, true, true, true, true, true, true, true, true, true, true, true, true, true, true, true, true, true, false] (((((((((((Array.replicate 26 false).setIfInBounds 0 true).setIfInBounds 1 true).setIfInBounds 2 true).setIfInBounds 3 true).setIfInBounds 4 true).setIfInBounds 5 true).setIfInBounds 6 true).setIfInBounds 7 true).setIfInBounds 8 true).setIfInBounds 9 true) 10 = true := by kernel_rfl
theorem sb_69_12_11 : softB op_69_12 #[true, true, true, true, true, true, true, true, true, true, true, true, true, true, true, true, true, true, true, true, true, true, true, true, true, false] ((((((((((((Array.replicate 26 false).setIfInBounds 0 true).setIfInBounds 1 true).setIfInBounds 2 true).setIfInBounds 3 true).setIfInBounds 4 true).setIfInBounds 5 true).setIfInBounds 6 true).setIfInBounds 7 true).setIfInBounds 8 true).setIfInBounds 9 true).setIfInBounds 10 true) 11 = true := by kernel_rfl
theorem sb_69_12_12 : softB op_69_12 #[true, true, true, true, true, true, true, true, true, true, true, true, true, true, true, true, true, true, true, true, true, true, true, true, true, false] (((((((((((((Array.replicate 26 false).setIfInBounds 0 true).setIfInBounds 1 true).setIfInBounds 2 true).setIfInBounds 3 true).setIfInBounds 4 true).setIfInBounds 5 true).setIfInBounds 6 true).setIfInBounds 7 true).setIfInBounds 8 true).setIfInBounds 9 true).setIfInBounds 10 true).setIfInBounds 11 true) 12 = true := by kernel_rfl
theorem sb_69_12_13 : softB op_69_12 #[true, true, true, true, true, true, true, true, true, true, true, true, true, true, true, true, true, true, true, true, true, true, true, true, true, false] ((((((((((((((Array.replicate 26 false).setIfInBounds 0 true).setIfInBounds 1 true).setIfInBounds 2 true).setIfInBounds 3 true).setIfInBounds 4 true).setIfInBounds 5 true).setIfInBounds 6 true).setIfInBounds 7 true).setIfInBounds 8 true).setIfInBounds 9 true).setIfInBounds 10 true).setIfInBounds 11 true).setIfInBounds 12 true) 13 = true := by kernel_rfl
theorem sb_69_12_14 : softB op_69_12 #[true, true, true, true, true, true, true, true, true, true, true, true, true, true, true, true, true, true, true, true, true, true, true, true, true, false] (((((((((((((((Array.replicate 26 false).setIfInBounds 0 true).setIfInBounds 1 true).setIfInBounds 2 true).setIfInBounds 3 true).setIfInBounds 4 true).setIfInBounds 5 true).setIfInBounds 6 true).setIfInBounds 7 true).setIfInBounds 8 true).setIfInBounds 9 true).setIfInBounds 10 true).setIfInBounds 11 true).setIfInBounds 12 true).setIfInBounds 13 true) 14 = true := by kernel_rfl
theorem sb_69_12_15 : softB op_69_12 #[true, true, true, true, true, true, true, true, true, true, true, true, true, true, true, true, true, true, true, true, true, true, true, true, true, false] ((((((((((((((((Array.replicate 26 false).setIfInBounds 0 true).setIfInBounds 1 true).setIfInBounds 2 true).setIfInBounds 3 true).setIfInBounds 4 true).setIfInBounds 5 true).setIfInBounds 6 true).setIfInBounds 7 true).setIfInBounds 8 true).setIfInBounds 9 true).setIfInBounds 10 true).setIfInBounds 11 true).setIfInBounds 12 true).setIfInBounds 13 true).setIfInBounds 14 true) 15 = true := by kernel_rfl
theorem sb_69_12_16 : softB op_69_12 #[true, true, true, true, true, true, true, true, true, true, true, true, true, true, true, true, true, true, true, true, true, true, true, true, true, false] (((((((((((((((((Array.replicate 26 false).setIfInBounds 0 true).setIfInBounds 1 true).setIfInBounds 2 true).setIfInBounds 3 true).setIfInBounds 4 true).setIfInBounds 5 true).setIfInBounds 6 true).setIfInBounds 7 true).setIfInBounds 8 true).setIfInBounds 9 true).setIfInBounds 10 true).setIfInBounds 11 true).setIfInBounds 12 true).setIfInBounds 13 true).setIfInBounds 14 true).setIfInBounds 15 true) 16 = true := by kernel_rfl
theorem sb_69_12_17 : softB op_69_12 #[true, true, true, true, true, true, true, true, true, true, true, true, true, true, true, true, true, true, true, true, true, true, true, true, true, false] ((((((((((((((((((Array.replicate 26 false).setIfInBounds 0 true).setIfInBounds 1 true).setIfInBounds 2 true).setIfInBounds 3 true).setIfInBounds 4 true).setIfInBounds 5 true).setIfInBounds 6 true).setIfInBounds 7 true).setIfInBounds 8 true).setIfInBounds 9 true).setIfInBounds 10 true).setIfInBounds 11 true).setIfInBounds 12 true).setIfInBounds 13 true).setIfInBounds 14 true).setIfInBounds 15 true).setIfInBounds 16 true) 17 = true := by kernel_rfl
theorem sb_69_12_18 : softB op_69_12 #[true, true, true, true, true, true, true, true, true, true, true, true, true, true, true, true, true, true, true, true, true, true, true, true, true, false] (((((((((((((((((((Array.replicate 26 false).setIfInBounds 0 true).setIfInBounds 1 true).setIfInBounds 2 true).setIfInBounds 3 true).setIfInBounds 4 true).setIfInBounds 5 true).setIfInBounds 6 true).setIfInBounds 7 true).setIfInBounds 8 true).setIfInBounds 9 true).setIfInBounds 10 true).setIfInBounds 11 true).setIfInBounds 12 true).setIfInBounds 13 true).setIfInBounds 14 true).setIfInBounds 15 true).setIfInBounds 16 true).setIfInBounds 17 true) 18 = true := by kernel_rfl
theorem sb_69_12_19 : softB op_69_12 #[true, true, true, true, true, true, true, true, true, true, true, true, true, true, true, true, true, true, true, true, true, true, true, true, true, false] ((((((((((((((((((((Array.replicate 26 false).setIfInBounds 0 true).setIfInBounds 1 true).setIfInBounds 2 true).setIfInBounds 3 true).setIfInBounds 4 true).setIfInBounds 5 true).setIfInBounds 6 true).setIfInBounds 7 true).setIfInBounds 8 true).setIfInBounds 9 true).setIfInBounds 10 true).setIfInBounds 11 true).setIfInBounds 12 true).setIfInBounds 13 true).setIfInBounds 14 true).setIfInBounds 15 true).setIfInBounds 16 true).setIfInBounds 17 true).setIfInBounds 18 true) 19 = true := by kernel_rfl
theorem sb_69_12_20 : softB op_69_12 #[true, true, true, true, true, true, true, true, true, true, true, true, true, true, true, true, true, true, true, true, true, true, true, true, true, false] (((((((((((((((((((((Array.replicate 26 false).setIfInBounds 0 true).setIfInBounds 1 true).setIfInBounds 2 true).setIfInBounds 3 true).setIfInBounds 4 true).setIfInBounds 5 true).setIfInBounds 6 true).setIfInBounds 7 true).setIfInBounds 8 true).setIfInBounds 9 true).setIfInBounds 10 true).setIfInBounds 11 true).setIfInBounds 12 true).setIfInBounds 13 true).setIfInBounds 14 true).setIfInBounds 15 true).setIfInBounds 16 true).setIfInBounds 17 true).setIfInBounds 18 true).setIfInBounds 19 true) 20 = true := by kernel_rfl
theorem sb_69_12_21 : softB op_69_12 #[true, true, true, true, true, true, true, true, true, true, true, true, true, true, true, true, true, true, true, true, true, true, true, true, true, false] ((((((((((((((((((((((Array.replicate 26 false).setIfInBounds 0 true).setIfInBounds 1 true).setIfInBounds 2 true).setIfInBounds 3 true).setIfInBounds 4 true).setIfInBounds 5 true).setIfInBounds 6 true).setIfInBounds 7 true).setIfInBounds 8 true).setIfInBounds 9 true).setIfInBounds 10 true).setIfInBounds 11 true).setIfInBounds 12 true).setIfInBounds 13 true).setIfInBounds 14 true).setIfInBounds 15 true).setIfInBounds 16 true).setIfInBounds 17 true).setIfInBounds 18 true).setIfInBounds 19 true).setIfInBounds 20 true) 21 = true := by kernel_rfl
theorem sb_69_12_22 : softB op_69_12 #[true, true, true, true, true, true, true, true, true, true, true, true, true, true, true, true, true, true, true, true, true, true, true, true, true, false] (((((((((((((((((((((((Array.replicate 26 false).setIfInBounds 0 true).setIfInBounds 1 true).setIfInBounds 2 true).setIfInBounds 3 true).setIfInBounds 4 true).setIfInBounds 5 true).setIfInBounds 6 true).setIfInBounds 7 true).setIfInBounds 8 true).setIfInBounds 9 true).setIfInBounds 10 true).setIfInBounds 11 true).setIfInBounds 12 true).setIfInBounds 13 true).setIfInBounds 14 true).setIfInBounds 15 true).setIfInBounds 16 true).setIfInBounds 17 true).setIfInBounds 18 true).setIfInBounds 19 true).setIfInBounds 20 true).setIfInBounds 21 true) 22 = true := by kernel_rfl
theorem sb_69_12_23 : softB op_69_12 #[true, true, true, true, true, true, true, true, true, true, true, true, true, true, true, true, true, true, true, true, true, true, true, true, true, false] ((((((((((((((((((((((((Array.replicate 26 false).setIfInBounds 0 true).setIfInBounds 1 true).setIfInBounds 2 true).setIfInBounds 3 true).setIfInBounds 4 true).setIfInBounds 5 true).setIfInBounds 6 true).setIfInBounds 7 true).setIfInBounds 8 true).setIfInBounds 9 true).setIfInBounds 10 true).setIfInBounds 11 true).setIfInBounds 12 true).setIfInBounds 13 true).setIfInBounds 14 true).setIfInBounds 15 true).setIfInBounds 16 true).setIfInBounds 17 true).setIfInBounds 18 true).setIfInBounds 19 true).setIfInBounds 20 true).setIfInBounds 21 true).setIfInBounds 22 true) 23 = true := by kernel_rfl
theorem sb_69_12_24 : softB op_69_12 #[true, true, true, true, true, true, true, true, true, true, true, true, true, true, true, true, true, true, true, true, true, true, true, true, true, false] (((((((((((((((((((((((((Array.replicate 26 false).setIfInBounds 0 true).setIfInBounds 1 true).setIfInBounds 2 true).setIfInBounds 3 true).setIfInBounds 4 true).setIfInBounds 5 true).setIfInBounds 6 true).setIfInBounds 7 true).setIfInBounds 8 true).setIfInBounds 9 true).setIfInBounds 10 true).setIfInBounds 11 true).setIfInBounds 12 true).setIfInBounds 13 true).setIfInBounds 14 true).setIfInBounds 15 true).setIfInBounds 16 true).setIfInBounds 17 true).setIfInBounds 18 true).setIfInBounds 19 true).setIfInBounds 20 true).setIfInBounds 21 true).setIfInBounds 22 true).setIfInBounds 23 true) 24 = true := by kernel_rfl
theorem sb_69_12_25 : hardB op_69_12 ((((((((((((((((((((((((((Array.replicate 26 false).setIfInBounds 0 true).setIfInBounds 1 true).setIfInBounds 2 true).setIfInBounds 3 true).setIfInBounds 4 true).setIfInBounds 5 true).setIfInBounds 6 true).setIfInBounds 7 true).setIfInBounds 8 true).setIfInBounds 9 true).setIfInBounds 10 true).setIfInBounds 11 true).setIfInBounds 12 true).setIfInBounds 13 true).setIfInBounds 14 true).setIfInBounds 15 true).setIfInBounds 16 true).setIfInBounds 17 true).setIfInBounds 18 true).setIfInBounds 19 true).setIfInBounds 20 true).setIfInBounds 21 true).setIfInBounds 22 true).setIfInBounds 23 true).setIfInBounds 24 true) [25] = true := by kernel_rfl
theorem sb_69_12_26 : hardB op_69_12 (((((((((((((((((((((((((((Array.replicate 26 false).setIfInBounds 0 true).setIfInBounds 1 true).setIfInBounds 2 true).setIfInBounds 3 true).setIfInBounds 4 true).setIfInBounds 5 true).setIfInBounds 6 true).setIfInBounds 7 true).setIfInBounds 8 true).setIfInBounds 9 true).setIfInBounds 10 true).setIfInBounds 11 true).setIfInBounds 12 true).setIfInBounds 13 true).setIfInBounds 14 true).setIfInBounds 15 true).setIfInBounds 16 true).setIfInBounds 17 true).setIfInBounds 18 true).setIfInBounds 19 true).setIfInBounds 20 true).setIfInBounds 21 true).setIfInBounds 22 true).setIfInBounds 23 true).setIfInBounds 24 true).setIfInBounds 25 true) [] = true := by kernel_rfl
theorem sb_69_16_0 : softB op_69_16 #[true, true, true, true, true, true, true, true, true, true, true, true, true, false] (Array.replicate 14 false) 0 = true := by kernel_rfl
theorem sb_69_16_1 : softB op_69_16 #[true, true, true, true, true, true, true, true, true, true, true, true, true, false] ((Array.replicate 14 false).setIfInBounds 0 true) 1 = true := by kernel_rfl
theorem sb_69_16_2 : softB op_69_16 #[true, true, true, true, true, true, true, true, true, true, true, true, true, false] (((Array.replicate 14 false).setIfInBounds 0 true).setIfInBounds 1 true) 2 = true := by kernel_rfl
theorem sb_69_16_3 : softB op_69_16 #[true, true, true, true, true, true, true, true, true, true, true, true, true, false] ((((Array.replicate 14 false).setIfInBounds 0 true).setIfInBounds 1 true).setIfInBounds 2 true) 3 = true := by kernel_rfl
theorem sb_69_16_4 : softB op_69_16 #[true, true, true, true, true, true, true, true, true, true, true, true, true, false] (((((Array.replicate 14 false).setIfInBounds 0 true).setIfInBounds 1 true).setIfInBounds 2 true).setIfInBounds 3 true) 4 = true := by kernel_rfl
theorem sb_69_16_5 : softB op_69_16 #[true, true, true, true, true, true, true, true, true, true, true, true, true, false] ((((((Array.replicate 14 false).setIfInBounds 0 true).setIfInBounds 1 true).setIfInBounds 2 true).setIfInBounds 3 true).setIfInBounds 4 true) 5 = true := by kernel_rfl
theorem sb_69_16_6 : softB op_69_16 #[true, true, true, true, true, true, true, true, true, true, true, true, true, false] (((((((Array.replicate 14 false).setIfInBounds 0 true).setIfInBounds 1 true).setIfInBounds 2 true).setIfInBounds 3 true).setIfInBounds 4 true).setIfInBounds 5 true) 6 = true := by kernel_rfl
theorem sb_69_16_7 : softB op_69_16 #[true, true, true, true, true, true, true, true, true, true, true, true, true, false] ((((((((Array.replicate 14 false).setIfInBounds 0 true).setIfInBounds 1 true).setIfInBounds 2 true).setIfInBounds 3 true).setIfInBounds 4 true).setIfInBounds 5 true).setIfInBounds 6 true) 7 = true := by kernel_rfl
theorem sb_69_16_8 : softB op_69_16 #[true, true, true, true, true, true, true, true, true, true, true, true, true, false] (((((((((Array.replicate 14 false).setIfInBounds 0 true).setIfInBounds 1 true).setIfInBounds 2 true).setIfInBounds 3 true).setIfInBounds 4 true).setIfInBounds 5 true).setIfInBounds 6 true).setIfInBounds 7 true) 8 = true := by kernel_rfl
theorem sb_69_16_9 : softB op_69_16 #[true, true, true, true, true, true, true, true, true, true, true, true, true, false] ((((((((((Array.replicate 14 false).setIfInBounds 0 true).setIfInBounds 1 true).setIfInBounds 2 true).setIfInBounds 3 true).setIfInBounds 4 true).setIfInBounds 5 true).setIfInBounds 6 true).setIfInBounds 7 true).setIfInBounds 8 true) 9 = true := by kernel_rfl
theorem sb_69_16_10 : softB op_69_16 #[true, true, true, true, true, true, true, true, true, true, true, true, true, false] (((((((((((Array.replicate 14 false).setIfInBounds 0 true).setIfInBounds 1 true).setIfInBounds 2 true).setIfInBounds 3 true).setIfInBounds 4 true).setIfInBounds 5 true).setIfInBounds 6 true).setIfInBounds 7 true).setIfInBounds 8 true).setIfInBounds 9 true) 10 = true := by kernel_rfl
theorem sb_69_16_11 : softB op_69_16 #[true, true, true, true, true, true, true, true, true, true, true, true, true, false] ((((((((((((Array.replicate 14 false).setIfInBounds 0 true).setIfInBounds 1 true).setIfInBounds 2 true).setIfInBounds 3 true).setIfInBounds 4 true).setIfInBounds 5 true).setIfInBounds 6 true).setIfInBounds 7 true).setIfInBounds 8 true).setIfInBounds 9 true).setIfInBounds 10 true) 11 = true := by kernel_rfl
theorem sb_69_16_12 : softB op_69_16 #[true, true, true, true, true, true, true, true, true, true, true, true, true, false] (((((((((((((Array.replicate 14 false).setIfInBounds 0 true).setIfInBounds 1 true).setIfInBounds 2 true).setIfInBounds 3 true).setIfInBounds 4 true).setIfInBounds 5 true).setIfInBounds 6 true).setIfInBounds 7 true).setIfInBounds 8 true).setIfInBounds 9 true).setIfInBounds 10 true).setIfInBounds 11 true) 12 = true := by kernel_rfl
theorem sb_69_16_13 : hardB op_69_16 ((((((((((((((Array.replicate 14 false).setIfInBounds 0 true).setIfInBounds 1 true).setIfInBounds 2 true).setIfInBounds 3 true).setIfInBounds 4 true).setIfInBounds 5 true).setIfInBounds 6 true).setIfInBounds 7 true).setIfInBounds 8 true).setIfInBounds 9 true).setIfInBounds 10 true).setIfInBounds 11 true).setIfInBounds 12 true) [13] = true := by kernel_rfl
theorem sb_69_16_14 : hardB op_69_16 (((((((((((((((Array.replicate 14 false).setIfInBounds 0 true).setIfInBounds 1 true).setIfInBounds 2 true).setIfInBounds 3 true).setIfInBounds 4 true).setIfInBounds 5 true).setIfInBounds 6 true).setIfInBounds 7 true).setIfInBounds 8 true).setIfInBounds 9 true).setIfInBounds 10 true).setIfInBounds 11 true).setIfInBounds 12 true).setIfInBounds 13 true) [] = true := by kernel_rfl
/- (*devm.Dev).After -/
def m69_w1 (n : Nat) (d : Dev) (mm : Nat) : Int → Dev → Option (Int × Dev) := it2 (fun lp1 c1 z2 =>
cond (decide (c1 < (d.base.length : Int))) (
Option.bind (ixL d.base c1) fun x1 =>
Option.bind (ckA c1 (z2.blk.length : Int)) fun _ =>
Option.bind (stL z2.blk c1 x1) fun l1 =>
nm ({ z2 with blk := l1 } : Dev) fun z5 =>
lp1 (wi (c1 + 1)) z5) (
some (c1, z2))) mm
def m69_w3 (n : Nat) (d : Dev) (c3 : Int) (mm : Nat) : Int → Dev → Option (Int × Dev) := it2 (fun lp3 c5 z8 =>
cond (decide (c5 < 64)) (
Option.bind (ixL d.at_ c3) fun x3 =>
Option.bind (ixL d.data (wi ((wi (c3 * 64)) + c5))) fun x4 =>
Option.bind (ckA (wi ((wi (x3 * 64)) + c5)) (z8.blk.length : Int)) fun _ =>
Option.bind (stL z8.blk (wi ((wi (x3 * 64)) + c5)) x4) fun l2 =>
nm ({ z8 with blk := l2 } : Dev) fun z12 =>
lp3 (wi (c5 + 1)) z12) (
some (c5, z8))) mm
def m69_w2 (n : Nat) (d : Dev) (k : Int) (mm : Nat) : Int → Dev → Option (Int × Dev) := it2 (fun lp2 c3 z6 =>
cond ((decide (c3 < (d.at_.length : Int))) && (decide (c3 < k))) (
ob2 (m69_w3 n d c3 n 0 z6) fun c6 z9 =>
lp2 (wi (c3 + 1)) z9) (
some (c3, z6))) mm
def m69_w4 (n : Nat) (mm : Nat) : Int → Dev → Option (Int × Dev) := it2 (fun lp4 c7 z13 =>
cond (decide (c7 < (z13.blk.length : Int))) (
Option.bind (ixL z13.blk c7) fun x6 =>
Option.bind (ckA c7 (z13.base.length : Int)) fun _ =>
Option.bind (stL z13.base c7 x6) fun l3 =>
nm ({ z13 with base := l3 } : Dev) fun z16 =>
lp4 (wi (c7 + 1)) z16) (
some (c7, z13))) mm
def m69 (n : Nat) (d : Dev) (k : Int) : Option (Dev) :=
ob1 (m23 n ) fun z1 =>
ob2 (m69_w1 n d n 0 z1) fun c2 z3 =>
ob2 (m69_w2 n d k n 0 z3) fun c4 z7 =>
ob2 (m69_w4 n n 0 z7) fun c8 z14 =>
some z14
theorem t69 {n : Nat} {C : List Chunk} {rz1 : Dev} {b1 : Nat} {d : Dev} {v1 : Value} {g1 : List Chunk} {v2 : Value} {g2 : List Chunk} {v3 : Value} {g3 : List Chunk} {v4 : Value} {g4 : List Chunk} {k : Int} (ho1 : Own rByte v1 d.blk g1) (ho2 : Own rByte v2 d.base g2) (ho3 : Own rInt v3 d.at_ g3) (ho4 : Own rByte v4 d.data g4)  (hm : m69 n d k = some rz1) : Trip Tryz.prog 69 #[.pointer (some ⟨b1, 0, none⟩), .int .i64 k] ([[(b1, .cells (Dev.enc (v1) (v2) (v3) (v4) d).toArray 85 (0, 0))], g1, g2, g3, g4] ++ [C]) (fun u S' => ∃ (eb1 : Nat), ∃ (ev1 : Value), ∃ (eg1 : List Chunk), ∃ (ev2 : Value), ∃ (eg2 : List Chunk), ∃ (ev3 : Value), ∃ (eg3 : List Chunk), ∃ (ev4 : Value), ∃ (eg4 : List Chunk), .pointer (some ⟨eb1, 0, none⟩) = u ∧ S' = [[(b1, .cells (Dev.enc (v1) (v2) (v3) (v4) d).toArray 85 (0, 0))], g1, g2, g3, g4, [(eb1, .cells (Dev.enc (ev1) (ev2) (ev3) (ev4) rz1).toArray 85 (0, 0))], eg1, eg2, eg3, eg4] ++ [C] ∧ Own rByte ev1 rz1.blk eg1 ∧ Own rByte ev2 rz1.base eg2 ∧ Own rInt ev3 rz1.at_ eg3 ∧ Own rByte ev4 rz1.data eg4) := by
  refine fn_entry (args := [.pointer (some ⟨b1, 0, none⟩), .int .i64 k]) Tryz.func69 rfl Tryz.ntmps69 rfl (fun w0 => ?_)
  refine c_seq ?_
  refine c_region ?_
  refine o_L (y_assign rfl) rfl rfl ?_
  refine o_nil0 rfl ?_
  refine c_seq ?_
  refine c_region ?_
  obtain ⟨z1, hx1, hm⟩ := bd1 hm
  refine o_callC en_23 rfl s_nil (t23 hx1) rfl (fun u1 S1 hR1 => ?_)
  obtain ⟨b2, v5, g5, v6, g6, v7, g7, v8, g8, rfl, rfl, ho5, ho6, ho7, ho8⟩ := hR1
  refine o_rest ?_
  refine o_L (y_assign rfl) rfl rfl ?_
  refine o_nil0 rfl ?_
  refine c_seq ?_
  refine c_seq ?_
  refine c_region ?_
  refine o_L (y_assign rfl) rfl rfl ?_
  refine o_nil0 rfl ?_
  obtain ⟨c2, z3, hj1, hm⟩ := bd2 hm
  refine c_joinP (n := 5) (fun sh G => ∃ (v13 : Value), ∃ (g13 : List Chunk), ∃ (v14 : Value), ∃ (g14 : List Chunk), ∃ (v15 : Value), ∃ (g15 : List Chunk), ∃ (v16 : Value), ∃ (g16 : List Chunk), sh = [(6, .int .i64 c2)] ∧ G = [[(b2, .cells (Dev.enc (v13) (v14) (v15) (v16) z3).toArray 85 (0, 0))], g13, g14, g15, g16] ∧ Own rByte v13 z3.blk g13 ∧ Own rByte v14 z3.base g14 ∧ Own rInt v15 z3.at_ g15 ∧ Own rByte v16 z3.data g16) (s_take (s_take (s_take (s_take (s_take (s_take (s_take (s_take (s_take (s_take (s_take s_nil))))))))))) (.s (.s (.s (.s (.s .z))))) (fun _ _ h => h) ?_ ?_
  · skip
    refine c_block ?_
    refine c_loopP (n := 5) (fun mm sh G => ∃ (c1 : Int), ∃ (z2 : Dev), ∃ (v9 : Value), ∃ (g9 : List Chunk), ∃ (v10 : Value), ∃ (g10 : List Chunk), ∃ (v11 : Value), ∃ (g11 : List Chunk), ∃ (v12 : Value), ∃ (g12 : List Chunk), sh = [(6, .int .i64 c1)] ∧ G = [[(b2, .cells (Dev.enc (v9) (v10) (v11) (v12) z2).toArray 85 (0, 0))], g9, g10, g11, g12] ∧ m69_w1 n d mm c1 z2 = some (c2, z3) ∧ Own rByte v9 z2.blk g9 ∧ Own rByte v10 z2.base g10 ∧ Own rInt v11 z2.at_ g11 ∧ Own rByte v12 z2.data g12) n (s_take (s_take (s_take (s_take (s_take (s_take (s_take (s_take (s_take (s_take (s_take s_nil))))))))))) (.s (.s (.s (.s (.s .z))))) ⟨_, _, ⟨_, _, v5, _, v6, _, v7, _, v8, _, rfl, rfl, hj1, ho5, ho6, ho7, ho8⟩, ⟨rfl, trivial⟩, _, (s_take (s_take (s_take (s_take (s_take (s_take (s_take (s_take (s_take (s_take (s_take s_nil)))))))))))⟩ ?_
    rintro mm sh G ⟨c1, z2, v9, g9, v10, g10, v11, g11, v12, g12, rfl, rfl, hm, ho9, ho10, ho11, ho12⟩
    obtain ⟨mm1, rfl, hm⟩ := it2_s hm
    refine c_seq ?_
    refine c_seq ?_
    refine c_region ?_
    refine o_T (y_move rfl) rfl ?_
    refine o_T (y_move rfl) rfl ?_
    refine o_T (y_nilck rfl) rfl ?_
    refine o_T (y_fa fl_85_1 rfl) rfl ?_
    refine o_ld one_81 rfl (ms (ms (ms (ms (ms m0))))) (At.got (At.refl.comp Dev.a_base)) rfl ?_
    refine o_T (y_lenR ho2.rd Tryz.underlying81 rfl) rfl ?_
    refine o_T (y_lss rfl rfl) rfl ?_
    refine o_nil1 17 rfl rfl ?_
    refine c_cond rfl (fun h1 => ?_) (fun h1 => ?_)
    · have hm := cd_t h1 hm
      refine c_skip ?_
      refine c_seq ?_
      refine c_block ?_
      refine c_draw #[true, true, true, true, true, true, true, true, true, true, true, true, true, false] rfl (n := 14) rfl ?_
      refine d_T 0 rfl sb_69_5_0 rfl (y_move rfl) rfl ?_
      refine d_T 1 rfl sb_69_5_1 rfl (y_nilck rfl) rfl ?_
      refine d_T 2 rfl sb_69_5_2 rfl (y_fa fl_85_0 rfl) rfl ?_
      refine d_ld 3 rfl sb_69_5_3 one_81 rfl (fun x hx => hx) m0 (At.got (At.refl.comp Dev.a_blk)) rfl ?_
      refine d_T 4 rfl sb_69_5_4 rfl (y_move rfl) rfl ?_
      refine d_T 5 rfl sb_69_5_5 rfl (y_move rfl) rfl ?_
      refine d_T 6 rfl sb_69_5_6 rfl (y_nilck rfl) rfl ?_
      refine d_T 7 rfl sb_69_5_7 rfl (y_fa fl_85_1 rfl) rfl ?_
      refine d_ld 8 rfl sb_69_5_8 one_81 rfl (fun x hx => hx) (ms (ms (ms (ms (ms m0))))) (At.got (At.refl.comp Dev.a_base)) rfl ?_
      refine d_T 9 rfl sb_69_5_9 rfl (y_move rfl) rfl ?_
      obtain ⟨x1, hx2, hm⟩ := bd hm
      obtain ⟨b3, w1, cs1, y1, z4, vs1, hc1, ha1, hr1, hy1⟩ := ho2.rd.ix hx2
      obtain rfl : vs1 = (enc8 x1) := hr1
      refine d_T 10 rfl sb_69_5_10 rfl (hy1 sl_81 rfl rfl rfl) rfl ?_
      refine d_ld 11 rfl sb_69_5_11 one_5 rfl (fun x hx => hx) (ms (ms (ms (ms (ms (ms (ms (mg hc1)))))))) (At.getA (ha1)) rfl ?_
      obtain ⟨_, hi1, hm⟩ := bd hm
      have hi1 := ckA_some hi1
      obtain ⟨b4, cp1, hv1, hy2⟩ := ho9.ix hi1
      refine d_T 12 rfl sb_69_5_12 rfl (hy2 sl_81 rfl rfl rfl) rfl ?_
      refine d_hard 13 rfl sb_69_5_13 ?_
      obtain ⟨l1, hx4, hm⟩ := bd hm
      refine o_stO1 one_5 rfl rfl rfl rfl ho9 hv1 hx4 (fun _ => (qs q0)) (fun g17 ho17 => ?_)
      obtain ⟨z5, hn1, hm⟩ := nm_s hm
      have ho18 := ho17.to (l' := z5.blk) (by subst hn1; rfl)
      have ho19 := ho10.to (l' := z5.base) (by subst hn1; rfl)
      have ho20 := ho11.to (l' := z5.at_) (by subst hn1; rfl)
      have ho21 := ho12.to (l' := z5.data) (by subst hn1; rfl)
      refine o_row' (g' := [(b2, Obj.cells (Dev.enc (v9) (v10) (v11) (v12) z5).toArray 85 (0, 0))]) q0 (by subst hn1; rfl) ?_
      refine o_stop (fun h => nomatch h) ?_
      refine d_nil0 sb_69_5_14 rfl ?_
      refine c_region ?_
      refine o_T (y_move rfl) rfl ?_
      refine o_T (y_add rfl rfl rfl) rfl ?_
      refine o_L (y_assign rfl) rfl rfl ?_
      refine o_nil0 rfl ?_
      exact ⟨mm1, Nat.lt_succ_self _, _, _, ⟨_, _, v9, _, v10, _, v11, _, v12, _, rfl, rfl, hm, ho18, ho19, ho20, ho21⟩, ⟨rfl, trivial⟩, ⟨rfl, rfl⟩, _, (s_take (s_take (s_take (s_take (s_take (s_take (s_take (s_take (s_take (s_take (s_take s_nil)))))))))))⟩
    · have hm := cd_f h1 hm
      refine c_exit ?_
      obtain ⟨rfl, rfl⟩ := pr2 hm
      exact ⟨_, _, ⟨v9, _, v10, _, v11, _, v12, _, rfl, rfl, ho9, ho10, ho11, ho12⟩, ⟨rfl, trivial⟩, ⟨rfl, rfl⟩, _, (s_take (s_take (s_take (s_take (s_take (s_take (s_take (s_take (s_take (s_take (s_take s_nil)))))))))))⟩
  · rintro sh G ⟨v13, g13, v14, g14, v15, g15, v16, g16, rfl, rfl, ho13, ho14, ho15, ho16⟩
    refine c_seq ?_
    refine c_seq ?_
    refine c_region ?_
    refine o_L (y_assign rfl) rfl rfl ?_
    refine o_nil0 rfl ?_
    obtain ⟨c4, z7, hj2, hm⟩ := bd2 hm
    refine c_joinP (n := 5) (fun sh G => ∃ (v21 : Value), ∃ (g22 : List Chunk), ∃ (v22 : Value), ∃ (g23 : List Chunk), ∃ (v23 : Value), ∃ (g24 : List Chunk), ∃ (v24 : Value), ∃ (g25 : List Chunk), sh = [(7, .int .i64 c4)] ∧ G = [[(b2, .cells (Dev.enc (v21) (v22) (v23) (v24) z7).toArray 85 (0, 0))], g22, g23, g24, g25] ∧ Own rByte v21 z7.blk g22 ∧ Own rByte v22 z7.base g23 ∧ Own rInt v23 z7.at_ g24 ∧ Own rByte v24 z7.data g25) (s_take (s_take (s_take (s_take (s_take (s_take (s_take (s_take (s_take (s_take (s_take s_nil))))))))))) (.s (.s (.s (.s (.s .z))))) (fun _ _ h => h) ?_ ?_
    · skip
      refine c_block ?_
      refine c_loopP (n := 5) (fun mm sh G => ∃ (c3 : Int), ∃ (z6 : Dev), ∃ (v17 : Value), ∃ (g18 : List Chunk), ∃ (v18 : Value), ∃ (g19 : List Chunk), ∃ (v19 : Value), ∃ (g20 : List Chunk), ∃ (v20 : Value), ∃ (g21 : List Chunk), sh = [(7, .int .i64 c3)] ∧ G = [[(b2, .cells (Dev.enc (v17) (v18) (v19) (v20) z6).toArray 85 (0, 0))], g18, g19, g20, g21] ∧ m69_w2 n d k mm c3 z6 = some (c4, z7) ∧ Own rByte v17 z6.blk g18 ∧ Own rByte v18 z6.base g19 ∧ Own rInt v19 z6.at_ g20 ∧ Own rByte v20 z6.data g21) n (s_take (s_take (s_take (s_take (s_take (s_take (s_take (s_take (s_take (s_take (s_take s_nil))))))))))) (.s (.s (.s (.s (.s .z))))) ⟨_, _, ⟨_, _, v13, _, v14, _, v15, _, v16, _, rfl, rfl, hj2, ho13, ho14, ho15, ho16⟩, ⟨rfl, trivial⟩, _, (s_take (s_take (s_take (s_take (s_take (s_take (s_take (s_take (s_take (s_take (s_take s_nil)))))))))))⟩ ?_
      rintro mm sh G ⟨c3, z6, v17, g18, v18, g19, v19, g20, v20, g21, rfl, rfl, hm, ho22, ho23, ho24, ho25⟩
      obtain ⟨mm2, rfl, hm⟩ := it2_s hm
      refine c_seq ?_
      refine c_seq ?_
      refine c_joinP (n := 0) (fun sh G => sh = [(44, .bool ((decide (c3 < (d.at_.length : Int))) && (decide (c3 < k))))] ∧ G = []) Sel.all' .z (fun _ _ h => h) ?_ ?_
      · skip
        refine c_region ?_
        refine o_T (y_move rfl) rfl ?_
        refine o_T (y_move rfl) rfl ?_
        refine o_T (y_nilck rfl) rfl ?_
        refine o_T (y_fa fl_85_2 rfl) rfl ?_
        refine o_ld one_65 rfl (ms (ms (ms (ms (ms m0))))) (At.got (At.refl.comp Dev.a_at_)) rfl ?_
        refine o_T (y_lenR ho3.rd Tryz.underlying65 rfl) rfl ?_
        refine o_T (y_lss rfl rfl) rfl ?_
        refine o_T (y_move rfl) rfl ?_
        refine o_split 40 rfl (fun h2 => ?_) (fun h2 => ?_)
        · skip
          refine o_take rfl rfl rfl ?_
          refine o_T (y_move rfl) rfl ?_
          refine o_take rfl rfl rfl ?_
          refine o_T (y_move rfl) rfl ?_
          refine o_take rfl rfl rfl ?_
          refine o_T (y_lss rfl rfl) rfl ?_
          refine o_T (y_pickT rfl rfl) rfl ?_
          refine o_nil1 44 rfl rfl ?_
          refine ⟨_, _, ⟨rfl, rfl⟩, ⟨by first | rfl | exact gtb rfl (by simp only [h2, Bool.true_and, Bool.false_and, Bool.true_or, Bool.false_or, Bool.and_true, Bool.and_false, Bool.or_true, Bool.or_false, Bool.not_true, Bool.not_false]), trivial⟩, ⟨rfl, rfl⟩, _, (s_take (s_take (s_take (s_take (s_take (s_take (s_take (s_take (s_take (s_take (s_take s_nil)))))))))))⟩
        · skip
          refine o_pass rfl rfl rfl rfl rfl ?_
          refine o_pass rfl rfl rfl rfl rfl ?_
          refine o_pass rfl rfl rfl rfl rfl ?_
          refine o_T (y_pickF rfl rfl) rfl ?_
          refine o_nil1 44 rfl rfl ?_
          refine ⟨_, _, ⟨rfl, rfl⟩, ⟨by first | rfl | exact gtb rfl (by simp only [h2, Bool.true_and, Bool.false_and, Bool.true_or, Bool.false_or, Bool.and_true, Bool.and_false, Bool.or_true, Bool.or_false, Bool.not_true, Bool.not_false]), trivial⟩, ⟨rfl, rfl⟩, _, (s_take (s_take (s_take (s_take (s_take (s_take (s_take (s_take (s_take (s_take (s_take s_nil)))))))))))⟩
      · rintro sh G ⟨rfl, rfl⟩
        refine c_cond rfl (fun h3 => ?_) (fun h3 => ?_)
        · have hm := cd_t h3 hm
          refine c_skip ?_
          refine c_seq ?_
          refine c_block ?_
          refine c_seq ?_
          refine c_region ?_
          refine o_L (y_assign rfl) rfl rfl ?_
          refine o_nil0 rfl ?_
          obtain ⟨c6, z9, hj3, hm⟩ := bd2 hm
          refine c_joinP (n := 5) (fun sh G => ∃ (v29 : Value), ∃ (g30 : List Chunk), ∃ (v30 : Value), ∃ (g31 : List Chunk), ∃ (v31 : Value), ∃ (g32 : List Chunk), ∃ (v32 : Value), ∃ (g33 : List Chunk), sh = [(8, .int .i64 c6)] ∧ G = [[(b2, .cells (Dev.enc (v29) (v30) (v31) (v32) z9).toArray 85 (0, 0))], g30, g31, g32, g33] ∧ Own rByte v29 z9.blk g30 ∧ Own rByte v30 z9.base g31 ∧ Own rInt v31 z9.at_ g32 ∧ Own rByte v32 z9.data g33) (s_take (s_take (s_take (s_take (s_take (s_take (s_take (s_take (s_take (s_take (s_take s_nil))))))))))) (.s (.s (.s (.s (.s .z))))) (fun _ _ h => h) ?_ ?_
          · skip
            refine c_block ?_
            refine c_loopP (n := 5) (fun mm sh G => ∃ (c5 : Int), ∃ (z8 : Dev), ∃ (v25 : Value), ∃ (g26 : List Chunk), ∃ (v26 : Value), ∃ (g27 : List Chunk), ∃ (v27 : Value), ∃ (g28 : List Chunk), ∃ (v28 : Value), ∃ (g29 : List Chunk), sh = [(8, .int .i64 c5)] ∧ G = [[(b2, .cells (Dev.enc (v25) (v26) (v27) (v28) z8).toArray 85 (0, 0))], g26, g27, g28, g29] ∧ m69_w3 n d c3 mm c5 z8 = some (c6, z9) ∧ Own rByte v25 z8.blk g26 ∧ Own rByte v26 z8.base g27 ∧ Own rInt v27 z8.at_ g28 ∧ Own rByte v28 z8.data g29) n (s_take (s_take (s_take (s_take (s_take (s_take (s_take (s_take (s_take (s_take (s_take s_nil))))))))))) (.s (.s (.s (.s (.s .z))))) ⟨_, _, ⟨_, _, v17, _, v18, _, v19, _, v20, _, rfl, rfl, hj3, ho22, ho23, ho24, ho25⟩, ⟨rfl, trivial⟩, _, (s_take (s_take (s_take (s_take (s_take (s_take (s_take (s_take (s_take (s_take (s_take s_nil)))))))))))⟩ ?_
            rintro mm sh G ⟨c5, z8, v25, g26, v26, g27, v27, g28, v28, g29, rfl, rfl, hm, ho30, ho31, ho32, ho33⟩
            obtain ⟨mm3, rfl, hm⟩ := it2_s hm
            refine c_seq ?_
            refine c_seq ?_
            refine c_region ?_
            refine o_T (y_move rfl) rfl ?_
            refine o_T (y_lss rfl rfl) rfl ?_
            refine o_nil1 48 rfl rfl ?_
            refine c_cond rfl (fun h4 => ?_) (fun h4 => ?_)
            · have hm := cd_t h4 hm
              refine c_skip ?_
              refine c_seq ?_
              refine c_block ?_
              refine c_draw #[true, true, true, true, true, true, true, true, true, true, true, true, true, true, true, true, true, true, true, true, true, true, true, true, true, false] rfl (n := 26) rfl ?_
              refine d_T 0 rfl sb_69_12_0 rfl (y_move rfl) rfl ?_
              refine d_T 1 rfl sb_69_12_1 rfl (y_nilck rfl) rfl ?_
              refine d_T 2 rfl sb_69_12_2 rfl (y_fa fl_85_0 rfl) rfl ?_
              refine d_ld 3 rfl sb_69_12_3 one_81 rfl (fun x hx => hx) m0 (At.got (At.refl.comp Dev.a_blk)) rfl ?_
              refine d_T 4 rfl sb_69_12_4 rfl (y_move rfl) rfl ?_
              refine d_T 5 rfl sb_69_12_5 rfl (y_nilck rfl) rfl ?_
              refine d_T 6 rfl sb_69_12_6 rfl (y_fa fl_85_2 rfl) rfl ?_
              refine d_ld 7 rfl sb_69_12_7 one_65 rfl (fun x hx => hx) (ms (ms (ms (ms (ms m0))))) (At.got (At.refl.comp Dev.a_at_)) rfl ?_
              refine d_T 8 rfl sb_69_12_8 rfl (y_move rfl) rfl ?_
              obtain ⟨x3, hx5, hm⟩ := bd hm
              obtain ⟨b5, w2, cs2, y2, z10, vs2, hc2, ha2, hr2, hy3⟩ := ho3.rd.ix hx5
              obtain rfl : vs2 = (encI x3) := hr2
              refine d_T 9 rfl sb_69_12_9 rfl (hy3 sl_65 rfl rfl rfl) rfl ?_
              refine d_ld 10 rfl sb_69_12_10 one_3 rfl (fun x hx => hx) (ms (ms (ms (ms (ms (ms (ms (ms (mg hc2))))))))) (At.getA (ha2)) rfl ?_
              refine d_T 11 rfl sb_69_12_11 rfl (y_mul rfl rfl rfl) rfl ?_
              refine d_T 12 rfl sb_69_12_12 rfl (y_move rfl) rfl ?_
              refine d_T 13 rfl sb_69_12_13 rfl (y_add rfl rfl rfl) rfl ?_
              refine d_T 14 rfl sb_69_12_14 rfl (y_move rfl) rfl ?_
              refine d_T 15 rfl sb_69_12_15 rfl (y_nilck rfl) rfl ?_
              refine d_T 16 rfl sb_69_12_16 rfl (y_fa fl_85_3 rfl) rfl ?_
              refine d_ld 17 rfl sb_69_12_17 one_81 rfl (fun x hx => hx) (ms (ms (ms (ms (ms m0))))) (At.got (At.refl.comp Dev.a_data)) rfl ?_
              refine d_T 18 rfl sb_69_12_18 rfl (y_move rfl) rfl ?_
              refine d_T 19 rfl sb_69_12_19 rfl (y_mul rfl rfl rfl) rfl ?_
              refine d_T 20 rfl sb_69_12_20 rfl (y_move rfl) rfl ?_
              refine d_T 21 rfl sb_69_12_21 rfl (y_add rfl rfl rfl) rfl ?_
              obtain ⟨x4, hx6, hm⟩ := bd hm
              obtain ⟨b6, w3, cs3, y3, z11, vs3, hc3, ha3, hr3, hy4⟩ := ho4.rd.ix hx6
              obtain rfl : vs3 = (enc8 x4) := hr3
              refine d_T 22 rfl sb_69_12_22 rfl (hy4 sl_81 rfl rfl rfl) rfl ?_
              refine d_ld 23 rfl sb_69_12_23 one_5 rfl (fun x hx => hx) (ms (ms (ms (ms (ms (ms (ms (ms (ms (mg hc3)))))))))) (At.getA (ha3)) rfl ?_
              obtain ⟨_, hi2, hm⟩ := bd hm
              have hi2 := ckA_some hi2
              obtain ⟨b7, cp2, hv2, hy5⟩ := ho30.ix hi2
              refine d_T 24 rfl sb_69_12_24 rfl (hy5 sl_81 rfl rfl rfl) rfl ?_
              refine d_hard 25 rfl sb_69_12_25 ?_
              obtain ⟨l2, hx8, hm⟩ := bd hm
              refine o_stO1 one_5 rfl rfl rfl rfl ho30 hv2 hx8 (fun _ => (qs q0)) (fun g34 ho38 => ?_)
              obtain ⟨z12, hn2, hm⟩ := nm_s hm
              have ho39 := ho38.to (l' := z12.blk) (by subst hn2; rfl)
              have ho40 := ho31.to (l' := z12.base) (by subst hn2; rfl)
              have ho41 := ho32.to (l' := z12.at_) (by subst hn2; rfl)
              have ho42 := ho33.to (l' := z12.data) (by subst hn2; rfl)
              refine o_row' (g' := [(b2, Obj.cells (Dev.enc (v25) (v26) (v27) (v28) z12).toArray 85 (0, 0))]) q0 (by subst hn2; rfl) ?_
              refine o_stop (fun h => nomatch h) ?_
              refine d_nil0 sb_69_12_26 rfl ?_
              refine c_region ?_
              refine o_T (y_move rfl) rfl ?_
              refine o_T (y_add rfl rfl rfl) rfl ?_
              refine o_L (y_assign rfl) rfl rfl ?_
              refine o_nil0 rfl ?_
              exact ⟨mm3, Nat.lt_succ_self _, _, _, ⟨_, _, v25, _, v26, _, v27, _, v28, _, rfl, rfl, hm, ho39, ho40, ho41, ho42⟩, ⟨rfl, trivial⟩, ⟨rfl, rfl⟩, _, (s_take (s_take (s_take (s_take (s_take (s_take (s_take (s_take (s_take (s_take (s_take s_nil)))))))))))⟩
            · have hm := cd_f h4 hm
              refine c_exit ?_
              obtain ⟨rfl, rfl⟩ := pr2 hm
              exact ⟨_, _, ⟨v25, _, v26, _, v27, _, v28, _, rfl, rfl, ho30, ho31, ho32, ho33⟩, ⟨rfl, trivial⟩, ⟨rfl, rfl⟩, _, (s_take (s_take (s_take (s_take (s_take (s_take (s_take (s_take (s_take (s_take (s_take s_nil)))))))))))⟩
          · rintro sh G ⟨v29, g30, v30, g31, v31, g32, v32, g33, rfl, rfl, ho34, ho35, ho36, ho37⟩
            refine c_region ?_
            refine o_T (y_move rfl) rfl ?_
            refine o_T (y_add rfl rfl rfl) rfl ?_
            refine o_L (y_assign rfl) rfl rfl ?_
            refine o_nil0 rfl ?_
            exact ⟨mm2, Nat.lt_succ_self _, _, _, ⟨_, _, v29, _, v30, _, v31, _, v32, _, rfl, rfl, hm, ho34, ho35, ho36, ho37⟩, ⟨rfl, trivial⟩, ⟨rfl, rfl⟩, _, (s_take (s_take (s_take (s_take (s_take (s_take (s_take (s_take (s_take (s_take (s_take s_nil)))))))))))⟩
        · have hm := cd_f h3 hm
          refine c_exit ?_
          obtain ⟨rfl, rfl⟩ := pr2 hm
          exact ⟨_, _, ⟨v17, _, v18, _, v19, _, v20, _, rfl, rfl, ho22, ho23, ho24, ho25⟩, ⟨rfl, trivial⟩, ⟨rfl, rfl⟩, _, (s_take (s_take (s_take (s_take (s_take (s_take (s_take (s_take (s_take (s_take (s_take s_nil)))))))))))⟩
    · rintro sh G ⟨v21, g22, v22, g23, v23, g24, v24, g25, rfl, rfl, ho26, ho27, ho28, ho29⟩
      refine c_seq ?_
      refine c_seq ?_
      refine c_region ?_
      refine o_L (y_assign rfl) rfl rfl ?_
      refine o_nil0 rfl ?_
      obtain ⟨c8, z14, hj4, hm⟩ := bd2 hm
      refine c_joinP (n := 5) (fun sh G => ∃ (v37 : Value), ∃ (g39 : List Chunk), ∃ (v38 : Value), ∃ (g40 : List Chunk), ∃ (v39 : Value), ∃ (g41 : List Chunk), ∃ (v40 : Value), ∃ (g42 : List Chunk), sh = [(9, .int .i64 c8)] ∧ G = [[(b2, .cells (Dev.enc (v37) (v38) (v39) (v40) z14).toArray 85 (0, 0))], g39, g40, g41, g42] ∧ Own rByte v37 z14.blk g39 ∧ Own rByte v38 z14.base g40 ∧ Own rInt v39 z14.at_ g41 ∧ Own rByte v40 z14.data g42) (s_take (s_take (s_take (s_take (s_take (s_take (s_take (s_take (s_take (s_take (s_take s_nil))))))))))) (.s (.s (.s (.s (.s .z))))) (fun _ _ h => h) ?_ ?_
      · skip
        refine c_block ?_
        refine c_loopP (n := 5) (fun mm sh G => ∃ (c7 : Int), ∃ (z13 : Dev), ∃ (v33 : Value), ∃ (g35 : List Chunk), ∃ (v34 : Value), ∃ (g36 : List Chunk), ∃ (v35 : Value), ∃ (g37 : List Chunk), ∃ (v36 : Value), ∃ (g38 : List Chunk), sh = [(9, .int .i64 c7)] ∧ G = [[(b2, .cells (Dev.enc (v33) (v34) (v35) (v36) z13).toArray 85 (0, 0))], g35, g36, g37, g38] ∧ m69_w4 n mm c7 z13 = some (c8, z14) ∧ Own rByte v33 z13.blk g35 ∧ Own rByte v34 z13.base g36 ∧ Own rInt v35 z13.at_ g37 ∧ Own rByte v36 z13.data g38) n (s_take (s_take (s_take (s_take (s_take (s_take (s_take (s_take (s_take (s_take (s_take s_nil))))))))))) (.s (.s (.s (.s (.s .z))))) ⟨_, _, ⟨_, _, v21, _, v22, _, v23, _, v24, _, rfl, rfl, hj4, ho26, ho27, ho28, ho29⟩, ⟨rfl, trivial⟩, _, (s_take (s_take (s_take (s_take (s_take (s_take (s_take (s_take (s_take (s_take (s_take s_nil)))))))))))⟩ ?_
        rintro mm sh G ⟨c7, z13, v33, g35, v34, g36, v35, g37, v36, g38, rfl, rfl, hm, ho43, ho44, ho45, ho46⟩
        obtain ⟨mm4, rfl, hm⟩ := it2_s hm
        refine c_seq ?_
        refine c_seq ?_
        refine c_region ?_
        refine o_T (y_move rfl) rfl ?_
        refine o_T (y_move rfl) rfl ?_
        refine o_T (y_nilck rfl) rfl ?_
        refine o_T (y_fa fl_85_0 rfl) rfl ?_
        refine o_ld one_81 rfl m0 (At.got (At.refl.comp Dev.a_blk)) rfl ?_
        refine o_T (y_lenR ho43.rd Tryz.underlying81 rfl) rfl ?_
        refine o_T (y_lss rfl rfl) rfl ?_
        refine o_nil1 82 rfl rfl ?_
        refine c_cond rfl (fun h5 => ?_) (fun h5 => ?_)
        · have hm := cd_t h5 hm
          refine c_skip ?_
          refine c_seq ?_
          refine c_block ?_
          refine c_draw #[true, true, true, true, true, true, true, true, true, true, true, true, true, false] rfl (n := 14) rfl ?_
          refine d_T 0 rfl sb_69_16_0 rfl (y_move rfl) rfl ?_
          refine d_T 1 rfl sb_69_16_1 rfl (y_nilck rfl) rfl ?_
          refine d_T 2 rfl sb_69_16_2 rfl (y_fa fl_85_1 rfl) rfl ?_
          refine d_ld 3 rfl sb_69_16_3 one_81 rfl (fun x hx => hx) m0 (At.got (At.refl.comp Dev.a_base)) rfl ?_
          refine d_T 4 rfl sb_69_16_4 rfl (y_move rfl) rfl ?_
          refine d_T 5 rfl sb_69_16_5 rfl (y_move rfl) rfl ?_
          refine d_T 6 rfl sb_69_16_6 rfl (y_nilck rfl) rfl ?_
          refine d_T 7 rfl sb_69_16_7 rfl (y_fa fl_85_0 rfl) rfl ?_
          refine d_ld 8 rfl sb_69_16_8 one_81 rfl (fun x hx => hx) m0 (At.got (At.refl.comp Dev.a_blk)) rfl ?_
          refine d_T 9 rfl sb_69_16_9 rfl (y_move rfl) rfl ?_
          obtain ⟨x6, hx9, hm⟩ := bd hm
          obtain ⟨b8, w4, cs4, y4, z15, vs4, hc4, ha4, hr4, hy6⟩ := ho43.rd.ix hx9
          obtain rfl : vs4 = (enc8 x6) := hr4
          refine d_T 10 rfl sb_69_16_10 rfl (hy6 sl_81 rfl rfl rfl) rfl ?_
          refine d_ld 11 rfl sb_69_16_11 one_5 rfl (fun x hx => hx) (ms (mg hc4)) (At.getA (ha4)) rfl ?_
          obtain ⟨_, hi3, hm⟩ := bd hm
          have hi3 := ckA_some hi3
          obtain ⟨b9, cp3, hv3, hy7⟩ := ho44.ix hi3
          refine d_T 12 rfl sb_69_16_12 rfl (hy7 sl_81 rfl rfl rfl) rfl ?_
          refine d_hard 13 rfl sb_69_16_13 ?_
          obtain ⟨l3, hx11, hm⟩ := bd hm
          refine o_stO1 one_5 rfl rfl rfl rfl ho44 hv3 hx11 (fun _ => (qs (qs q0))) (fun g43 ho51 => ?_)
          obtain ⟨z16, hn3, hm⟩ := nm_s hm
          have ho52 := ho43.to (l' := z16.blk) (by subst hn3; rfl)
          have ho53 := ho51.to (l' := z16.base) (by subst hn3; rfl)
          have ho54 := ho45.to (l' := z16.at_) (by subst hn3; rfl)
          have ho55 := ho46.to (l' := z16.data) (by subst hn3; rfl)
          refine o_row' (g' := [(b2, Obj.cells (Dev.enc (v33) (v34) (v35) (v36) z16).toArray 85 (0, 0))]) q0 (by subst hn3; rfl) ?_
          refine o_stop (fun h => nomatch h) ?_
          refine d_nil0 sb_69_16_14 rfl ?_
          refine c_region ?_
          refine o_T (y_move rfl) rfl ?_
          refine o_T (y_add rfl rfl rfl) rfl ?_
          refine o_L (y_assign rfl) rfl rfl ?_
          refine o_nil0 rfl ?_
          exact ⟨mm4, Nat.lt_succ_self _, _, _, ⟨_, _, v33, _, v34, _, v35, _, v36, _, rfl, rfl, hm, ho52, ho53, ho54, ho55⟩, ⟨rfl, trivial⟩, ⟨rfl, rfl⟩, _, (s_take (s_take (s_take (s_take (s_take (s_take (s_take (s_take (s_take (s_take (s_take s_nil)))))))))))⟩
        · have hm := cd_f h5 hm
          refine c_exit ?_
          obtain ⟨rfl, rfl⟩ := pr2 hm
          exact ⟨_, _, ⟨v33, _, v34, _, v35, _, v36, _, rfl, rfl, ho43, ho44, ho45, ho46⟩, ⟨rfl, trivial⟩, ⟨rfl, rfl⟩, _, (s_take (s_take (s_take (s_take (s_take (s_take (s_take (s_take (s_take (s_take (s_take s_nil)))))))))))⟩
      · rintro sh G ⟨v37, g39, v38, g40, v39, g41, v40, g42, rfl, rfl, ho47, ho48, ho49, ho50⟩
        refine c_seq ?_
        refine c_region ?_
        refine o_T (y_move rfl) rfl ?_
        refine o_L (y_assign rfl) rfl rfl ?_
        refine o_nil0 rfl ?_
        refine c_ret ?_
        obtain rfl := p1 hm
        refine fun aX wX heX hsX => ret1 Tryz.results69 heX rfl (s_get (ks (ks (ks (ks (ks k0))))) (s_get (ks (ks (ks (ks (ks k0))))) (s_get (ks (ks (ks (ks (ks k0))))) (s_get (ks (ks (ks (ks (ks k0))))) (s_get (ks (ks (ks (ks (ks k0))))) (s_take (s_take (s_take (s_take (s_take (s_take s_nil))))))))))) ?_
        exact ⟨b2, v37, _, v38, _, v39, _, v40, _, rfl, rfl, ho47, ho48, ho49, ho50⟩
end Go.Proofs.Qxb6500350aGreat
