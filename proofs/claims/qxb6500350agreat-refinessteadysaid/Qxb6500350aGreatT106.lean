/- MADE BY PROGRAM (tools350/mir.py): mirror and walk. -/
import Derived.Test.Qxb6500350aGreatF2
import Derived.Test.Qxb6500350aGreatT189
import Derived.Test.Qxb6500350aGreatT190
import Derived.Test.Qxb6500350aGreatT191
import Derived.Test.Qxb6500350aGreatT192
import Derived.Test.Qxb6500350aGreatT193
set_option linter.unusedVariables false
set_option linter.unusedSimpArgs false
set_option maxRecDepth 20000
set_option maxHeartbeats 4000000
namespace Go.Proofs.Qxb6500350aGreat
open Go.Eng

def op_106_17 : Array Go.Oper := #[{ dst := some 66, op := Go.Op.move (Go.Operand.tmp 4), type := 3, pos := "check.go:33", after := #[], guard := none }, { dst := some 67, op := Go.Op.move (Go.Operand.tmp 0), type := 28, pos := "check.go:33", after := #[], guard := none }, { dst := some 68, op := Go.Op.nilCheck (Go.Operand.tmp 67), type := 0, pos := "check.go:33", after := #[{ on := 1, ground := Go.Ground.data }], guard := none }, { dst := some 69, op := Go.Op.fieldAddr 126 (Go.Operand.tmp 68) 4, type := 0, pos := "check.go:33", after := #[{ on := 2, ground := Go.Ground.data }], guard := none }, { dst := some 70, op := Go.Op.load 3 (Go.Operand.tmp 69), type := 3, pos := "check.go:33", after := #[{ on := 3, ground := Go.Ground.data }], guard := none }, { dst := some 71, op := Go.Op.binOp Go.BinOp.neq 3 (Go.Operand.tmp 66) (Go.Operand.tmp 70) 3, type := 4, pos := "check.go:33", after := #[{ on := 0, ground := Go.Ground.data }, { on := 4, ground := Go.Ground.data }], guard := none }, { dst := some 72, op := Go.Op.move (Go.Operand.tmp 71), type := 4, pos := "check.go:33", after := #[{ on := 5, ground := Go.Ground.data }], guard := none }, { dst := some 73, op := Go.Op.move (Go.Operand.tmp 3), type := 28, pos := "check.go:33", after := #[{ on := 6, ground := Go.Ground.guard }], guard := some (6, false) }, { dst := some 74, op := Go.Op.nilCheck (Go.Operand.tmp 73), type := 0, pos := "check.go:33", after := #[{ on := 7, ground := Go.Ground.data }, { on := 6, ground := Go.Ground.guard }], guard := some (6, false) }, { dst := some 75, op := Go.Op.fieldAddr 126 (Go.Operand.tmp 74) 3, type := 0, pos := "check.go:33", after := #[{ on := 8, ground := Go.Ground.data }, { on := 6, ground := Go.Ground.guard }], guard := some (6, false) }, { dst := some 76, op := Go.Op.indexAddr 124 (Go.Operand.tmp 75) (Go.Operand.const (Go.Value.int Go.IntKind.i64 0)), type := 0, pos := "check.go:33", after := #[{ on := 9, ground := Go.Ground.data }, { on := 6, ground := Go.Ground.guard }], guard := some (6, false) }, { dst := some 77, op := Go.Op.load 123 (Go.Operand.tmp 76), type := 123, pos := "check.go:33", after := #[{ on := 10, ground := Go.Ground.data }, { on := 6, ground := Go.Ground.guard }], guard := some (6, false) }, { dst := some 78, op := Go.Op.move (Go.Operand.tmp 0), type := 28, pos := "check.go:33", after := #[{ on := 6, ground := Go.Ground.guard }], guard := some (6, false) }, { dst := some 79, op := Go.Op.nilCheck (Go.Operand.tmp 78), type := 0, pos := "check.go:33", after := #[{ on := 12, ground := Go.Ground.data }, { on := 6, ground := Go.Ground.guard }], guard := some (6, false) }, { dst := some 80, op := Go.Op.fieldAddr 126 (Go.Operand.tmp 79) 3, type := 0, pos := "check.go:33", after := #[{ on := 13, ground := Go.Ground.data }, { on := 6, ground := Go.Ground.guard }], guard := some (6, false) }, { dst := some 81, op := Go.Op.indexAddr 124 (Go.Operand.tmp 80) (Go.Operand.const (Go.Value.int Go.IntKind.i64 0)), type := 0, pos := "check.go:33", after := #[{ on := 14, ground := Go.Ground.data }, { on := 6, ground := Go.Ground.guard }], guard := some (6, false) }, { dst := some 82, op := Go.Op.load 123 (Go.Operand.tmp 81), type := 123, pos := "check.go:33", after := #[{ on := 15, ground := Go.Ground.data }, { on := 6, ground := Go.Ground.guard }], guard := some (6, false) }, { dst := some 83, op := Go.Op.binOp Go.BinOp.neq 123 (Go.Operand.tmp 77) (Go.Operand.tmp 82) 123, type := 4, pos := "check.go:33", after := #[{ on := 11, ground := Go.Ground.data }, { on := 16, ground := Go.Ground.data }, { on := 6, ground := Go.Ground.guard }], guard := some (6, false) }, { dst := some 84, op := Go.Op.pick (Go.Operand.tmp 72) (Go.Operand.const (Go.Value.bool true)) (Go.Operand.tmp 83), type := 4, pos := "check.go:33", after := #[{ on := 6, ground := Go.Ground.data }, { on := 17, ground := Go.Ground.data }], guard := none }, { dst := some 85, op := Go.Op.move (Go.Operand.tmp 84), type := 4, pos := "check.go:33", after := #[{ on := 18, ground := Go.Ground.data }, { on := 6, ground := Go.Ground.chain }], guard := none }, { dst := some 86, op := Go.Op.move (Go.Operand.tmp 3), type := 28, pos := "check.go:33", after := #[{ on := 19, ground := Go.Ground.guard }], guard := some (19, false) }, { dst := some 87, op := Go.Op.nilCheck (Go.Operand.tmp 86), type := 0, pos := "check.go:33", after := #[{ on := 20, ground := Go.Ground.data }, { on := 19, ground := Go.Ground.guard }], guard := some (19, false) }, { dst := some 88, op := Go.Op.fieldAddr 126 (Go.Operand.tmp 87) 3, type := 0, pos := "check.go:33", after := #[{ on := 21, ground := Go.Ground.data }, { on := 19, ground := Go.Ground.guard }], guard := some (19, false) }, { dst := some 89, op := Go.Op.indexAddr 124 (Go.Operand.tmp 88) (Go.Operand.const (Go.Value.int Go.IntKind.i64 1)), type := 0, pos := "check.go:33", after := #[{ on := 22, ground := Go.Ground.data }, { on := 19, ground := Go.Ground.guard }], guard := some (19, false) }, { dst := some 90, op := Go.Op.load 123 (Go.Operand.tmp 89), type := 123, pos := "check.go:33", after := #[{ on := 23, ground := Go.Ground.data }, { on := 19, ground := Go.Ground.guard }], guard := some (19, false) }, { dst := some 91, op := Go.Op.move (Go.Operand.tmp 0), type := 28, pos := "check.go:33", after := #[{ on := 19, ground := Go.Ground.guard }], guard := some (19, false) }, { dst := some 92, op := Go.Op.nilCheck (Go.Operand.tmp 91), type := 0, pos := "check.go:33", after := #[{ on := 25, ground := Go.Ground.data }, { on := 19, ground := Go.Ground.guard }], guard := some (19, false) }, { dst := some 93, op := Go.Op.fieldAddr 126 (Go.Operand.tmp 92) 3, type := 0, pos := "check.go:33", after := #[{ on := 26, ground := Go.Ground.data }, { on := 19, ground := Go.Ground.guard }], guard := some (19, false) }, { dst := some 94, op := Go.Op.indexAddr 124 (Go.Operand.tmp 93) (Go.Operand.const (Go.Value.int Go.IntKind.i64 1)), type := 0, pos := "check.go:33", after := #[{ on := 27, ground := Go.Ground.data }, { on := 19, ground := Go.Ground.guard }], guard := some (19, false) }, { dst := some 95, op := Go.Op.load 123 (Go.Operand.tmp 94), type := 123, pos := "check.go:33", after := #[{ on := 28, ground := Go.Ground.data }, { on := 19, ground := Go.Ground.guard }], guard := some (19, false) }, { dst := some 96, op := Go.Op.binOp Go.BinOp.neq 123 (Go.Operand.tmp 90) (Go.Operand.tmp 95) 123, type := 4, pos := "check.go:33", after := #[{ on := 24, ground := Go.Ground.data }, { on := 29, ground := Go.Ground.data }, { on := 19, ground := Go.Ground.guard }], guard := some (19, false) }, { dst := some 97, op := Go.Op.pick (Go.Operand.tmp 85) (Go.Operand.const (Go.Value.bool true)) (Go.Operand.tmp 96), type := 4, pos := "check.go:33", after := #[{ on := 19, ground := Go.Ground.data }, { on := 30, ground := Go.Ground.data }], guard := none }, { dst := some 98, op := Go.Op.move (Go.Operand.tmp 97), type := 4, pos := "check.go:33", after := #[{ on := 31, ground := Go.Ground.data }, { on := 19, ground := Go.Ground.chain }], guard := none }, { dst := some 99, op := Go.Op.move (Go.Operand.tmp 3), type := 28, pos := "check.go:33", after := #[{ on := 32, ground := Go.Ground.guard }], guard := some (32, false) }, { dst := some 100, op := Go.Op.nilCheck (Go.Operand.tmp 99), type := 0, pos := "check.go:33", after := #[{ on := 33, ground := Go.Ground.data }, { on := 32, ground := Go.Ground.guard }], guard := some (32, false) }, { dst := some 101, op := Go.Op.fieldAddr 126 (Go.Operand.tmp 100) 3, type := 0, pos := "check.go:33", after := #[{ on := 34, ground := Go.Ground.data }, { on := 32, ground := Go.Ground.guard }], guard := some (32, false) }, { dst := some 102, op := Go.Op.indexAddr 124 (Go.Operand.tmp 101) (Go.Operand.const (Go.Value.int Go.IntKind.i64 2)), type := 0, pos := "check.go:33", after := #[{ on := 35, ground := Go.Ground.data }, { on := 32, ground := Go.Ground.guard }], guard := some (32, false) }, { dst := some 103, op := Go.Op.load 123 (Go.Operand.tmp 102), type := 123, pos := "check.go:33", after := #[{ on := 36, ground := Go.Ground.data }, { on := 32, ground := Go.Ground.guard }], guard := some (32, false) }, { dst := some 104, op := Go.Op.move (Go.Operand.tmp 0), type := 28, pos := "check.go:33", after := #[{ on := 32, ground := Go.Ground.guard }], guard := some (32, false) }, { dst := some 105, op := Go.Op.nilCheck (Go.Operand.tmp 104), type := 0, pos := "check.go:33", after := #[{ on := 38, ground := Go.Ground.data }, { on := 32, ground := Go.Ground.guard }], guard := some (32, false) }, { dst := some 106, op := Go.Op.fieldAddr 126 (Go.Operand.tmp 105) 3, type := 0, pos := "check.go:33", after := #[{ on := 39, ground := Go.Ground.data }, { on := 32, ground := Go.Ground.guard }], guard := some (32, false) }, { dst := some 107, op := Go.Op.indexAddr 124 (Go.Operand.tmp 106) (Go.Operand.const (Go.Value.int Go.IntKind.i64 2)), type := 0, pos := "check.go:33", after := #[{ on := 40, ground := Go.Ground.data }, { on := 32, ground := Go.Ground.guard }], guard := some (32, false) }, { dst := some 108, op := Go.Op.load 123 (Go.Operand.tmp 107), type := 123, pos := "check.go:33", after := #[{ on := 41, ground := Go.Ground.data }, { on := 32, ground := Go.Ground.guard }], guard := some (32, false) }, { dst := some 109, op := Go.Op.binOp Go.BinOp.neq 123 (Go.Operand.tmp 103) (Go.Operand.tmp 108) 123, type := 4, pos := "check.go:33", after := #[{ on := 37, ground := Go.Ground.data }, { on := 42, ground := Go.Ground.data }, { on := 32, ground := Go.Ground.guard }], guard := some (32, false) }, { dst := some 110, op := Go.Op.pick (Go.Operand.tmp 98) (Go.Operand.const (Go.Value.bool true)) (Go.Operand.tmp 109), type := 4, pos := "check.go:33", after := #[{ on := 32, ground := Go.Ground.data }, { on := 43, ground := Go.Ground.data }], guard := none }]
theorem sb_106_17_0 : softB op_106_17 #[true, true, true, true, true, true, true, true, true, true, true, true, true, true, true, true, true, true, true, true, true, true, true, true, true, true, true, true, true, true, true, true, true, true, true, true, true, true, true, true, true, true, true, true, true] (Array.replicate 45 false) 0 = true := by kernel_rfl
theorem sb_106_17_1 : softB op_106_17 #[true, true, true, true, true, true, true, true, true, true, true, true, true, true, true, true, true, true, true, true, true, true, true, true, true, true, true, true, true, true, true, true, true, true, true, true, true, true, true, true, true, true, true, true, true] ((Array.replicate 45 false).setIfInBounds 0 true) 1 = true := by kernel_rfl
theorem sb_106_17_2 : softB op_106_17 #[true, true, true, true, true, true, true, true, true, true, true, true, true, true, true, true, true, true, true, true, true, true, true, true, true, true, true, true, true, true, true, true, true, true, true, true, true, true, true, true, true, true, true, true, true] (((Array.replicate 45 false).setIfInBounds 0 true).setIfInBounds 1 true) 2 = true := by kernel_rfl
theorem sb_106_17_3 : softB op_106_17 #[true, true, true, true, true, true, true, true, true, true, true, true, true, true, true, true, true, true, true, true, true, true, true, true, true, true, true, true, true, true, true, true, true, true, true, true, true, true, true, true, true, true, true, true, true] ((((Array.replicate 45 false).setIfInBounds 0 true).setIfInBounds 1 true).setIfInBounds 2 true) 3 = true := by kernel_rfl
theorem sb_106_17_4 : softB op_106_17 #[true, true, true, true, true, true, true, true, true, true, true, true, true, true, true, true, true, true, true, true, true, true, true, true, true, true, true, true, true, true, true, true, true, true, true, true, true, true, true, true, true, true, true, true, true] (((((Array.replicate 45 false).setIfInBounds 0 true).setIfInBounds 1 true).setIfInBounds 2 true).setIfInBounds 3 true) 4 = true := by kernel_rfl
theorem sb_106_17_5 : softB op_106_17 #[true, true, true, true, true, true, true, true, true, true, true, true, true, true, true, true, true, true, true, true, true, true, true, true, true, true, true, true, true, true, true, true, true, true, true, true, true, true, true, true, true, true, true, true, true] ((((((Array.replicate 45 false).setIfInBounds 0 true).setIfInBounds 1 true).setIfInBounds 2 true).setIfInBounds 3 true).setIfInBounds 4 true) 5 = true := by kernel_rfl
theorem sb_106_17_6 : softB op_106_17 #[true, true, true, true, true, true, true, true, true, true, true, true, true, true, true, true, true, true, true, true, true, true, true, true, true, true, true, true, true, true, true, true, true, true, true, true, true, true, true, true, true, true, true, true, true] (((((((Array.replicate 45 false).setIfInBounds 0 true).setIfInBounds 1 true).setIfInBounds 2 true).setIfInBounds 3 true).setIfInBounds 4 true).setIfInBounds 5 true) 6 = true := by kernel_rfl
theorem sb_106_17_7 : softB op_106_17 #[true, true, true, true, true, true, true, true, true, true, true, true, true, true, true, true, true, true, true, true, true, true, true, true, true, true, true, true, true, true, true, true, true, true, true, true, true, true, true, true, true, true, true, true, true] ((((((((Array.replicate 45 false).setIfInBounds 0 true).setIfInBounds 1 true).setIfInBounds 2 true).setIfInBounds 3 true).setIfInBounds 4 true).setIfInBounds 5 true).setIfInBounds 6 true) 7 = true := by kernel_rfl
theorem sb_106_17_8 : softB op_106_17 #[true, true, true, true, true, true, true, true, true, true, true, true, true, true, true, true, true, true, true, true, true, true, true, true, true, true, true, true, true, true, true, true, true, true, true, true, true, true, true, true, true, true, true, true, true] (((((((((Array.replicate 45 false).setIfInBounds 0 true).setIfInBounds 1 true).setIfInBounds 2 true).setIfInBounds 3 true).setIfInBounds 4 true).setIfInBounds 5 true).setIfInBounds 6 true).setIfInBounds 7 true) 8 = true := by kernel_rfl
theorem sb_106_17_9 : softB op_106_17 #[true, true, true, true, true, true, true, true, true, true, true, true, true, true, true, true, true, true, true, true, true, true, true, true, true, true, true, true, true, true, true, true, true, true, true, true, true, true, true, true, true, true, true, true, true] ((((((((((Array.replicate 45 false).setIfInBounds 0 true).setIfInBounds 1 true).setIfInBounds 2 true).setIfInBounds 3 true).setIfInBounds 4 true).setIfInBounds 5 true).setIfInBounds 6 true).setIfInBounds 7 true).setIfInBounds 8 true) 9 = true := by kernel_rfl
theorem sb_106_17_10 : softB op_106_17 #[true, true, true, true, true, true, true, true, true, true, true, true, true, true, true, true, true, true, true, true, true, true, true, true, true, true, true, true, true, true, true, true, true, true, true, true, true, true, true, true, true, true, true, true, true] (((((((((((Array.replicate 45 false).setIfInBounds 0 true).setIfInBounds 1 true).setIfInBounds 2 true).setIfInBounds 3 true).setIfInBounds 4 true).setIfInBounds 5 true).setIfInBounds 6 true).setIfInBounds 7 true).setIfInBounds 8 true).setIfInBounds 9 true) 10 = true := by kernel_rfl
theorem sb_106_17_11 : softB op_106_17 #[true, true, true, true, true, true, true, true, true, true, true, true, true, true, true, true, true, true, true, true, true, true, true, true, true, true, true, true, true, true, true, true, true, true, true, true, true, true, true, true, true, true, true, true, true] ((((((((((((Array.replicate 45 false).setIfInBounds 0 true).setIfInBounds 1 true).setIfInBounds 2 true).setIfInBounds 3 true).setIfInBounds 4 true).setIfInBounds 5 true).setIfInBounds 6 true).setIfInBounds 7 true).setIfInBounds 8 true).setIfInBounds 9 true).setIfInBounds 10 true) 11 = true := by kernel_rfl
theorem sb_106_17_12 : softB op_106_17 #[true, true, true, true, true, true, true, true, true, true, true, true, true, true, true, true, true, true, true, true, true, true, true, true, true, true, true, true, true, true, true, true, true, true, true, true, true, true, true, true, true, true, true, true, true] (((((((((((((Array.replicate 45 false).setIfInBounds 0 true).setIfInBounds 1 true).setIfInBounds 2 true).setIfInBounds 3 true).setIfInBounds 4 true).setIfInBounds 5 true).setIfInBounds 6 true).setIfInBounds 7 true).setIfInBounds 8 true).setIfInBounds 9 true).setIfInBounds 10 true).setIfInBounds 11 true) 12 = true := by kernel_rfl
theorem sb_106_17_13 : softB op_106_17 #[true, true, true, true, true, true, true, true, true, true, true, true, true, true, true, true, true, true, true, true, true, true, true, true, true, true, true, true, true, true, true, true, true, true, true, true, true, true, true, true, true, true, true, true, true] ((((((((((((((Array.replicate 45 false).setIfInBounds 0 true).setIfInBounds 1 true).setIfInBounds 2 true).setIfInBounds 3 true).setIfInBounds 4 true).setIfInBounds 5 true).setIfInBounds 6 true).setIfInBounds 7 true).setIfInBounds 8 true).setIfInBounds 9 true).setIfInBounds 10 true).setIfInBounds 11 true).setIfInBounds 12 true) 13 = true := by kernel_rfl
theorem sb_106_17_14 : softB op_106_17 #[true, true, true, true, true, true, true, true, true, true, true, true, true, true, true, true, true, true, true, true, true, true, true, true, true, true, true, true, true, true, true, true, true, true, true, true, true, true, true, true, true, true, true, true, true] (((((((((((((((Array.replicate 45 false).setIfInBounds 0 true).setIfInBounds 1 true).setIfInBounds 2 true).setIfInBounds 3 true).setIfInBounds 4 true).setIfInBounds 5 true).setIfInBounds 6 true).setIfInBounds 7 true).setIfInBounds 8 true).setIfInBounds 9 true).setIfInBounds 10 true).setIfInBounds 11 true).setIfInBounds 12 true).setIfInBounds 13 true) 14 = true := by kernel_rfl
theorem sb_106_17_15 : softB op_106_17 #[true, true, true, true, true, true, true, true, true, true, true, true, true, true, true, true, true, true, true, true, true, true, true, true, true, true, true, true, true, true, true, true, true, true, true, true, true, true, true, true, true, true, true, true, true] ((((((((((((((((Array.replicate 45 false).setIfInBounds 0 true).setIfInBounds 1 true).setIfInBounds 2 true).setIfInBounds 3 true).setIfInBounds 4 true).setIfInBounds 5 true).setIfInBounds 6 true).setIfInBounds 7 true).setIfInBounds 8 true).setIfInBounds 9 true).setIfInBounds 10 true).setIfInBounds 11 true).setIfInBounds 12 true).setIfInBounds 13 true).setIfInBounds 14 true) 15 = true := by kernel_rfl
theorem sb_106_17_16 : softB op_106_17 #[true, true, true, true, true, true, true, true, true, true, true, true, true, true, true, true, true, true, true, true, true, true, true, true, true, true, true, true, true, true, true, true, true, true, true, true, true, true, true, true, true, true, true, true, true] (((((((((((((((((Array.replicate 45 false).setIfInBounds 0 true).setIfInBounds 1 true).setIfInBounds 2 true).setIfInBounds 3 true).setIfInBounds 4 true).setIfInBounds 5 true).setIfInBounds 6 true).setIfInBounds 7 true).setIfInBounds 8 true).setIfInBounds 9 true).setIfInBounds 10 true).setIfInBounds 11 true).setIfInBounds 12 true).setIfInBounds 13 true).setIfInBounds 14 true).setIfInBounds 15 true) 16 = true := by kernel_rfl
theorem sb_106_17_17 : softB op_106_17 #[true, true, true, true, true, true, true, true, true, true, true, true, true, true, true, true, true, true, true, true, true, true, true, true, true, true, true, true, true, true, true, true, true, true, true, true, true, true, true, true, true, true, true, true, true] ((((((((((((((((((Array.replicate 45 false).setIfInBounds 0 true).setIfInBounds 1 true).setIfInBounds 2 true).setIfInBounds 3 true).setIfInBounds 4 true).setIfInBounds 5 true).setIfInBounds 6 true).setIfInBounds 7 true).setIfInBounds 8 true).setIfInBounds 9 true).setIfInBounds 10 true).setIfInBounds 11 true).setIfInBounds 12 true).setIfInBounds 13 true).setIfInBounds 14 true).setIfInBounds 15 true).setIfInBounds 16 true) 17 = true := by kernel_rfl
theorem sb_106_17_18 : softB op_106_17 #[true, true, true, true, true, true, true, true, true, true, true, true, true, true, true, true, true, true, true, true, true, true, true, true, true, true, true, true, true, true, true, true, true, true, true, true, true, true, true, true, true, true, true, true, true] (((((((((((((((((((Array.replicate 45 false).setIfInBounds 0 true).setIfInBounds 1 true).setIfInBounds 2 true).setIfInBounds 3 true).setIfInBounds 4 true).setIfInBounds 5 true).setIfInBounds 6 true).setIfInBounds 7 true).setIfInBounds 8 true).setIfInBounds 9 true).setIfInBounds 10 true).setIfInBounds 11 true).setIfInBounds 12 true).setIfInBounds 13 true).setIfInBounds 14 true).setIfInBounds 15 true).setIfInBounds 16 true).setIfInBounds 17 true) 18 = true := by kernel_rfl
theorem sb_106_17_19 : softB op_106_17 #[true, true, true, true, true, true, true, true, true, true, true, true, true, true, true, true, true, true, true, true, true, true, true, true, true, true, true, true, true, true, true, true, true, true, true, true, true, true, true, true, true, true, true, true, true] ((((((((((((((((((((Array.replicate 45 false).setIfInBounds 0 true).setIfInBounds 1 true).setIfInBounds 2 true).setIfInBounds 3 true).setIfInBounds 4 true).setIfInBounds 5 true).setIfInBounds 6 true).setIfInBounds 7 true).setIfInBounds 8 true).setIfInBounds 9 true).setIfInBounds 10 true).setIfInBounds 11 true).setIfInBounds 12 true).setIfInBounds 13 true).setIfInBounds 14 true).setIfInBounds 15 true).setIfInBounds 16 true).setIfInBounds 17 true).setIfInBounds 18 true) 19 = true := by kernel_rfl
theorem sb_106_17_20 : softB op_106_17 #[true, true, true, true, true, true, true, true, true, true, true, true, true, true, true, true, true, true, true, true, true, true, true, true, true, true, true, true, true, true, true, true, true, true, true, true, true, true, true, true, true, true, true, true, true] (((((((((((((((((((((Array.replicate 45 false).setIfInBounds 0 true).setIfInBounds 1 true).setIfInBounds 2 true).setIfInBounds 3 true).setIfInBounds 4 true).setIfInBounds 5 true).setIfInBounds 6 true).setIfInBounds 7 true).setIfInBounds 8 true).setIfInBounds 9 true).setIfInBounds 10 true).setIfInBounds 11 true).setIfInBounds 12 true).setIfInBounds 13 true).setIfInBounds 14 true).setIfInBounds 15 true).setIfInBounds 16 true).setIfInBounds 17 true).setIfInBounds 18 true).setIfInBounds 19 true) 20 = true := by kernel_rfl
theorem sb_106_17_21 : softB op_106_17 #[true, true, true, true, true, true, true, true, true, true, true, true, true, true, true, true, true, true, true, true, true, true, true, true, true, true, true, true, true, true, true, true, true, true, true, true, true, true, true, true, true, true, true, true, true] ((((((((((((((((((((((Array.replicate 45 false).setIfInBounds 0 true).setIfInBounds 1 true).setIfInBounds 2 true).setIfInBounds 3 true).setIfInBounds 4 true).setIfInBounds 5 true).setIfInBounds 6 true).setIfInBounds 7 true).setIfInBounds 8 true).setIfInBounds 9 true).setIfInBounds 10 true).setIfInBounds 11 true).setIfInBounds 12 true).setIfInBounds 13 true).setIfInBounds 14 true).setIfInBounds 15 true).setIfInBounds 16 true).setIfInBounds 17 true).setIfInBounds 18 true).setIfInBounds 19 true).setIfInBounds 20 true) 21 = true := by kernel_rfl
theorem sb_106_17_22 : softB op_106_17 #[true, true, true, true, true, true, true, true, true, true, true, true, true, true, true, true, true, true, true, true, true, true, true, true, true, true, true, true, true, true, true, true, true, true, true, true, true, true, true, true, true, true, true, true, true] (((((((((((((((((((((((Array.replicate 45 false).setIfInBounds 0 true).setIfInBounds 1 true).setIfInBounds 2 true).setIfInBounds 3 true).setIfInBounds 4 true).setIfInBounds 5 true).setIfInBounds 6 true).setIfInBounds 7 true).setIfInBounds 8 true).setIfInBounds 9 true).setIfInBounds 10 true).setIfInBounds 11 true).setIfInBounds 12 true).setIfInBounds 13 true).setIfInBounds 14 true).setIfInBounds 15 true).setIfInBounds 16 true).setIfInBounds 17 true).setIfInBounds 18 true).setIfInBounds 19 true).setIfInBounds 20 true).setIfInBounds 21 true) 22 = true := by kernel_rfl
theorem sb_106_17_23 : softB op_106_17 #[true, true, true, true, true, true, true, true, true, true, true, true, true, true, true, true, true, true, true, true, true, true, true, true, true, true, true, true, true, true, true, true, true, true, true, true, true, true, true, true, true, true, true, true, true] ((((((((((((((((((((((((Array.replicate 45 false).setIfInBounds 0 true).setIfInBounds 1 true).setIfInBounds 2 true).setIfInBounds 3 true).setIfInBounds 4 true).setIfInBounds 5 true).setIfInBounds 6 true).setIfInBounds 7 true).setIfInBounds 8 true).setIfInBounds 9 true).setIfInBounds 10 true).setIfInBounds 11 true).setIfInBounds 12 true).setIfInBounds 13 true).setIfInBounds 14 true).setIfInBounds 15 true).setIfInBounds 16 true).setIfInBounds 17 true).setIfInBounds 18 true).setIfInBounds 19 true).setIfInBounds 20 true).setIfInBounds 21 true).setIfInBounds 22 true) 23 = true := by kernel_rfl
theorem sb_106_17_24 : softB op_106_17 #[true, true, true, true, true, true, true, true, true, true, true, true, true, true, true, true, true, true, true, true, true, true, true, true, true, true, true, true, true, true, true, true, true, true, true, true, true, true, true, true, true, true, true, true, true] (((((((((((((((((((((((((Array.replicate 45 false).setIfInBounds 0 true).setIfInBounds 1 true).setIfInBounds 2 true).setIfInBounds 3 true).setIfInBounds 4 true).setIfInBounds 5 true).setIfInBounds 6 true).setIfInBounds 7 true).setIfInBounds 8 true).setIfInBounds 9 true).setIfInBounds 10 true).setIfInBounds 11 true).setIfInBounds 12 true).setIfInBounds 13 true).setIfInBounds 14 true).setIfInBounds 15 true).setIfInBounds 16 true).setIfInBounds 17 true).setIfInBounds 18 true).setIfInBounds 19 true).setIfInBounds 20 true).setIfInBounds 21 true).setIfInBounds 22 true).setIfInBounds 23 true) 24 = true := by kernel_rfl
theorem sb_106_17_25 : softB op_106_17 #[true, true, true, true, true, true, true, true, true, true, true, true, true, true, true, true, true, true, true, true, true, true, true, true, true, true, true, true, true, true, true, true, true, true, true, true, true, true, true, true, true, true, true, true, true] ((((((((((((((((((((((((((Array.replicate 45 false).setIfInBounds 0 true).setIfInBounds 1 true).setIfInBounds 2 true).setIfInBounds 3 true).setIfInBounds 4 true).setIfInBounds 5 true).setIfInBounds 6 true).setIfInBounds 7 true).setIfInBounds 8 true).setIfInBounds 9 true).setIfInBounds 10 true).setIfInBounds 11 true).setIfInBounds 12 true).setIfInBounds 13 true).setIfInBounds 14 true).setIfInBounds 15 true).setIfInBounds 16 true).setIfInBounds 17 true).setIfInBounds 18 true).setIfInBounds 19 true).setIfInBounds 20 true).setIfInBounds 21 true).setIfInBounds 22 true).setIfInBounds 23 true).setIfInBounds 24 true) 25 = true := by kernel_rfl
theorem sb_106_17_26 : softB op_106_17 #[true, true, true, true, true, true, true, true, true, true, true, true, true, true, true, true, true, true, true, true, true, true, true, true, true, true, true, true, true, true, true, true, true, true, true, true, true, true, true, true, true, true, true, true, true] (((((((((((((((((((((((((((Array.replicate 45 false).setIfInBounds 0 true).setIfInBounds 1 true).setIfInBounds 2 true).setIfInBounds 3 true).setIfInBounds 4 true).setIfInBounds 5 true).setIfInBounds 6 true).setIfInBounds 7 true).setIfInBounds 8 true).setIfInBounds 9 true).setIfInBounds 10 true).setIfInBounds 11 true).setIfInBounds 12 true).setIfInBounds 13 true).setIfInBounds 14 true).setIfInBounds 15 true).setIfInBounds 16 true).setIfInBounds 17 true).setIfInBounds 18 true).setIfInBounds 19 true).setIfInBounds 20 true).setIfInBounds 21 true).setIfInBounds 22 true).setIfInBounds 23 true).setIfInBounds 24 true).setIfInBounds 25 true) 26 = true := by kernel_rfl
theorem sb_106_17_27 : softB op_106_17 #[true, true, true, true, true, true, true, true, true, true, true, true, true, true, true, true, true, true, true, true, true, true, true, true, true, true, true, true, true, true, true, true, true, true, true, true, true, true, true, true, true, true, true, true, true] ((((((((((((((((((((((((((((Array.replicate 45 false).setIfInBounds 0 true).setIfInBounds 1 true).setIfInBounds 2 true).setIfInBounds 3 true).setIfInBounds 4 true).setIfInBounds 5 true).setIfInBounds 6 true).setIfInBounds 7 true).setIfInBounds 8 true).setIfInBounds 9 true).setIfInBounds 10 true).setIfInBounds 11 true).setIfInBounds 12 true).setIfInBounds 13 true).setIfInBounds 14 true).setIfInBounds 15 true).setIfInBounds 16 true).setIfInBounds 17 true).setIfInBounds 18 true).setIfInBounds 19 true).setIfInBounds 20 true).setIfInBounds 21 true).setIfInBounds 22 true).setIfInBounds 23 true).setIfInBounds 24 true).setIfInBounds 25 true).setIfInBounds 26 true) 27 = true := by kernel_rfl
theorem sb_106_17_28 : softB op_106_17 #[true, true, true, true, true, true, true, true, true, true, true, true, true, true, true, true, true, true, true, true, true, true, true, true, true, true, true, true, true, true, true, true, true, true, true, true, true, true, true, true, true, true, true, true, true] (((((((((((((((((((((((((((((Array.replicate 45 false).setIfInBounds 0 true).setIfInBounds 1 true).setIfInBounds 2 true).setIfInBounds 3 true).setIfInBounds 4 true).setIfInBounds 5 true).setIfInBounds 6 true).setIfInBounds 7 true).setIfInBounds 8 true).setIfInBounds 9 true).setIfInBounds 10 true).setIfInBounds 11 true).setIfInBounds 12 true).setIfInBounds 13 true).setIfInBounds 14 true).setIfInBounds 15 true).setIfInBounds 16 true).setIfInBounds 17 true).setIfInBounds 18 true).setIfInBounds 19 true).setIfInBounds 20 true).setIfInBounds 21 true).setIfInBounds 22 true).setIfInBounds 23 true).setIfInBounds 24 true).setIfInBounds 25 true).setIfInBounds 26 true).setIfInBounds 27 true) 28 = true := by kernel_rfl
theorem sb_106_17_29 : softB op_106_17 #[true, true, true, true, true, true, true, true, true, true, true, true, true, true, true, true, true, true, true, true, true, true, true, true, true, true, true, true, true, true, true, true, true, true, true, true, true, true, true, true, true, true, true, true, true] ((((((((((((((((((((((((((((((Array.replicate 45 false).setIfInBounds 0 true).setIfInBounds 1 true).setIfInBounds 2 true).setIfInBounds 3 true).setIfInBounds 4 true).setIfInBounds 5 true).setIfInBounds 6 true).setIfInBounds 7 true).setIfInBounds 8 true).setIfInBounds 9 true).setIfInBounds 10 true).setIfInBounds 11 true).setIfInBounds 12 true).setIfInBounds 13 true).setIfInBounds 14 true).setIfInBounds 15 true).setIfInBounds 16 true).setIfInBounds 17 true).setIfInBounds 18 true).setIfInBounds 19 true).setIfInBounds 20 true).setIfInBounds 21 true).setIfInBounds 22 true).setIfInBounds 23 true).setIfInBounds 24 true).setIfInBounds 25 true).setIfInBounds 26 true).setIfInBounds 27 true).setIfInBounds 28 true) 29 = true := by kernel_rfl
theorem sb_106_17_30 : softB op_106_17 #[true, true, true, true, true, true, true, true, true, true, true, true, true, true, true, true, true, true, true, true, true, true, true, true, true, true, true, true, true, true, true, true, true, true, true, true, true, true, true, true, true, true, true, true, true] (((((((((((((((((((((((((((((((Array.replicate 45 false).setIfInBounds 0 true).setIfInBounds 1 true).setIfInBounds 2 true).setIfInBounds 3 true).setIfInBounds 4 true).setIfInBounds 5 true).setIfInBounds 6 true).setIfInBounds 7 true).setIfInBounds 8 true).setIfInBounds 9 true).setIfInBounds 10 true).setIfInBounds 11 true).setIfInBounds 12 true).setIfInBounds 13 true).setIfInBounds 14 true).setIfInBounds 15 true).setIfInBounds 16 true).setIfInBounds 17 true).setIfInBounds 18 true).setIfInBounds 19 true).setIfInBounds 20 true).setIfInBounds 21 true).setIfInBounds 22 true).setIfInBounds 23 true).setIfInBounds 24 true).setIfInBounds 25 true).setIfInBounds 26 true).setIfInBounds 27 true).setIfInBounds 28 true).setIfInBounds 29 true) 30 = true := by kernel_rfl
theorem sb_106_17_31 : softB op_106_17 #[true, true, true, true, true, true, true, true, true, true, true, true, true, true, true, true, true, true, true, true, true, true, true, true, true, true, true, true, true, true, true, true, true, true, true, true, true, true, true, true, true, true, true, true, true] ((((((((((((((((((((((((((((((((Array.replicate 45 false).setIfInBounds 0 true).setIfInBounds 1 true).setIfInBounds 2 true).setIfInBounds 3 true).setIfInBounds 4 true).setIfInBounds 5 true).setIfInBounds 6 true).setIfInBounds 7 true).setIfInBounds 8 true).setIfInBounds 9 true).setIfInBounds 10 true).setIfInBounds 11 true).setIfInBounds 12 true).setIfInBounds 13 true).setIfInBounds 14 true).setIfInBounds 15 true).setIfInBounds 16 true).setIfInBounds 17 true).setIfInBounds 18 true).setIfInBounds 19 true).setIfInBounds 20 true).setIfInBounds 21 true).setIfInBounds 22 true).setIfInBounds 23 true).setIfInBounds 24 true).setIfInBounds 25 true).setIfInBounds 26 true).setIfInBounds 27 true).setIfInBounds 28 true).setIfInBounds 29 true).setIfInBounds 30 true) 31 = true := by kernel_rfl
theorem sb_106_17_32 : softB op_106_17 #[true, true, true, true, true, true, true, true, true, true, true, true, true, true, true, true, true, true, true, true, true, true, true, true, true, true, true, true, true, true, true, true, true, true, true, true, true, true, true, true, true, true, true, true, true] (((((((((((((((((((((((((((((((((Array.replicate 45 false).setIfInBounds 0 true).setIfInBounds 1 true).setIfInBounds 2 true).setIfInBounds 3 true).setIfInBounds 4 true).setIfInBounds 5 true).setIfInBounds 6 true).setIfInBounds 7 true).setIfInBounds 8 true).setIfInBounds 9 true).setIfInBounds 10 true).setIfInBounds 11 true).setIfInBounds 12 true).setIfInBounds 13 true).setIfInBounds 14 true).setIfInBounds 15 true).setIfInBounds 16 true).setIfInBounds 17 true).setIfInBounds 18 true).setIfInBounds 19 true).setIfInBounds 20 true).setIfInBounds 21 true).setIfInBounds 22 true).setIfInBounds 23 true).setIfInBounds 24 true).setIfInBounds 25 true).setIfInBounds 26 true).setIfInBounds 27 true).setIfInBounds 28 true).setIfInBounds 29 true).setIfInBounds 30 true).setIfInBounds 31 true) 32 = true := by kernel_rfl
theorem sb_106_17_33 : softB op_106_17 #[true, true, true, true, true, true, true, true, true, true, true, true, true, true, true, true, true, true, true, true, true, true, true, true, true, true, true, true, true, true, true, true, true, true, true, true, true, true, true, true, true, true, true, true, true] ((((((((((((((((((((((((((((((((((Array.replicate 45 false).setIfInBounds 0 true).setIfInBounds 1 true).setIfInBounds 2 true).setIfInBounds 3 true).setIfInBounds 4 true).setIfInBounds 5 true).setIfInBounds 6 true).setIfInBounds 7 true).setIfInBounds 8 true).setIfInBounds 9 true).setIfInBounds 10 true).setIfInBounds 11 true).setIfInBounds 12 true).setIfInBounds 13 true).setIfInBounds 14 true).setIfInBounds 15 true).setIfInBounds 16 true).setIfInBounds 17 true).setIfInBounds 18 true).setIfInBounds 19 true).setIfInBounds 20 true).setIfInBounds 21 true).setIfInBounds 22 true).setIfInBounds 23 true).setIfInBounds 24 true).setIfInBounds 25 true).setIfInBounds 26 true).setIfInBounds 27 true).setIfInBounds 28 true).setIfInBounds 29 true).setIfInBounds 30 true).setIfInBounds 31 true).setIfInBounds 32 true) 33 = true := by kernel_rfl
theorem sb_106_17_34 : softB op_106_17 #[true, true, true, true, true, true, true, true, true, true, true, true, true, true, true, true, true, true, true, true, true, true, true, true, true, true, true, true, true, true, true, true, true, true, true, true, true, true, true, true, true, true, true, true, true] (((((((((((((((((((((((((((((((((((Array.replicate 45 false).setIfInBounds 0 true).setIfInBounds 1 true).setIfInBounds 2 true).setIfInBounds 3 true).setIfInBounds 4 true).setIfInBounds 5 true).setIfInBounds 6 true).setIfInBounds 7 true).setIfInBounds 8 true).setIfInBounds 9 true).setIfInBounds 10 true).setIfInBounds 11 true).setIfInBounds 12 true).setIfInBounds 13 true).setIfInBounds 14 true).setIfInBounds 15 true).setIfInBounds 16 true).setIfInBounds 17 true).setIfInBounds 18 true).setIfInBounds 19 true).setIfInBounds 20 true).setIfInBounds 21 true).setIfInBounds 22 true).setIfInBounds 23 true).setIfInBounds 24 true).setIfInBounds 25 true).setIfInBounds 26 true).setIfInBounds 27 true).setIfInBounds 28 true).setIfInBounds 29 true).setIfInBounds 30 true).setIfInBounds 31 true).setIfInBounds 32 true).setIfInBounds 33 true) 34 = true := by kernel_rfl
theorem sb_106_17_35 : softB op_106_17 #[true, true, true, true, true, true, true, true, true, true, true, true, true, true, true, true, true, true, true, true, true, true, true, true, true, true, true, true, true, true, true, true, true, true, true, true, true, true, true, true, true, true, true, true, true] ((((((((((((((((((((((((((((((((((((Array.replicate 45 false).setIfInBounds 0 true).setIfInBounds 1 true).setIfInBounds 2 true).setIfInBounds 3 true).setIfInBounds 4 true).setIfInBounds 5 true).setIfInBounds 6 true).setIfInBounds 7 true).setIfInBounds 8 true).setIfInBounds 9 true).setIfInBounds 10 true).setIfInBounds 11 true).setIfInBounds 12 true).setIfInBounds 13 true).setIfInBounds 14 true).setIfInBounds 15 true).setIfInBounds 16 true).setIfInBounds 17 true).setIfInBounds 18 true).setIfInBounds 19 true).setIfInBounds 20 true).setIfInBounds 21 true).setIfInBounds 22 true).setIfInBounds 23 true).setIfInBounds 24 true).setIfInBounds 25 true).setIfInBounds 26 true).setIfInBounds 27 true).setIfInBounds 28 true).setIfInBounds 29 true).setIfInBounds 30 true).setIfInBounds 31 true).setIfInBounds 32 true).setIfInBounds 33 true).setIfInBounds 34 true) 35 = true := by kernel_rfl
theorem sb_106_17_36 : softB op_106_17 #[true, true, true, true, true, true, true, true, true, true, true, true, true, true, true, true, true, true, true, true, true, true, true, true, true, true, true, true, true, true, true, true, true, true, true, true, true, true, true, true, true, true, true, true, true] (((((((((((((((((((((((((((((((((((((Array.replicate 45 false).setIfInBounds 0 true).setIfInBounds 1 true).setIfInBounds 2 true).setIfInBounds 3 true).setIfInBounds 4 true).setIfInBounds 5 true).setIfInBounds 6 true).setIfInBounds 7 true).setIfInBounds 8 true).setIfInBounds 9 true).setIfInBounds 10 true).setIfInBounds 11 true).setIfInBounds 12 true).setIfInBounds 13 true).setIfInBounds 14 true).setIfInBounds 15 true).setIfInBounds 16 true).setIfInBounds 17 true).setIfInBounds 18 true).setIfInBounds 19 true).setIfInBounds 20 true).setIfInBounds 21 true).setIfInBounds 22 true).setIfInBounds 23 true).setIfInBounds 24 true).setIfInBounds 25 true).setIfInBounds 26 true).setIfInBounds 27 true).setIfInBounds 28 true).setIfInBounds 29 true).setIfInBounds 30 true).setIfInBounds 31 true).setIfInBounds 32 true).setIfInBounds 33 true).setIfInBounds 34 true).setIfInBounds 35 true) 36 = true := by kernel_rfl
theorem sb_106_17_37 : softB op_106_17 #[true, true, true, true, true, true, true, true, true, true, true, true, true, true, true, true, true, true, true, true, true, true, true, true, true, true, true, true, true, true, true, true, true, true, true, true, true, true, true, true, true, true, true, true, true] ((((((((((((((((((((((((((((((((((((((Array.replicate 45 false).setIfInBounds 0 true).setIfInBounds 1 true).setIfInBounds 2 true).setIfInBounds 3 true).setIfInBounds 4 true).setIfInBounds 5 true).setIfInBounds 6 true).setIfInBounds 7 true).setIfInBounds 8 true).setIfInBounds 9 true).setIfInBounds 10 true).setIfInBounds 11 true).setIfInBounds 12 true).setIfInBounds 13 true).setIfInBounds 14 true).setIfInBounds 15 true).setIfInBounds 16 true).setIfInBounds 17 true).setIfInBounds 18 true).setIfInBounds 19 true).setIfInBounds 20 true).setIfInBounds 21 true).setIfInBounds 22 true).setIfInBounds 23 true).setIfInBounds 24 true).setIfInBounds 25 true).setIfInBounds 26 true).setIfInBounds 27 true).setIfInBounds 28 true).setIfInBounds 29 true).setIfInBounds 30 true).setIfInBounds 31 true).setIfInBounds 32 true).setIfInBounds 33 true).setIfInBounds 34 true).setIfInBounds 35 true).setIfInBounds 36 true) 37 = true := by kernel_rfl
theorem sb_106_17_38 : softB op_106_17 #[true, true, true, true, true, true, true, true, true, true, true, true, true, true, true, true, true, true, true, true, true, true, true, true, true, true, true, true, true, true, true, true, true, true, true, true, true, true, true, true, true, true, true, true, true] (((((((((((((((((((((((((((((((((((((((Array.replicate 45 false).setIfInBounds 0 true).setIfInBounds 1 true).setIfInBounds 2 true).setIfInBounds 3 true).setIfInBounds 4 true).setIfInBounds 5 true).setIfInBounds 6 true).setIfInBounds 7 true).setIfInBounds 8 true).setIfInBounds 9 true).setIfInBounds 10 true).setIfInBounds 11 true).setIfInBounds 12 true).setIfInBounds 13 true).setIfInBounds 14 true).setIfInBounds 15 true).setIfInBounds 16 true).setIfInBounds 17 true).setIfInBounds 18 true).setIfInBounds 19 true).setIfInBounds 20 true).setIfInBounds 21 true).setIfInBounds 22 true).setIfInBounds 23 true).setIfInBounds 24 true).setIfInBounds 25 true).setIfInBounds 26 true).setIfInBounds 27 true).setIfInBounds 28 true).setIfInBounds 29 true).setIfInBounds 30 true).setIfInBounds 31 true).setIfInBounds 32 true).setIfInBounds 33 true).setIfInBounds 34 true).setIfInBounds 35 true).setIfInBounds 36 true).setIfInBounds 37 true) 38 = true := by kernel_rfl
theorem sb_106_17_39 : softB op_106_17 #[true, true, true, true, true, true, true, true, true, true, true, true, true, true, true, true, true, true, true, true, true, true, true, true, true, true, true, true, true, true, true, true, true, true, true, true, true, true, true, true, true, true, true, true, true] ((((((((((((((((((((((((((((((((((((((((Array.replicate 45 false).setIfInBounds 0 true).setIfInBounds 1 true).setIfInBounds 2 true).setIfInBounds 3 true).setIfInBounds 4 true).setIfInBounds 5 true).setIfInBounds 6 true).setIfInBounds 7 true).setIfInBounds 8 true).setIfInBounds 9 true).setIfInBounds 10 true).setIfInBounds 11 true).setIfInBounds 12 true).setIfInBounds 13 true).setIfInBounds 14 true).setIfInBounds 15 true).setIfInBounds 16 true).setIfInBounds 17 true).setIfInBounds 18 true).setIfInBounds 19 true).setIfInBounds 20 true).setIfInBounds 21 true).setIfInBounds 22 true).setIfInBounds 23 true).setIfInBounds 24 true).setIfInBounds 25 true).setIfInBounds 26 true).setIfInBounds 27 true).setIfInBounds 28 true).setIfInBounds 29 true).setIfInBounds 30 true).setIfInBounds 31 true).setIfInBounds 32 true).setIfInBounds 33 true).setIfInBounds 34 true).setIfInBounds 35 true).setIfInBounds 36 true).setIfInBounds 37 true).setIfInBounds 38 true) 39 = true := by kernel_rfl
theorem sb_106_17_40 : softB op_106_17 #[true, true, true, true, true, true, true, true, true, true, true, true, true, true, true, true, true, true, true, true, true, true, true, true, true, true, true, true, true, true, true, true, true, true, true, true, true, true, true, true, true, true, true, true, true] (((((((((((((((((((((((((((((((((((((((((Array.replicate 45 false).setIfInBounds 0 true).setIfInBounds 1 true).setIfInBounds 2 true).setIfInBounds 3 true).setIfInBounds 4 true).setIfInBounds 5 true).setIfInBounds 6 true).setIfInBounds 7 true).setIfInBounds 8 true).setIfInBounds 9 true).setIfInBounds 10 true).setIfInBounds 11 true).setIfInBounds 12 true).setIfInBounds 13 true).setIfInBounds 14 true).setIfInBounds 15 true).setIfInBounds 16 true).setIfInBounds 17 true).setIfInBounds 18 true).setIfInBounds 19 true).setIfInBounds 20 true).setIfInBounds 21 true).setIfInBounds 22 true).setIfInBounds 23 true).setIfInBounds 24 true).setIfInBounds 25 true).setIfInBounds 26 true).setIfInBounds 27 true).setIfInBounds 28 true).setIfInBounds 29 true).setIfInBounds 30 true).setIfInBounds 31 true).setIfInBounds 32 true).setIfInBounds 33 true).setIfInBounds 34 true).setIfInBounds 35 true).setIfInBounds 36 true).setIfInBounds 37 true).setIfInBounds 38 true).setIfInBounds 39 true) 40 = true := by kernel_rfl
theorem sb_106_17_41 : softB op_106_17 #[true, true, true, true, true, true, true, true, true, true, true, true, true, true, true, true, true, true, true, true, true, true, true, true, true, true, true, true, true, true, true, true, true, true, true, true, true, true, true, true, true, true, true, true, true] ((((((((((((((((((((((((((((((((((((((((((Array.replicate 45 false).setIfInBounds 0 true).setIfInBounds 1 true).setIfInBounds 2 true).setIfInBounds 3 true).setIfInBounds 4 true).setIfInBounds 5 true).setIfInBounds 6 true).setIfInBounds 7 true).setIfInBounds 8 true).setIfInBounds 9 true).setIfInBounds 10 true).setIfInBounds 11 true).setIfInBounds 12 true).setIfInBounds 13 true).setIfInBounds 14 true).setIfInBounds 15 true).setIfInBounds 16 true).setIfInBounds 17 true).setIfInBounds 18 true).setIfInBounds 19 true).setIfInBounds 20 true).setIfInBounds 21 true).setIfInBounds 22 true).setIfInBounds 23 true).setIfInBounds 24 true).setIfInBounds 25 true).setIfInBounds 26 true).setIfInBounds 27 true).setIfInBounds 28 true).setIfInBounds 29 true).setIfInBounds 30 true).setIfInBounds 31 true).setIfInBounds 32 true).setIfInBounds 33 true).setIfInBounds 34 true).setIfInBounds 35 true).setIfInBounds 36 true).setIfInBounds 37 true).setIfInBounds 38 true).setIfInBounds 39 true).setIfInBounds 40 true) 41 = true := by kernel_rfl
theorem sb_106_17_42 : softB op_106_17 #[true, true, true, true, true, true, true, true, true, true, true, true, true, true, true, true, true, true, true, true, true, true, true, true, true, true, true, true, true, true, true, true, true, true, true, true, true, true, true, true, true, true, true, true, true] (((((((((((((((((((((((((((((((((((((((((((Array.replicate 45 false).setIfInBounds 0 true).setIfInBounds 1 true).setIfInBounds 2 true).setIfInBounds 3 true).setIfInBounds 4 true).setIfInBounds 5 true).setIfInBounds 6 true).setIfInBounds 7 true).setIfInBounds 8 true).setIfInBounds 9 true).setIfInBounds 10 true).setIfInBounds 11 true).setIfInBounds 12 true).setIfInBounds 13 true).setIfInBounds 14 true).setIfInBounds 15 true).setIfInBounds 16 true).setIfInBounds 17 true).setIfInBounds 18 true).setIfInBounds 19 true).setIfInBounds 20 true).setIfInBounds 21 true).setIfInBounds 22 true).setIfInBounds 23 true).setIfInBounds 24 true).setIfInBounds 25 true).setIfInBounds 26 true).setIfInBounds 27 true).setIfInBounds 28 true).setIfInBounds 29 true).setIfInBounds 30 true).setIfInBounds 31 true).setIfInBounds 32 true).setIfInBounds 33 true).setIfInBounds 34 true).setIfInBounds 35 true).setIfInBounds 36 true).setIfInBounds 37 true).setIfInBounds 38 true).setIfInBounds 39 true).setIfInBounds 40 true).setIfInBounds 41 true) 42 = true := by kernel_rfl
theorem sb_106_17_43 : softB op_106_17 #[true, true, true, true, true, true, true, true, true, true, true, true, true, true, true, true, true, true, true, true, true, true, true, true, true, true, true, true, true, true, true, true, true, true, true, true, true, true, true, true, true, true, true, true, true] ((((((((((((((((((((((((((((((((((((((((((((Array.replicate 45 false).setIfInBounds 0 true).setIfInBounds 1 true).setIfInBounds 2 true).setIfInBounds 3 true).setIfInBounds 4 true).setIfInBounds 5 true).setIfInBounds 6 true).setIfInBounds 7 true).setIfInBounds 8 true).setIfInBounds 9 true).setIfInBounds 10 true).setIfInBounds 11 true).setIfInBounds 12 true).setIfInBounds 13 true).setIfInBounds 14 true).setIfInBounds 15 true).setIfInBounds 16 true).setIfInBounds 17 true).setIfInBounds 18 true).setIfInBounds 19 true).setIfInBounds 20 true).setIfInBounds 21 true).setIfInBounds 22 true).setIfInBounds 23 true).setIfInBounds 24 true).setIfInBounds 25 true).setIfInBounds 26 true).setIfInBounds 27 true).setIfInBounds 28 true).setIfInBounds 29 true).setIfInBounds 30 true).setIfInBounds 31 true).setIfInBounds 32 true).setIfInBounds 33 true).setIfInBounds 34 true).setIfInBounds 35 true).setIfInBounds 36 true).setIfInBounds 37 true).setIfInBounds 38 true).setIfInBounds 39 true).setIfInBounds 40 true).setIfInBounds 41 true).setIfInBounds 42 true) 43 = true := by kernel_rfl
theorem sb_106_17_44 : softB op_106_17 #[true, true, true, true, true, true, true, true, true, true, true, true, true, true, true, true, true, true, true, true, true, true, true, true, true, true, true, true, true, true, true, true, true, true, true, true, true, true, true, true, true, true, true, true, true] (((((((((((((((((((((((((((((((((((((((((((((Array.replicate 45 false).setIfInBounds 0 true).setIfInBounds 1 true).setIfInBounds 2 true).setIfInBounds 3 true).setIfInBounds 4 true).setIfInBounds 5 true).setIfInBounds 6 true).setIfInBounds 7 true).setIfInBounds 8 true).setIfInBounds 9 true).setIfInBounds 10 true).setIfInBounds 11 true).setIfInBounds 12 true).setIfInBounds 13 true).setIfInBounds 14 true).setIfInBounds 15 true).setIfInBounds 16 true).setIfInBounds 17 true).setIfInBounds 18 true).setIfInBounds 19 true).setIfInBounds 20 true).setIfInBounds 21 true).setIfInBounds 22 true).setIfInBounds 23 true).setIfInBounds 24 true).setIfInBounds 25 true).setIfInBounds 26 true).setIfInBounds 27 true).setIfInBounds 28 true).setIfInBounds 29 true).setIfInBounds 30 true).setIfInBounds 31 true).setIfInBounds 32 true).setIfInBounds 33 true).setIfInBounds 34 true).setIfInBounds 35 true).setIfInBounds 36 true).setIfInBounds 37 true).setIfInBounds 38 true).setIfInBounds 39 true).setIfInBounds 40 true).setIfInBounds 41 true).setIfInBounds 42 true).setIfInBounds 43 true) 44 = true := by kernel_rfl
theorem sb_106_17_45 : hardB op_106_17 ((((((((((((((((((((((((((((((((((((((((((((((Array.replicate 45 false).setIfInBounds 0 true).setIfInBounds 1 true).setIfInBounds 2 true).setIfInBounds 3 true).setIfInBounds 4 true).setIfInBounds 5 true).setIfInBounds 6 true).setIfInBounds 7 true).setIfInBounds 8 true).setIfInBounds 9 true).setIfInBounds 10 true).setIfInBounds 11 true).setIfInBounds 12 true).setIfInBounds 13 true).setIfInBounds 14 true).setIfInBounds 15 true).setIfInBounds 16 true).setIfInBounds 17 true).setIfInBounds 18 true).setIfInBounds 19 true).setIfInBounds 20 true).setIfInBounds 21 true).setIfInBounds 22 true).setIfInBounds 23 true).setIfInBounds 24 true).setIfInBounds 25 true).setIfInBounds 26 true).setIfInBounds 27 true).setIfInBounds 28 true).setIfInBounds 29 true).setIfInBounds 30 true).setIfInBounds 31 true).setIfInBounds 32 true).setIfInBounds 33 true).setIfInBounds 34 true).setIfInBounds 35 true).setIfInBounds 36 true).setIfInBounds 37 true).setIfInBounds 38 true).setIfInBounds 39 true).setIfInBounds 40 true).setIfInBounds 41 true).setIfInBounds 42 true).setIfInBounds 43 true).setIfInBounds 44 true) [] = true := by kernel_rfl
/- (*objects.Store).Check -/
def m106_w1 (n : Nat) (s : Store) (d : Dev) (mm : Nat) : Int → Int → Int → Store → Option (Flow (Bool) (Int × Int × Int × Store)) := it4 (fun lp1 c1 c2 c3 z1 =>
cond (decide (c3 ≤ 48)) (
Option.bind (ckA c3 49) fun _ =>
nm ((s.tab c3) : Entr) fun z3 =>
cond (decide (z3.state = 0)) (
cond (((((decide (¬ (z3.kind = 0))) || (decide (¬ (z3.size = 0)))) || (decide (¬ (z3.first = 0)))) || (decide (¬ (z3.hash = 0)))) || (decide (¬ (z3.nxt = 0)))) (
Option.bind (some false) fun q1 => some (.ret q1)) (
ob1 (m190 n s c3) fun c7 =>
cond c7 (
lp1 (wi (c1 + 1)) (wi (c2 + 1)) (wi (c3 + 1)) z1) (
lp1 (wi (c1 + 1)) c2 (wi (c3 + 1)) z1))) (
cond ((decide (z3.state < 0)) || (decide ((3 : Int) < z3.state))) (
Option.bind (some false) fun q2 => some (.ret q2)) (
ob2 (m189 n s d z1 z3) fun c8 z4 =>
cond (!c8) (
Option.bind (some false) fun q3 => some (.ret q3)) (
ob1 (m190 n s c3) fun c9 =>
cond c9 (
lp1 c1 (wi (c2 + 1)) (wi (c3 + 1)) z4) (
lp1 c1 c2 (wi (c3 + 1)) z4))))) (
some (.nx (c1, c2, c3, z1)))) mm
def m106 (n : Nat) (s : Store) (d : Dev) : Option (Bool) :=
flow (m106_w1 n s d n 0 0 1 Store.zero) some (un4 fun c4 c5 c6 z2 =>
cond ((((decide (¬ (c4 = s.nfree))) || (decide (¬ ((z2.used 0) = (s.used 0))))) || (decide (¬ ((z2.used 1) = (s.used 1))))) || (decide (¬ ((z2.used 2) = (s.used 2))))) (
some false) (
ob1 (m191 n s d) fun c10 =>
cond (!c10) (
some false) (
ob1 (m192 n s c5) fun c11 =>
cond (!c11) (
some false) (
ob1 (m193 n s d) fun c12 =>
some c12))))
theorem t106 {n : Nat} {C : List Chunk} {rc1 : Bool} {b1 : Nat} {s : Store} {b2 : Nat} {d : Dev} {v1 : Value} {g1 : List Chunk} {v2 : Value} {g2 : List Chunk} {v3 : Value} {g3 : List Chunk} {v4 : Value} {g4 : List Chunk} (ho1 : Own rByte v1 d.blk g1) (ho2 : Own rByte v2 d.base g2) (ho3 : Own rInt v3 d.at_ g3) (ho4 : Own rByte v4 d.data g4)  (hm : m106 n s d = some rc1) : Trip Tryz.prog 106 #[.pointer (some ⟨b1, 0, none⟩)] ([[(b1, .cells (Store.enc (.pointer (some ⟨b2, 0, none⟩)) s).toArray 126 (0, 0))], [(b2, .cells (Dev.enc (v1) (v2) (v3) (v4) d).toArray 85 (0, 0))], g1, g2, g3, g4] ++ [C]) (fun u S' => .bool rc1 = u ∧ S' = [[(b1, .cells (Store.enc (.pointer (some ⟨b2, 0, none⟩)) s).toArray 126 (0, 0))], [(b2, .cells (Dev.enc (v1) (v2) (v3) (v4) d).toArray 85 (0, 0))], g1, g2, g3, g4] ++ [C]) := by
  refine fn_entry (args := [.pointer (some ⟨b1, 0, none⟩)]) Tryz.func106 rfl Tryz.ntmps106 rfl (fun w0 => ?_)
  refine c_seq ?_
  refine c_region ?_
  refine o_L (y_assign rfl) rfl rfl ?_
  refine o_nil0 rfl ?_
  refine c_seq ?_
  refine c_region ?_
  refine o_T (y_build st_126 rfl fbU0) rfl ?_
  refine o_box rfl rfl rfl rfl (fun b3 => ?_)
  refine o_L (y_assign rfl) rfl rfl ?_
  refine o_nil0 rfl ?_
  refine c_seq ?_
  refine c_region ?_
  refine o_L (y_assign rfl) rfl rfl ?_
  refine o_L (y_assign rfl) rfl rfl ?_
  refine o_nil0 rfl ?_
  refine c_seq ?_
  refine c_seq ?_
  refine c_region ?_
  refine o_L (y_assign rfl) rfl rfl ?_
  refine o_nil0 rfl ?_
  obtain ⟨f1, F1, hF1, hj1, hF2⟩ := fl2 hm
  refine c_joinP (n := 1) (fun sh G => ∃ (c4 : Int), ∃ (c5 : Int), ∃ (c6 : Int), ∃ (z2 : Store), sh = [(4, .int .i64 c4), (5, .int .i64 c5), (6, .int .i64 c6)] ∧ G = [[(b3, .cells (Store.enc (.pointer none) z2).toArray 126 (0, 0))]] ∧ F1 (c4, c5, c6, z2) = some rc1) (s_take (s_take (s_take (s_take (s_take (s_take (s_take (s_take s_nil)))))))) (.s .z) (fun _ _ h => h) ?_ ?_
  · skip
    refine c_block ?_
    refine c_loopP (n := 1) (fun mm sh G => ∃ (c1 : Int), ∃ (c2 : Int), ∃ (c3 : Int), ∃ (z1 : Store), sh = [(4, .int .i64 c1), (5, .int .i64 c2), (6, .int .i64 c3)] ∧ G = [[(b3, .cells (Store.enc (.pointer none) z1).toArray 126 (0, 0))]] ∧ m106_w1 n s d mm c1 c2 c3 z1 = some f1) n (s_take (s_take (s_take (s_take (s_take (s_take (s_take (s_take s_nil)))))))) (.s .z) ⟨_, _, ⟨_, _, _, _, rfl, rfl, hj1⟩, ⟨rfl, rfl, rfl, trivial⟩, _, (s_take (s_take (s_take (s_take (s_take (s_take (s_take (s_take s_nil))))))))⟩ ?_
    rintro mm sh G ⟨c1, c2, c3, z1, rfl, rfl, hm⟩
    obtain ⟨mm1, rfl, hm⟩ := it4_s hm
    refine c_seq ?_
    refine c_seq ?_
    refine c_region ?_
    refine o_T (y_move rfl) rfl ?_
    refine o_T (y_leq rfl rfl) rfl ?_
    refine o_nil1 11 rfl rfl ?_
    refine c_cond rfl (fun h1 => ?_) (fun h1 => ?_)
    · have hm := cd_t h1 hm
      refine c_skip ?_
      refine c_seq ?_
      refine c_block ?_
      refine c_seq ?_
      refine c_region ?_
      refine o_T (y_move rfl) rfl ?_
      refine o_T (y_move rfl) rfl ?_
      refine o_T (y_nilck rfl) rfl ?_
      refine o_T (y_fa fl_126_1 rfl) rfl ?_
      obtain ⟨_, hx1, hm⟩ := bd hm
      have hx1 := ckA_some hx1
      refine o_T (y_ia ar_121 rfl rfl hx1.1 hx1.2) rfl ?_
      refine o_lda ag_120 rfl (ms m0) (At.exs ((At.refl.comp Store.a_tab).comp (encN_a Entr.len _ _ hx1.1 _ hx1.2)) (Entr.len _)) (At.fits ((At.refl.comp Store.a_tab).comp (encN_a Entr.len _ _ hx1.1 _ hx1.2)) (Entr.len _)) rfl ?_
      refine o_alloc ze_120 rfl rfl (fun b4 => ?_)
      obtain ⟨z3, hn1, hm⟩ := nm_s hm
      refine o_stNA ag_120 rfl rfl (Entr.plain _) (Entr.len _) (Upd.refl ((Entr.len _).trans (Entr.len _).symm)) r0 (show (Entr.enc z3) = _ from by subst hn1; rfl) ?_
      refine o_nil0 rfl ?_
      refine c_seq ?_
      refine c_seq ?_
      refine c_region ?_
      refine o_T (y_fa fl_120_0 rfl) rfl ?_
      refine o_ld one_3 rfl m0 (At.got (At.refl.comp Entr.a_state)) rfl ?_
      refine o_T (y_eql rfl rfl) rfl ?_
      refine o_nil1 22 rfl rfl ?_
      refine c_cond rfl (fun h2 => ?_) (fun h2 => ?_)
      · have hm := cd_t h2 hm
        refine c_seq ?_
        refine c_region ?_
        refine o_T (y_move rfl) rfl ?_
        refine o_T (y_add rfl rfl rfl) rfl ?_
        refine o_L (y_assign rfl) rfl rfl ?_
        refine o_nil0 rfl ?_
        refine c_seq ?_
        refine c_joinP (n := 0) (fun sh G => sh = [(47, .bool (((((decide (¬ (z3.kind = 0))) || (decide (¬ (z3.size = 0)))) || (decide (¬ (z3.first = 0)))) || (decide (¬ (z3.hash = 0)))) || (decide (¬ (z3.nxt = 0)))))] ∧ G = []) Sel.all' .z (fun _ _ h => h) ?_ ?_
        · skip
          refine c_region ?_
          refine o_T (y_fa fl_120_1 rfl) rfl ?_
          refine o_ld one_3 rfl m0 (At.got (At.refl.comp Entr.a_kind)) rfl ?_
          refine o_T (y_neq rfl rfl) rfl ?_
          refine o_T (y_move rfl) rfl ?_
          refine o_split 28 rfl (fun h3 => ?_) (fun h3 => ?_)
          · skip
            refine o_pass rfl rfl rfl rfl rfl ?_
            refine o_pass rfl rfl rfl rfl rfl ?_
            refine o_pass rfl rfl rfl rfl rfl ?_
            refine o_T (y_pickT rfl rfl) rfl ?_
            refine o_T (y_move rfl) rfl ?_
            refine o_pass rfl rfl rfl rfl rfl ?_
            refine o_pass rfl rfl rfl rfl rfl ?_
            refine o_pass rfl rfl rfl rfl rfl ?_
            refine o_T (y_pickT rfl rfl) rfl ?_
            refine o_T (y_move rfl) rfl ?_
            refine o_pass rfl rfl rfl rfl rfl ?_
            refine o_pass rfl rfl rfl rfl rfl ?_
            refine o_pass rfl rfl rfl rfl rfl ?_
            refine o_T (y_pickT rfl rfl) rfl ?_
            refine o_T (y_move rfl) rfl ?_
            refine o_pass rfl rfl rfl rfl rfl ?_
            refine o_pass rfl rfl rfl rfl rfl ?_
            refine o_pass rfl rfl rfl rfl rfl ?_
            refine o_T (y_pickT rfl rfl) rfl ?_
            refine o_nil1 47 rfl rfl ?_
            refine ⟨_, _, ⟨rfl, rfl⟩, ⟨by first | rfl | exact gtb rfl (by simp only [h3, Bool.true_and, Bool.false_and, Bool.true_or, Bool.false_or, Bool.and_true, Bool.and_false, Bool.or_true, Bool.or_false, Bool.not_true, Bool.not_false]), trivial⟩, ⟨rfl, rfl⟩, _, (s_take (s_take (s_take (s_take (s_take (s_take (s_take (s_take (s_take s_nil)))))))))⟩
          · skip
            refine o_take rfl rfl rfl ?_
            refine o_T (y_fa fl_120_2 rfl) rfl ?_
            refine o_take rfl rfl rfl ?_
            refine o_ld one_3 rfl m0 (At.got (At.refl.comp Entr.a_size)) rfl ?_
            refine o_take rfl rfl rfl ?_
            refine o_T (y_neq rfl rfl) rfl ?_
            refine o_T (y_pickF rfl rfl) rfl ?_
            refine o_T (y_move rfl) rfl ?_
            refine o_split 33 rfl (fun h4 => ?_) (fun h4 => ?_)
            · skip
              refine o_pass rfl rfl rfl rfl rfl ?_
              refine o_pass rfl rfl rfl rfl rfl ?_
              refine o_pass rfl rfl rfl rfl rfl ?_
              refine o_T (y_pickT rfl rfl) rfl ?_
              refine o_T (y_move rfl) rfl ?_
              refine o_pass rfl rfl rfl rfl rfl ?_
              refine o_pass rfl rfl rfl rfl rfl ?_
              refine o_pass rfl rfl rfl rfl rfl ?_
              refine o_T (y_pickT rfl rfl) rfl ?_
              refine o_T (y_move rfl) rfl ?_
              refine o_pass rfl rfl rfl rfl rfl ?_
              refine o_pass rfl rfl rfl rfl rfl ?_
              refine o_pass rfl rfl rfl rfl rfl ?_
              refine o_T (y_pickT rfl rfl) rfl ?_
              refine o_nil1 47 rfl rfl ?_
              refine ⟨_, _, ⟨rfl, rfl⟩, ⟨by first | rfl | exact gtb rfl (by simp only [h3, h4, Bool.true_and, Bool.false_and, Bool.true_or, Bool.false_or, Bool.and_true, Bool.and_false, Bool.or_true, Bool.or_false, Bool.not_true, Bool.not_false]), trivial⟩, ⟨rfl, rfl⟩, _, (s_take (s_take (s_take (s_take (s_take (s_take (s_take (s_take (s_take s_nil)))))))))⟩
            · skip
              refine o_take rfl rfl rfl ?_
              refine o_T (y_fa fl_120_3 rfl) rfl ?_
              refine o_take rfl rfl rfl ?_
              refine o_ld one_3 rfl m0 (At.got (At.refl.comp Entr.a_first)) rfl ?_
              refine o_take rfl rfl rfl ?_
              refine o_T (y_neq rfl rfl) rfl ?_
              refine o_T (y_pickF rfl rfl) rfl ?_
              refine o_T (y_move rfl) rfl ?_
              refine o_split 38 rfl (fun h5 => ?_) (fun h5 => ?_)
              · skip
                refine o_pass rfl rfl rfl rfl rfl ?_
                refine o_pass rfl rfl rfl rfl rfl ?_
                refine o_pass rfl rfl rfl rfl rfl ?_
                refine o_T (y_pickT rfl rfl) rfl ?_
                refine o_T (y_move rfl) rfl ?_
                refine o_pass rfl rfl rfl rfl rfl ?_
                refine o_pass rfl rfl rfl rfl rfl ?_
                refine o_pass rfl rfl rfl rfl rfl ?_
                refine o_T (y_pickT rfl rfl) rfl ?_
                refine o_nil1 47 rfl rfl ?_
                refine ⟨_, _, ⟨rfl, rfl⟩, ⟨by first | rfl | exact gtb rfl (by simp only [h3, h4, h5, Bool.true_and, Bool.false_and, Bool.true_or, Bool.false_or, Bool.and_true, Bool.and_false, Bool.or_true, Bool.or_false, Bool.not_true, Bool.not_false]), trivial⟩, ⟨rfl, rfl⟩, _, (s_take (s_take (s_take (s_take (s_take (s_take (s_take (s_take (s_take s_nil)))))))))⟩
              · skip
                refine o_take rfl rfl rfl ?_
                refine o_T (y_fa fl_120_4 rfl) rfl ?_
                refine o_take rfl rfl rfl ?_
                refine o_ld one_118 rfl m0 (At.got (At.refl.comp Entr.a_hash)) rfl ?_
                refine o_take rfl rfl rfl ?_
                refine o_T (y_neq rfl rfl) rfl ?_
                refine o_T (y_pickF rfl rfl) rfl ?_
                refine o_T (y_move rfl) rfl ?_
                refine o_split 43 rfl (fun h6 => ?_) (fun h6 => ?_)
                · skip
                  refine o_pass rfl rfl rfl rfl rfl ?_
                  refine o_pass rfl rfl rfl rfl rfl ?_
                  refine o_pass rfl rfl rfl rfl rfl ?_
                  refine o_T (y_pickT rfl rfl) rfl ?_
                  refine o_nil1 47 rfl rfl ?_
                  refine ⟨_, _, ⟨rfl, rfl⟩, ⟨by first | rfl | exact gtb rfl (by simp only [h3, h4, h5, h6, Bool.true_and, Bool.false_and, Bool.true_or, Bool.false_or, Bool.and_true, Bool.and_false, Bool.or_true, Bool.or_false, Bool.not_true, Bool.not_false]), trivial⟩, ⟨rfl, rfl⟩, _, (s_take (s_take (s_take (s_take (s_take (s_take (s_take (s_take (s_take s_nil)))))))))⟩
                · skip
                  refine o_take rfl rfl rfl ?_
                  refine o_T (y_fa fl_120_5 rfl) rfl ?_
                  refine o_take rfl rfl rfl ?_
                  refine o_ld one_3 rfl m0 (At.got (At.refl.comp Entr.a_nxt)) rfl ?_
                  refine o_take rfl rfl rfl ?_
                  refine o_T (y_neq rfl rfl) rfl ?_
                  refine o_T (y_pickF rfl rfl) rfl ?_
                  refine o_nil1 47 rfl rfl ?_
                  refine ⟨_, _, ⟨rfl, rfl⟩, ⟨by first | rfl | exact gtb rfl (by simp only [h3, h4, h5, h6, Bool.true_and, Bool.false_and, Bool.true_or, Bool.false_or, Bool.and_true, Bool.and_false, Bool.or_true, Bool.or_false, Bool.not_true, Bool.not_false]), trivial⟩, ⟨rfl, rfl⟩, _, (s_take (s_take (s_take (s_take (s_take (s_take (s_take (s_take (s_take s_nil)))))))))⟩
        · rintro sh G ⟨rfl, rfl⟩
          refine c_cond rfl (fun h7 => ?_) (fun h7 => ?_)
          · have hm := cd_t h7 hm
            refine c_seq ?_
            refine c_region ?_
            refine o_L (y_assign rfl) rfl rfl ?_
            refine o_nil0 rfl ?_
            refine c_ret ?_
            obtain ⟨q1, hq1, hm⟩ := bd hm
            have hm := fl_ret hm hF2
            have hm := hq1.trans hm
            obtain rfl := p1 hm
            refine fun aX wX heX hsX => ret1 Tryz.results106 heX rfl (s_skip (s_skip (s_take (s_take (s_take (s_take (s_take (s_take (s_take s_nil))))))))) ?_
            exact ⟨rfl, rfl⟩
          · have hm := cd_f h7 hm
            refine c_skip ?_
            refine c_seq ?_
            refine c_region ?_
            refine o_T (y_move rfl) rfl ?_
            refine o_T (y_move rfl) rfl ?_
            obtain ⟨c7, hx2, hm⟩ := bd1 hm
            refine o_callC en_190 rfl (s_skip (s_skip (s_take s_nil))) (t190 hx2) rfl (fun u1 S1 hR1 => ?_)
            obtain ⟨rfl, rfl⟩ := hR1
            refine o_rest ?_
            refine o_nil1 63 rfl rfl ?_
            refine c_cond rfl (fun h8 => ?_) (fun h8 => ?_)
            · have hm := cd_t h8 hm
              refine c_region ?_
              refine o_T (y_move rfl) rfl ?_
              refine o_T (y_add rfl rfl rfl) rfl ?_
              refine o_L (y_assign rfl) rfl rfl ?_
              refine o_nil0 rfl ?_
              refine c_region ?_
              refine o_T (y_move rfl) rfl ?_
              refine o_T (y_add rfl rfl rfl) rfl ?_
              refine o_L (y_assign rfl) rfl rfl ?_
              refine o_nil0 rfl ?_
              exact ⟨mm1, Nat.lt_succ_self _, _, _, ⟨_, _, _, _, rfl, rfl, hm⟩, ⟨rfl, rfl, rfl, trivial⟩, ⟨rfl, rfl⟩, _, (s_get (ks (ks k0)) (s_take (s_skip (s_take (s_take (s_take (s_take (s_take (s_take s_nil)))))))))⟩
            · have hm := cd_f h8 hm
              refine c_skip ?_
              refine c_region ?_
              refine o_T (y_move rfl) rfl ?_
              refine o_T (y_add rfl rfl rfl) rfl ?_
              refine o_L (y_assign rfl) rfl rfl ?_
              refine o_nil0 rfl ?_
              exact ⟨mm1, Nat.lt_succ_self _, _, _, ⟨_, _, _, _, rfl, rfl, hm⟩, ⟨rfl, rfl, rfl, trivial⟩, ⟨rfl, rfl⟩, _, (s_get (ks (ks k0)) (s_take (s_skip (s_take (s_take (s_take (s_take (s_take (s_take s_nil)))))))))⟩
      · have hm := cd_f h2 hm
        refine c_seq ?_
        refine c_seq ?_
        refine c_joinP (n := 0) (fun sh G => sh = [(55, .bool ((decide (z3.state < 0)) || (decide ((3 : Int) < z3.state))))] ∧ G = []) Sel.all' .z (fun _ _ h => h) ?_ ?_
        · skip
          refine c_region ?_
          refine o_T (y_fa fl_120_0 rfl) rfl ?_
          refine o_ld one_3 rfl m0 (At.got (At.refl.comp Entr.a_state)) rfl ?_
          refine o_T (y_lss rfl rfl) rfl ?_
          refine o_T (y_move rfl) rfl ?_
          refine o_split 51 rfl (fun h9 => ?_) (fun h9 => ?_)
          · skip
            refine o_pass rfl rfl rfl rfl rfl ?_
            refine o_pass rfl rfl rfl rfl rfl ?_
            refine o_pass rfl rfl rfl rfl rfl ?_
            refine o_T (y_pickT rfl rfl) rfl ?_
            refine o_nil1 55 rfl rfl ?_
            refine ⟨_, _, ⟨rfl, rfl⟩, ⟨by first | rfl | exact gtb rfl (by simp only [h9, Bool.true_and, Bool.false_and, Bool.true_or, Bool.false_or, Bool.and_true, Bool.and_false, Bool.or_true, Bool.or_false, Bool.not_true, Bool.not_false]), trivial⟩, ⟨rfl, rfl⟩, _, (s_take (s_take (s_take (s_take (s_take (s_take (s_take (s_take (s_take s_nil)))))))))⟩
          · skip
            refine o_take rfl rfl rfl ?_
            refine o_T (y_fa fl_120_0 rfl) rfl ?_
            refine o_take rfl rfl rfl ?_
            refine o_ld one_3 rfl m0 (At.got (At.refl.comp Entr.a_state)) rfl ?_
            refine o_take rfl rfl rfl ?_
            refine o_T (y_gtr rfl rfl) rfl ?_
            refine o_T (y_pickF rfl rfl) rfl ?_
            refine o_nil1 55 rfl rfl ?_
            refine ⟨_, _, ⟨rfl, rfl⟩, ⟨by first | rfl | exact gtb rfl (by simp only [h9, Bool.true_and, Bool.false_and, Bool.true_or, Bool.false_or, Bool.and_true, Bool.and_false, Bool.or_true, Bool.or_false, Bool.not_true, Bool.not_false]), trivial⟩, ⟨rfl, rfl⟩, _, (s_take (s_take (s_take (s_take (s_take (s_take (s_take (s_take (s_take s_nil)))))))))⟩
        · rintro sh G ⟨rfl, rfl⟩
          refine c_cond rfl (fun h10 => ?_) (fun h10 => ?_)
          · have hm := cd_t h10 hm
            refine c_seq ?_
            refine c_region ?_
            refine o_L (y_assign rfl) rfl rfl ?_
            refine o_nil0 rfl ?_
            refine c_ret ?_
            obtain ⟨q2, hq2, hm⟩ := bd hm
            have hm := fl_ret hm hF2
            have hm := hq2.trans hm
            obtain rfl := p1 hm
            refine fun aX wX heX hsX => ret1 Tryz.results106 heX rfl (s_skip (s_skip (s_take (s_take (s_take (s_take (s_take (s_take (s_take s_nil))))))))) ?_
            exact ⟨rfl, rfl⟩
          · have hm := cd_f h10 hm
            refine c_skip ?_
            refine c_seq ?_
            refine c_region ?_
            refine o_T (y_move rfl) rfl ?_
            refine o_lda ag_120 rfl m0 (At.exs At.refl (Entr.len _)) (At.fits At.refl (Entr.len _)) rfl ?_
            refine o_T (y_move rfl) rfl ?_
            obtain ⟨c8, z4, hx3, hm⟩ := bd2 hm
            refine o_callC en_189 rfl (s_skip (s_get (ks k0) (s_get (ks k0) (s_get (ks k0) (s_get (ks k0) (s_get (ks k0) (s_get (ks k0) (s_take s_nil)))))))) (t189 ho1 ho2 ho3 ho4 hx3) rfl (fun u2 S2 hR2 => ?_)
            obtain ⟨rfl, rfl⟩ := hR2
            refine o_rest ?_
            refine o_T (y_not rfl) rfl ?_
            refine o_nil1 60 rfl rfl ?_
            refine c_cond rfl (fun h11 => ?_) (fun h11 => ?_)
            · have hm := cd_t h11 hm
              refine c_seq ?_
              refine c_region ?_
              refine o_L (y_assign rfl) rfl rfl ?_
              refine o_nil0 rfl ?_
              refine c_ret ?_
              obtain ⟨q3, hq3, hm⟩ := bd hm
              have hm := fl_ret hm hF2
              have hm := hq3.trans hm
              obtain rfl := p1 hm
              refine fun aX wX heX hsX => ret1 Tryz.results106 heX rfl (s_take (s_take (s_take (s_take (s_take (s_take (s_skip (s_skip (s_take s_nil))))))))) ?_
              exact ⟨rfl, rfl⟩
            · have hm := cd_f h11 hm
              refine c_skip ?_
              refine c_seq ?_
              refine c_region ?_
              refine o_T (y_move rfl) rfl ?_
              refine o_T (y_move rfl) rfl ?_
              obtain ⟨c9, hx4, hm⟩ := bd1 hm
              refine o_callC en_190 rfl (s_take s_nil) (t190 hx4) rfl (fun u3 S3 hR3 => ?_)
              obtain ⟨rfl, rfl⟩ := hR3
              refine o_rest ?_
              refine o_nil1 63 rfl rfl ?_
              refine c_cond rfl (fun h12 => ?_) (fun h12 => ?_)
              · have hm := cd_t h12 hm
                refine c_region ?_
                refine o_T (y_move rfl) rfl ?_
                refine o_T (y_add rfl rfl rfl) rfl ?_
                refine o_L (y_assign rfl) rfl rfl ?_
                refine o_nil0 rfl ?_
                refine c_region ?_
                refine o_T (y_move rfl) rfl ?_
                refine o_T (y_add rfl rfl rfl) rfl ?_
                refine o_L (y_assign rfl) rfl rfl ?_
                refine o_nil0 rfl ?_
                exact ⟨mm1, Nat.lt_succ_self _, _, _, ⟨_, _, _, _, rfl, rfl, hm⟩, ⟨rfl, rfl, rfl, trivial⟩, ⟨rfl, rfl⟩, _, (s_get (ks (ks (ks (ks (ks (ks k0)))))) (s_take (s_take (s_take (s_take (s_take (s_take (s_skip (s_take s_nil)))))))))⟩
              · have hm := cd_f h12 hm
                refine c_skip ?_
                refine c_region ?_
                refine o_T (y_move rfl) rfl ?_
                refine o_T (y_add rfl rfl rfl) rfl ?_
                refine o_L (y_assign rfl) rfl rfl ?_
                refine o_nil0 rfl ?_
                exact ⟨mm1, Nat.lt_succ_self _, _, _, ⟨_, _, _, _, rfl, rfl, hm⟩, ⟨rfl, rfl, rfl, trivial⟩, ⟨rfl, rfl⟩, _, (s_get (ks (ks (ks (ks (ks (ks k0)))))) (s_take (s_take (s_take (s_take (s_take (s_take (s_skip (s_take s_nil)))))))))⟩
    · have hm := cd_f h1 hm
      refine c_exit ?_
      have hm := fl_nx hm hF2
      exact ⟨_, _, ⟨_, _, _, _, rfl, rfl, hm⟩, ⟨rfl, rfl, rfl, trivial⟩, ⟨rfl, rfl⟩, _, (s_take (s_take (s_take (s_take (s_take (s_take (s_take (s_take s_nil))))))))⟩
  · rintro sh G ⟨c4, c5, c6, z2, rfl, rfl, hm⟩
    subst hF1
    refine c_seq ?_
    refine c_seq ?_
    refine c_joinP (n := 0) (fun sh G => sh = [(110, .bool ((((decide (¬ (c4 = s.nfree))) || (decide (¬ ((z2.used 0) = (s.used 0))))) || (decide (¬ ((z2.used 1) = (s.used 1))))) || (decide (¬ ((z2.used 2) = (s.used 2))))))] ∧ G = []) Sel.all' .z (fun _ _ h => h) ?_ ?_
    · skip
      refine c_draw #[true, true, true, true, true, true, true, true, true, true, true, true, true, true, true, true, true, true, true, true, true, true, true, true, true, true, true, true, true, true, true, true, true, true, true, true, true, true, true, true, true, true, true, true, true] rfl (n := 45) rfl ?_
      refine d_T 0 rfl sb_106_17_0 rfl (y_move rfl) rfl ?_
      refine d_T 1 rfl sb_106_17_1 rfl (y_move rfl) rfl ?_
      refine d_T 2 rfl sb_106_17_2 rfl (y_nilck rfl) rfl ?_
      refine d_T 3 rfl sb_106_17_3 rfl (y_fa fl_126_4 rfl) rfl ?_
      refine d_ld 4 rfl sb_106_17_4 one_3 rfl (fun x hx => hx) (ms m0) (At.got (At.refl.comp Store.a_nfree)) rfl ?_
      refine d_T 5 rfl sb_106_17_5 rfl (y_neq rfl rfl) rfl ?_
      refine d_T 6 rfl sb_106_17_6 rfl (y_move rfl) rfl ?_
      refine d_split 72 rfl (fun h13 => ?_) (fun h13 => ?_)
      · skip
        refine d_pass 7 rfl rfl rfl rfl rfl sb_106_17_7 (fun x hx => hx) rfl ?_
        refine d_pass 8 rfl rfl rfl rfl rfl sb_106_17_8 (fun x hx => hx) rfl ?_
        refine d_pass 9 rfl rfl rfl rfl rfl sb_106_17_9 (fun x hx => hx) rfl ?_
        refine d_pass 10 rfl rfl rfl rfl rfl sb_106_17_10 (fun x hx => hx) rfl ?_
        refine d_pass 11 rfl rfl rfl rfl rfl sb_106_17_11 (fun x hx => hx) rfl ?_
        refine d_pass 12 rfl rfl rfl rfl rfl sb_106_17_12 (fun x hx => hx) rfl ?_
        refine d_pass 13 rfl rfl rfl rfl rfl sb_106_17_13 (fun x hx => hx) rfl ?_
        refine d_pass 14 rfl rfl rfl rfl rfl sb_106_17_14 (fun x hx => hx) rfl ?_
        refine d_pass 15 rfl rfl rfl rfl rfl sb_106_17_15 (fun x hx => hx) rfl ?_
        refine d_pass 16 rfl rfl rfl rfl rfl sb_106_17_16 (fun x hx => hx) rfl ?_
        refine d_pass 17 rfl rfl rfl rfl rfl sb_106_17_17 (fun x hx => hx) rfl ?_
        refine d_T 18 rfl sb_106_17_18 rfl (y_pickT rfl rfl) rfl ?_
        refine d_T 19 rfl sb_106_17_19 rfl (y_move rfl) rfl ?_
        refine d_pass 20 rfl rfl rfl rfl rfl sb_106_17_20 (fun x hx => hx) rfl ?_
        refine d_pass 21 rfl rfl rfl rfl rfl sb_106_17_21 (fun x hx => hx) rfl ?_
        refine d_pass 22 rfl rfl rfl rfl rfl sb_106_17_22 (fun x hx => hx) rfl ?_
        refine d_pass 23 rfl rfl rfl rfl rfl sb_106_17_23 (fun x hx => hx) rfl ?_
        refine d_pass 24 rfl rfl rfl rfl rfl sb_106_17_24 (fun x hx => hx) rfl ?_
        refine d_pass 25 rfl rfl rfl rfl rfl sb_106_17_25 (fun x hx => hx) rfl ?_
        refine d_pass 26 rfl rfl rfl rfl rfl sb_106_17_26 (fun x hx => hx) rfl ?_
        refine d_pass 27 rfl rfl rfl rfl rfl sb_106_17_27 (fun x hx => hx) rfl ?_
        refine d_pass 28 rfl rfl rfl rfl rfl sb_106_17_28 (fun x hx => hx) rfl ?_
        refine d_pass 29 rfl rfl rfl rfl rfl sb_106_17_29 (fun x hx => hx) rfl ?_
        refine d_pass 30 rfl rfl rfl rfl rfl sb_106_17_30 (fun x hx => hx) rfl ?_
        refine d_T 31 rfl sb_106_17_31 rfl (y_pickT rfl rfl) rfl ?_
        refine d_T 32 rfl sb_106_17_32 rfl (y_move rfl) rfl ?_
        refine d_pass 33 rfl rfl rfl rfl rfl sb_106_17_33 (fun x hx => hx) rfl ?_
        refine d_pass 34 rfl rfl rfl rfl rfl sb_106_17_34 (fun x hx => hx) rfl ?_
        refine d_pass 35 rfl rfl rfl rfl rfl sb_106_17_35 (fun x hx => hx) rfl ?_
        refine d_pass 36 rfl rfl rfl rfl rfl sb_106_17_36 (fun x hx => hx) rfl ?_
        refine d_pass 37 rfl rfl rfl rfl rfl sb_106_17_37 (fun x hx => hx) rfl ?_
        refine d_pass 38 rfl rfl rfl rfl rfl sb_106_17_38 (fun x hx => hx) rfl ?_
        refine d_pass 39 rfl rfl rfl rfl rfl sb_106_17_39 (fun x hx => hx) rfl ?_
        refine d_pass 40 rfl rfl rfl rfl rfl sb_106_17_40 (fun x hx => hx) rfl ?_
        refine d_pass 41 rfl rfl rfl rfl rfl sb_106_17_41 (fun x hx => hx) rfl ?_
        refine d_pass 42 rfl rfl rfl rfl rfl sb_106_17_42 (fun x hx => hx) rfl ?_
        refine d_pass 43 rfl rfl rfl rfl rfl sb_106_17_43 (fun x hx => hx) rfl ?_
        refine d_T 44 rfl sb_106_17_44 rfl (y_pickT rfl rfl) rfl ?_
        refine d_nil1 110 sb_106_17_45 rfl rfl ?_
        refine ⟨_, _, ⟨rfl, rfl⟩, ⟨by first | rfl | exact gtb rfl (by simp only [h13, Bool.true_and, Bool.false_and, Bool.true_or, Bool.false_or, Bool.and_true, Bool.and_false, Bool.or_true, Bool.or_false, Bool.not_true, Bool.not_false]), trivial⟩, ⟨rfl, rfl⟩, _, (s_take (s_take (s_take (s_take (s_take (s_take (s_take (s_take s_nil))))))))⟩
      · skip
        refine d_Tg 7 rfl rfl rfl rfl sb_106_17_7 rfl (y_move rfl) rfl ?_
        refine d_Tg 8 rfl rfl rfl rfl sb_106_17_8 rfl (y_nilck rfl) rfl ?_
        refine d_Tg 9 rfl rfl rfl rfl sb_106_17_9 rfl (y_fa fl_126_3 rfl) rfl ?_
        refine d_Tg 10 rfl rfl rfl rfl sb_106_17_10 rfl (y_ia ar_124 rfl rfl (show (0 : Int) ≤ 0 ∧ (0 : Int) < 3 from ⟨by decide, by decide⟩).1 (show (0 : Int) ≤ 0 ∧ (0 : Int) < 3 from ⟨by decide, by decide⟩).2) rfl ?_
        refine d_ldt 11 rfl rfl rfl rfl sb_106_17_11 one_123 rfl (fun x hx => hx) m0 (At.got ((At.refl.comp Store.a_used).comp (encN_a encU_len _ _ (show (0 : Int) ≤ 0 ∧ (0 : Int) < 3 from ⟨by decide, by decide⟩).1 _ (show (0 : Int) ≤ 0 ∧ (0 : Int) < 3 from ⟨by decide, by decide⟩).2))) rfl ?_
        refine d_Tg 12 rfl rfl rfl rfl sb_106_17_12 rfl (y_move rfl) rfl ?_
        refine d_Tg 13 rfl rfl rfl rfl sb_106_17_13 rfl (y_nilck rfl) rfl ?_
        refine d_Tg 14 rfl rfl rfl rfl sb_106_17_14 rfl (y_fa fl_126_3 rfl) rfl ?_
        refine d_Tg 15 rfl rfl rfl rfl sb_106_17_15 rfl (y_ia ar_124 rfl rfl (show (0 : Int) ≤ 0 ∧ (0 : Int) < 3 from ⟨by decide, by decide⟩).1 (show (0 : Int) ≤ 0 ∧ (0 : Int) < 3 from ⟨by decide, by decide⟩).2) rfl ?_
        refine d_ldt 16 rfl rfl rfl rfl sb_106_17_16 one_123 rfl (fun x hx => hx) (ms m0) (At.got ((At.refl.comp Store.a_used).comp (encN_a encU_len _ _ (show (0 : Int) ≤ 0 ∧ (0 : Int) < 3 from ⟨by decide, by decide⟩).1 _ (show (0 : Int) ≤ 0 ∧ (0 : Int) < 3 from ⟨by decide, by decide⟩).2))) rfl ?_
        refine d_Tg 17 rfl rfl rfl rfl sb_106_17_17 rfl (y_neq rfl rfl) rfl ?_
        refine d_T 18 rfl sb_106_17_18 rfl (y_pickF rfl rfl) rfl ?_
        refine d_T 19 rfl sb_106_17_19 rfl (y_move rfl) rfl ?_
        refine d_split 85 rfl (fun h14 => ?_) (fun h14 => ?_)
        · skip
          refine d_pass 20 rfl rfl rfl rfl rfl sb_106_17_20 (fun x hx => hx) rfl ?_
          refine d_pass 21 rfl rfl rfl rfl rfl sb_106_17_21 (fun x hx => hx) rfl ?_
          refine d_pass 22 rfl rfl rfl rfl rfl sb_106_17_22 (fun x hx => hx) rfl ?_
          refine d_pass 23 rfl rfl rfl rfl rfl sb_106_17_23 (fun x hx => hx) rfl ?_
          refine d_pass 24 rfl rfl rfl rfl rfl sb_106_17_24 (fun x hx => hx) rfl ?_
          refine d_pass 25 rfl rfl rfl rfl rfl sb_106_17_25 (fun x hx => hx) rfl ?_
          refine d_pass 26 rfl rfl rfl rfl rfl sb_106_17_26 (fun x hx => hx) rfl ?_
          refine d_pass 27 rfl rfl rfl rfl rfl sb_106_17_27 (fun x hx => hx) rfl ?_
          refine d_pass 28 rfl rfl rfl rfl rfl sb_106_17_28 (fun x hx => hx) rfl ?_
          refine d_pass 29 rfl rfl rfl rfl rfl sb_106_17_29 (fun x hx => hx) rfl ?_
          refine d_pass 30 rfl rfl rfl rfl rfl sb_106_17_30 (fun x hx => hx) rfl ?_
          refine d_T 31 rfl sb_106_17_31 rfl (y_pickT rfl rfl) rfl ?_
          refine d_T 32 rfl sb_106_17_32 rfl (y_move rfl) rfl ?_
          refine d_pass 33 rfl rfl rfl rfl rfl sb_106_17_33 (fun x hx => hx) rfl ?_
          refine d_pass 34 rfl rfl rfl rfl rfl sb_106_17_34 (fun x hx => hx) rfl ?_
          refine d_pass 35 rfl rfl rfl rfl rfl sb_106_17_35 (fun x hx => hx) rfl ?_
          refine d_pass 36 rfl rfl rfl rfl rfl sb_106_17_36 (fun x hx => hx) rfl ?_
          refine d_pass 37 rfl rfl rfl rfl rfl sb_106_17_37 (fun x hx => hx) rfl ?_
          refine d_pass 38 rfl rfl rfl rfl rfl sb_106_17_38 (fun x hx => hx) rfl ?_
          refine d_pass 39 rfl rfl rfl rfl rfl sb_106_17_39 (fun x hx => hx) rfl ?_
          refine d_pass 40 rfl rfl rfl rfl rfl sb_106_17_40 (fun x hx => hx) rfl ?_
          refine d_pass 41 rfl rfl rfl rfl rfl sb_106_17_41 (fun x hx => hx) rfl ?_
          refine d_pass 42 rfl rfl rfl rfl rfl sb_106_17_42 (fun x hx => hx) rfl ?_
          refine d_pass 43 rfl rfl rfl rfl rfl sb_106_17_43 (fun x hx => hx) rfl ?_
          refine d_T 44 rfl sb_106_17_44 rfl (y_pickT rfl rfl) rfl ?_
          refine d_nil1 110 sb_106_17_45 rfl rfl ?_
          refine ⟨_, _, ⟨rfl, rfl⟩, ⟨by first | rfl | exact gtb rfl (by simp only [h13, h14, Bool.true_and, Bool.false_and, Bool.true_or, Bool.false_or, Bool.and_true, Bool.and_false, Bool.or_true, Bool.or_false, Bool.not_true, Bool.not_false]), trivial⟩, ⟨rfl, rfl⟩, _, (s_take (s_take (s_take (s_take (s_take (s_take (s_take (s_take s_nil))))))))⟩
        · skip
          refine d_Tg 20 rfl rfl rfl rfl sb_106_17_20 rfl (y_move rfl) rfl ?_
          refine d_Tg 21 rfl rfl rfl rfl sb_106_17_21 rfl (y_nilck rfl) rfl ?_
          refine d_Tg 22 rfl rfl rfl rfl sb_106_17_22 rfl (y_fa fl_126_3 rfl) rfl ?_
          refine d_Tg 23 rfl rfl rfl rfl sb_106_17_23 rfl (y_ia ar_124 rfl rfl (show (0 : Int) ≤ 1 ∧ (1 : Int) < 3 from ⟨by decide, by decide⟩).1 (show (0 : Int) ≤ 1 ∧ (1 : Int) < 3 from ⟨by decide, by decide⟩).2) rfl ?_
          refine d_ldt 24 rfl rfl rfl rfl sb_106_17_24 one_123 rfl (fun x hx => hx) m0 (At.got ((At.refl.comp Store.a_used).comp (encN_a encU_len _ _ (show (0 : Int) ≤ 1 ∧ (1 : Int) < 3 from ⟨by decide, by decide⟩).1 _ (show (0 : Int) ≤ 1 ∧ (1 : Int) < 3 from ⟨by decide, by decide⟩).2))) rfl ?_
          refine d_Tg 25 rfl rfl rfl rfl sb_106_17_25 rfl (y_move rfl) rfl ?_
          refine d_Tg 26 rfl rfl rfl rfl sb_106_17_26 rfl (y_nilck rfl) rfl ?_
          refine d_Tg 27 rfl rfl rfl rfl sb_106_17_27 rfl (y_fa fl_126_3 rfl) rfl ?_
          refine d_Tg 28 rfl rfl rfl rfl sb_106_17_28 rfl (y_ia ar_124 rfl rfl (show (0 : Int) ≤ 1 ∧ (1 : Int) < 3 from ⟨by decide, by decide⟩).1 (show (0 : Int) ≤ 1 ∧ (1 : Int) < 3 from ⟨by decide, by decide⟩).2) rfl ?_
          refine d_ldt 29 rfl rfl rfl rfl sb_106_17_29 one_123 rfl (fun x hx => hx) (ms m0) (At.got ((At.refl.comp Store.a_used).comp (encN_a encU_len _ _ (show (0 : Int) ≤ 1 ∧ (1 : Int) < 3 from ⟨by decide, by decide⟩).1 _ (show (0 : Int) ≤ 1 ∧ (1 : Int) < 3 from ⟨by decide, by decide⟩).2))) rfl ?_
          refine d_Tg 30 rfl rfl rfl rfl sb_106_17_30 rfl (y_neq rfl rfl) rfl ?_
          refine d_T 31 rfl sb_106_17_31 rfl (y_pickF rfl rfl) rfl ?_
          refine d_T 32 rfl sb_106_17_32 rfl (y_move rfl) rfl ?_
          refine d_split 98 rfl (fun h15 => ?_) (fun h15 => ?_)
          · skip
            refine d_pass 33 rfl rfl rfl rfl rfl sb_106_17_33 (fun x hx => hx) rfl ?_
            refine d_pass 34 rfl rfl rfl rfl rfl sb_106_17_34 (fun x hx => hx) rfl ?_
            refine d_pass 35 rfl rfl rfl rfl rfl sb_106_17_35 (fun x hx => hx) rfl ?_
            refine d_pass 36 rfl rfl rfl rfl rfl sb_106_17_36 (fun x hx => hx) rfl ?_
            refine d_pass 37 rfl rfl rfl rfl rfl sb_106_17_37 (fun x hx => hx) rfl ?_
            refine d_pass 38 rfl rfl rfl rfl rfl sb_106_17_38 (fun x hx => hx) rfl ?_
            refine d_pass 39 rfl rfl rfl rfl rfl sb_106_17_39 (fun x hx => hx) rfl ?_
            refine d_pass 40 rfl rfl rfl rfl rfl sb_106_17_40 (fun x hx => hx) rfl ?_
            refine d_pass 41 rfl rfl rfl rfl rfl sb_106_17_41 (fun x hx => hx) rfl ?_
            refine d_pass 42 rfl rfl rfl rfl rfl sb_106_17_42 (fun x hx => hx) rfl ?_
            refine d_pass 43 rfl rfl rfl rfl rfl sb_106_17_43 (fun x hx => hx) rfl ?_
            refine d_T 44 rfl sb_106_17_44 rfl (y_pickT rfl rfl) rfl ?_
            refine d_nil1 110 sb_106_17_45 rfl rfl ?_
            refine ⟨_, _, ⟨rfl, rfl⟩, ⟨by first | rfl | exact gtb rfl (by simp only [h13, h14, h15, Bool.true_and, Bool.false_and, Bool.true_or, Bool.false_or, Bool.and_true, Bool.and_false, Bool.or_true, Bool.or_false, Bool.not_true, Bool.not_false]), trivial⟩, ⟨rfl, rfl⟩, _, (s_take (s_take (s_take (s_take (s_take (s_take (s_take (s_take s_nil))))))))⟩
          · skip
            refine d_Tg 33 rfl rfl rfl rfl sb_106_17_33 rfl (y_move rfl) rfl ?_
            refine d_Tg 34 rfl rfl rfl rfl sb_106_17_34 rfl (y_nilck rfl) rfl ?_
            refine d_Tg 35 rfl rfl rfl rfl sb_106_17_35 rfl (y_fa fl_126_3 rfl) rfl ?_
            refine d_Tg 36 rfl rfl rfl rfl sb_106_17_36 rfl (y_ia ar_124 rfl rfl (show (0 : Int) ≤ 2 ∧ (2 : Int) < 3 from ⟨by decide, by decide⟩).1 (show (0 : Int) ≤ 2 ∧ (2 : Int) < 3 from ⟨by decide, by decide⟩).2) rfl ?_
            refine d_ldt 37 rfl rfl rfl rfl sb_106_17_37 one_123 rfl (fun x hx => hx) m0 (At.got ((At.refl.comp Store.a_used).comp (encN_a encU_len _ _ (show (0 : Int) ≤ 2 ∧ (2 : Int) < 3 from ⟨by decide, by decide⟩).1 _ (show (0 : Int) ≤ 2 ∧ (2 : Int) < 3 from ⟨by decide, by decide⟩).2))) rfl ?_
            refine d_Tg 38 rfl rfl rfl rfl sb_106_17_38 rfl (y_move rfl) rfl ?_
            refine d_Tg 39 rfl rfl rfl rfl sb_106_17_39 rfl (y_nilck rfl) rfl ?_
            refine d_Tg 40 rfl rfl rfl rfl sb_106_17_40 rfl (y_fa fl_126_3 rfl) rfl ?_
            refine d_Tg 41 rfl rfl rfl rfl sb_106_17_41 rfl (y_ia ar_124 rfl rfl (show (0 : Int) ≤ 2 ∧ (2 : Int) < 3 from ⟨by decide, by decide⟩).1 (show (0 : Int) ≤ 2 ∧ (2 : Int) < 3 from ⟨by decide, by decide⟩).2) rfl ?_
            refine d_ldt 42 rfl rfl rfl rfl sb_106_17_42 one_123 rfl (fun x hx => hx) (ms m0) (At.got ((At.refl.comp Store.a_used).comp (encN_a encU_len _ _ (show (0 : Int) ≤ 2 ∧ (2 : Int) < 3 from ⟨by decide, by decide⟩).1 _ (show (0 : Int) ≤ 2 ∧ (2 : Int) < 3 from ⟨by decide, by decide⟩).2))) rfl ?_
            refine d_Tg 43 rfl rfl rfl rfl sb_106_17_43 rfl (y_neq rfl rfl) rfl ?_
            refine d_T 44 rfl sb_106_17_44 rfl (y_pickF rfl rfl) rfl ?_
            refine d_nil1 110 sb_106_17_45 rfl rfl ?_
            refine ⟨_, _, ⟨rfl, rfl⟩, ⟨by first | rfl | exact gtb rfl (by simp only [h13, h14, h15, Bool.true_and, Bool.false_and, Bool.true_or, Bool.false_or, Bool.and_true, Bool.and_false, Bool.or_true, Bool.or_false, Bool.not_true, Bool.not_false]), trivial⟩, ⟨rfl, rfl⟩, _, (s_take (s_take (s_take (s_take (s_take (s_take (s_take (s_take s_nil))))))))⟩
    · rintro sh G ⟨rfl, rfl⟩
      refine c_cond rfl (fun h16 => ?_) (fun h16 => ?_)
      · have hm := cd_t h16 hm
        refine c_seq ?_
        refine c_region ?_
        refine o_L (y_assign rfl) rfl rfl ?_
        refine o_nil0 rfl ?_
        refine c_ret ?_
        obtain rfl := p1 hm
        refine fun aX wX heX hsX => ret1 Tryz.results106 heX rfl (s_skip (s_take (s_take (s_take (s_take (s_take (s_take (s_take s_nil)))))))) ?_
        exact ⟨rfl, rfl⟩
      · have hm := cd_f h16 hm
        refine c_skip ?_
        refine c_seq ?_
        refine c_seq ?_
        refine c_region ?_
        refine o_T (y_move rfl) rfl ?_
        obtain ⟨c10, hx5, hm⟩ := bd1 hm
        refine o_callC en_191 rfl (s_skip (s_take (s_take (s_take (s_take (s_take (s_take s_nil))))))) (t191 ho1 ho2 ho3 ho4 hx5) rfl (fun u4 S4 hR4 => ?_)
        obtain ⟨rfl, rfl⟩ := hR4
        refine o_rest ?_
        refine o_T (y_not rfl) rfl ?_
        refine o_nil1 113 rfl rfl ?_
        refine c_cond rfl (fun h17 => ?_) (fun h17 => ?_)
        · have hm := cd_t h17 hm
          refine c_seq ?_
          refine c_region ?_
          refine o_L (y_assign rfl) rfl rfl ?_
          refine o_nil0 rfl ?_
          refine c_ret ?_
          obtain rfl := p1 hm
          refine fun aX wX heX hsX => ret1 Tryz.results106 heX rfl (s_take (s_take (s_take (s_take (s_take (s_take (s_skip (s_take s_nil)))))))) ?_
          exact ⟨rfl, rfl⟩
        · have hm := cd_f h17 hm
          refine c_skip ?_
          refine c_seq ?_
          refine c_seq ?_
          refine c_region ?_
          refine o_T (y_move rfl) rfl ?_
          refine o_T (y_move rfl) rfl ?_
          obtain ⟨c11, hx6, hm⟩ := bd1 hm
          refine o_callC en_192 rfl (s_take s_nil) (t192 hx6) rfl (fun u5 S5 hR5 => ?_)
          obtain ⟨rfl, rfl⟩ := hR5
          refine o_rest ?_
          refine o_T (y_not rfl) rfl ?_
          refine o_nil1 117 rfl rfl ?_
          refine c_cond rfl (fun h18 => ?_) (fun h18 => ?_)
          · have hm := cd_t h18 hm
            refine c_seq ?_
            refine c_region ?_
            refine o_L (y_assign rfl) rfl rfl ?_
            refine o_nil0 rfl ?_
            refine c_ret ?_
            obtain rfl := p1 hm
            refine fun aX wX heX hsX => ret1 Tryz.results106 heX rfl (s_take (s_take (s_take (s_take (s_take (s_take (s_skip (s_take s_nil)))))))) ?_
            exact ⟨rfl, rfl⟩
          · have hm := cd_f h18 hm
            refine c_skip ?_
            refine c_seq ?_
            refine c_region ?_
            refine o_T (y_move rfl) rfl ?_
            obtain ⟨c12, hx7, hm⟩ := bd1 hm
            refine o_callC en_193 rfl (s_take (s_take (s_take (s_take (s_take (s_take s_nil)))))) (t193 ho1 ho2 ho3 ho4 hx7) rfl (fun u6 S6 hR6 => ?_)
            obtain ⟨rfl, rfl⟩ := hR6
            refine o_rest ?_
            refine o_L (y_assign rfl) rfl rfl ?_
            refine o_nil0 rfl ?_
            refine c_ret ?_
            obtain rfl := p1 hm
            refine fun aX wX heX hsX => ret1 Tryz.results106 heX rfl (s_take (s_take (s_take (s_take (s_take (s_take (s_skip (s_take s_nil)))))))) ?_
            exact ⟨rfl, rfl⟩
end Go.Proofs.Qxb6500350aGreat
