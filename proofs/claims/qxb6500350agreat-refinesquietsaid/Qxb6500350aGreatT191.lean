/- MADE BY PROGRAM (tools350/mir.py): mirror and walk. -/
import Derived.Test.Qxb6500350aGreatF2
import Derived.Test.Qxb6500350aGreatT163
set_option linter.unusedVariables false
set_option linter.unusedSimpArgs false
set_option maxRecDepth 20000
set_option maxHeartbeats 4000000
namespace Go.Proofs.Qxb6500350aGreat
open Go.Eng

def op_191_2 : Array Go.Oper := #[{ dst := some 8, op := Go.Op.move (Go.Operand.tmp 3), type := 81, pos := "check.go:87", after := #[], guard := none }, { dst := some 9, op := Go.Op.indexAddr 81 (Go.Operand.tmp 8) (Go.Operand.const (Go.Value.int Go.IntKind.i64 0)), type := 0, pos := "check.go:87", after := #[{ on := 0, ground := Go.Ground.data }], guard := none }, { dst := some 10, op := Go.Op.load 5 (Go.Operand.tmp 9), type := 5, pos := "check.go:87", after := #[{ on := 1, ground := Go.Ground.data }], guard := none }, { dst := some 11, op := Go.Op.convert 5 3 (Go.Operand.tmp 10), type := 3, pos := "check.go:87", after := #[{ on := 2, ground := Go.Ground.data }], guard := none }, { dst := some 12, op := Go.Op.move (Go.Operand.tmp 0), type := 28, pos := "check.go:87", after := #[], guard := none }, { dst := some 13, op := Go.Op.nilCheck (Go.Operand.tmp 12), type := 0, pos := "check.go:87", after := #[{ on := 4, ground := Go.Ground.data }], guard := none }, { dst := some 14, op := Go.Op.fieldAddr 126 (Go.Operand.tmp 13) 5, type := 0, pos := "check.go:87", after := #[{ on := 5, ground := Go.Ground.data }], guard := none }, { dst := some 15, op := Go.Op.load 3 (Go.Operand.tmp 14), type := 3, pos := "check.go:87", after := #[{ on := 6, ground := Go.Ground.data }], guard := none }, { dst := some 16, op := Go.Op.binOp Go.BinOp.neq 3 (Go.Operand.tmp 11) (Go.Operand.tmp 15) 3, type := 4, pos := "check.go:87", after := #[{ on := 3, ground := Go.Ground.data }, { on := 7, ground := Go.Ground.data }], guard := none }]
def op_191_7 : Array Go.Oper := #[{ dst := some 34, op := Go.Op.move (Go.Operand.tmp 0), type := 28, pos := "check.go:94", after := #[], guard := none }, { dst := some 35, op := Go.Op.move (Go.Operand.tmp 0), type := 28, pos := "check.go:94", after := #[], guard := none }, { dst := some 36, op := Go.Op.nilCheck (Go.Operand.tmp 35), type := 0, pos := "check.go:94", after := #[{ on := 1, ground := Go.Ground.data }], guard := none }, { dst := some 37, op := Go.Op.fieldAddr 126 (Go.Operand.tmp 36) 5, type := 0, pos := "check.go:94", after := #[{ on := 2, ground := Go.Ground.data }], guard := none }, { dst := some 38, op := Go.Op.load 3 (Go.Operand.tmp 37), type := 3, pos := "check.go:94", after := #[{ on := 3, ground := Go.Ground.data }], guard := none }, { dst := some 39, op := Go.Op.nilCheck (Go.Operand.tmp 34), type := 0, pos := "check.go:94", after := #[{ on := 0, ground := Go.Ground.data }], guard := none }, { dst := some 40, op := Go.Op.fieldAddr 126 (Go.Operand.tmp 39) 1, type := 0, pos := "check.go:94", after := #[{ on := 5, ground := Go.Ground.data }], guard := none }, { dst := some 41, op := Go.Op.indexAddr 121 (Go.Operand.tmp 40) (Go.Operand.tmp 38), type := 0, pos := "check.go:94", after := #[{ on := 6, ground := Go.Ground.data }, { on := 4, ground := Go.Ground.data }], guard := none }, { dst := some 42, op := Go.Op.fieldAddr 120 (Go.Operand.tmp 41) 0, type := 0, pos := "check.go:94", after := #[{ on := 7, ground := Go.Ground.data }], guard := none }, { dst := some 43, op := Go.Op.load 3 (Go.Operand.tmp 42), type := 3, pos := "check.go:94", after := #[{ on := 8, ground := Go.Ground.data }], guard := none }, { dst := some 44, op := Go.Op.binOp Go.BinOp.neq 3 (Go.Operand.tmp 43) (Go.Operand.const (Go.Value.int Go.IntKind.i64 2)) 3, type := 4, pos := "check.go:94", after := #[{ on := 9, ground := Go.Ground.data }], guard := none }, { dst := some 45, op := Go.Op.move (Go.Operand.tmp 44), type := 4, pos := "check.go:94", after := #[{ on := 10, ground := Go.Ground.data }], guard := none }, { dst := some 46, op := Go.Op.move (Go.Operand.tmp 0), type := 28, pos := "check.go:94", after := #[{ on := 11, ground := Go.Ground.guard }], guard := some (11, true) }, { dst := some 47, op := Go.Op.move (Go.Operand.tmp 0), type := 28, pos := "check.go:94", after := #[{ on := 11, ground := Go.Ground.guard }], guard := some (11, true) }, { dst := some 48, op := Go.Op.nilCheck (Go.Operand.tmp 47), type := 0, pos := "check.go:94", after := #[{ on := 13, ground := Go.Ground.data }, { on := 11, ground := Go.Ground.guard }], guard := some (11, true) }, { dst := some 49, op := Go.Op.fieldAddr 126 (Go.Operand.tmp 48) 5, type := 0, pos := "check.go:94", after := #[{ on := 14, ground := Go.Ground.data }, { on := 11, ground := Go.Ground.guard }], guard := some (11, true) }, { dst := some 50, op := Go.Op.load 3 (Go.Operand.tmp 49), type := 3, pos := "check.go:94", after := #[{ on := 15, ground := Go.Ground.data }, { on := 11, ground := Go.Ground.guard }], guard := some (11, true) }, { dst := some 51, op := Go.Op.nilCheck (Go.Operand.tmp 46), type := 0, pos := "check.go:94", after := #[{ on := 12, ground := Go.Ground.data }, { on := 11, ground := Go.Ground.guard }], guard := some (11, true) }, { dst := some 52, op := Go.Op.fieldAddr 126 (Go.Operand.tmp 51) 1, type := 0, pos := "check.go:94", after := #[{ on := 17, ground := Go.Ground.data }, { on := 11, ground := Go.Ground.guard }], guard := some (11, true) }, { dst := some 53, op := Go.Op.indexAddr 121 (Go.Operand.tmp 52) (Go.Operand.tmp 50), type := 0, pos := "check.go:94", after := #[{ on := 18, ground := Go.Ground.data }, { on := 16, ground := Go.Ground.data }, { on := 11, ground := Go.Ground.guard }], guard := some (11, true) }, { dst := some 54, op := Go.Op.fieldAddr 120 (Go.Operand.tmp 53) 0, type := 0, pos := "check.go:94", after := #[{ on := 19, ground := Go.Ground.data }, { on := 11, ground := Go.Ground.guard }], guard := some (11, true) }, { dst := some 55, op := Go.Op.load 3 (Go.Operand.tmp 54), type := 3, pos := "check.go:94", after := #[{ on := 20, ground := Go.Ground.data }, { on := 11, ground := Go.Ground.guard }], guard := some (11, true) }, { dst := some 56, op := Go.Op.binOp Go.BinOp.neq 3 (Go.Operand.tmp 55) (Go.Operand.const (Go.Value.int Go.IntKind.i64 3)) 3, type := 4, pos := "check.go:94", after := #[{ on := 21, ground := Go.Ground.data }, { on := 11, ground := Go.Ground.guard }], guard := some (11, true) }, { dst := some 57, op := Go.Op.pick (Go.Operand.tmp 45) (Go.Operand.tmp 56) (Go.Operand.const (Go.Value.bool false)), type := 4, pos := "check.go:94", after := #[{ on := 11, ground := Go.Ground.data }, { on := 22, ground := Go.Ground.data }], guard := none }]
theorem sb_191_2_0 : softB op_191_2 #[true, true, true, true, true, true, true, true, true] (Array.replicate 9 false) 0 = true := by kernel_rfl
theorem sb_191_2_1 : softB op_191_2 #[true, true, true, true, true, true, true, true, true] ((Array.replicate 9 false).setIfInBounds 0 true) 1 = true := by kernel_rfl
theorem sb_191_2_2 : softB op_191_2 #[true, true, true, true, true, true, true, true, true] (((Array.replicate 9 false).setIfInBounds 0 true).setIfInBounds 1 true) 2 = true := by kernel_rfl
theorem sb_191_2_3 : softB op_191_2 #[true, true, true, true, true, true, true, true, true] ((((Array.replicate 9 false).setIfInBounds 0 true).setIfInBounds 1 true).setIfInBounds 2 true) 3 = true := by kernel_rfl
theorem sb_191_2_4 : softB op_191_2 #[true, true, true, true, true, true, true, true, true] (((((Array.replicate 9 false).setIfInBounds 0 true).setIfInBounds 1 true).setIfInBounds 2 true).setIfInBounds 3 true) 4 = true := by kernel_rfl
theorem sb_191_2_5 : softB op_191_2 #[true, true, true, true, true, true, true, true, true] ((((((Array.replicate 9 false).setIfInBounds 0 true).setIfInBounds 1 true).setIfInBounds 2 true).setIfInBounds 3 true).setIfInBounds 4 true) 5 = true := by kernel_rfl
theorem sb_191_2_6 : softB op_191_2 #[true, true, true, true, true, true, true, true, true] (((((((Array.replicate 9 false).setIfInBounds 0 true).setIfInBounds 1 true).setIfInBounds 2 true).setIfInBounds 3 true).setIfInBounds 4 true).setIfInBounds 5 true) 6 = true := by kernel_rfl
theorem sb_191_2_7 : softB op_191_2 #[true, true, true, true, true, true, true, true, true] ((((((((Array.replicate 9 false).setIfInBounds 0 true).setIfInBounds 1 true).setIfInBounds 2 true).setIfInBounds 3 true).setIfInBounds 4 true).setIfInBounds 5 true).setIfInBounds 6 true) 7 = true := by kernel_rfl
theorem sb_191_2_8 : softB op_191_2 #[true, true, true, true, true, true, true, true, true] (((((((((Array.replicate 9 false).setIfInBounds 0 true).setIfInBounds 1 true).setIfInBounds 2 true).setIfInBounds 3 true).setIfInBounds 4 true).setIfInBounds 5 true).setIfInBounds 6 true).setIfInBounds 7 true) 8 = true := by kernel_rfl
theorem sb_191_2_9 : hardB op_191_2 ((((((((((Array.replicate 9 false).setIfInBounds 0 true).setIfInBounds 1 true).setIfInBounds 2 true).setIfInBounds 3 true).setIfInBounds 4 true).setIfInBounds 5 true).setIfInBounds 6 true).setIfInBounds 7 true).setIfInBounds 8 true) [] = true := by kernel_rfl
theorem sb_191_7_0 : softB op_191_7 #[true, true, true, true, true, true, true, true, true, true, true, true, true, true, true, true, true, true, true, true, true, true, true, true] (Array.replicate 24 false) 0 = true := by kernel_rfl
theorem sb_191_7_1 : softB op_191_7 #[true, true, true, true, true, true, true, true, true, true, true, true, true, true, true, true, true, true, true, true, true, true, true, true] ((Array.replicate 24 false).setIfInBounds 0 true) 1 = true := by kernel_rfl
theorem sb_191_7_2 : softB op_191_7 #[true, true, true, true, true, true, true, true, true, true, true, true, true, true, true, true, true, true, true, true, true, true, true, true] (((Array.replicate 24 false).setIfInBounds 0 true).setIfInBounds 1 true) 2 = true := by kernel_rfl
theorem sb_191_7_3 : softB op_191_7 #[true, true, true, true, true, true, true, true, true, true, true, true, true, true, true, true, true, true, true, true, true, true, true, true] ((((Array.replicate 24 false).setIfInBounds 0 true).setIfInBounds 1 true).setIfInBounds 2 true) 3 = true := by kernel_rfl
theorem sb_191_7_4 : softB op_191_7 #[true, true, true, true, true, true, true, true, true, true, true, true, true, true, true, true, true, true, true, true, true, true, true, true] (((((Array.replicate 24 false).setIfInBounds 0 true).setIfInBounds 1 true).setIfInBounds 2 true).setIfInBounds 3 true) 4 = true := by kernel_rfl
theorem sb_191_7_5 : softB op_191_7 #[true, true, true, true, true, true, true, true, true, true, true, true, true, true, true, true, true, true, true, true, true, true, true, true] ((((((Array.replicate 24 false).setIfInBounds 0 true).setIfInBounds 1 true).setIfInBounds 2 true).setIfInBounds 3 true).setIfInBounds 4 true) 5 = true := by kernel_rfl
theorem sb_191_7_6 : softB op_191_7 #[true, true, true, true, true, true, true, true, true, true, true, true, true, true, true, true, true, true, true, true, true, true, true, true] (((((((Array.replicate 24 false).setIfInBounds 0 true).setIfInBounds 1 true).setIfInBounds 2 true).setIfInBounds 3 true).setIfInBounds 4 true).setIfInBounds 5 true) 6 = true := by kernel_rfl
theorem sb_191_7_7 : softB op_191_7 #[true, true, true, true, true, true, true, true, true, true, true, true, true, true, true, true, true, true, true, true, true, true, true, true] ((((((((Array.replicate 24 false).setIfInBounds 0 true).setIfInBounds 1 true).setIfInBounds 2 true).setIfInBounds 3 true).setIfInBounds 4 true).setIfInBounds 5 true).setIfInBounds 6 true) 7 = true := by kernel_rfl
theorem sb_191_7_8 : softB op_191_7 #[true, true, true, true, true, true, true, true, true, true, true, true, true, true, true, true, true, true, true, true, true, true, true, true] (((((((((Array.replicate 24 false).setIfInBounds 0 true).setIfInBounds 1 true).setIfInBounds 2 true).setIfInBounds 3 true).setIfInBounds 4 true).setIfInBounds 5 true).setIfInBounds 6 true).setIfInBounds 7 true) 8 = true := by kernel_rfl
theorem sb_191_7_9 : softB op_191_7 #[true, true, true, true, true, true, true, true, true, true, true, true, true, true, true, true, true, true, true, true, true, true, true, true] ((((((((((Array.replicate 24 false).setIfInBounds 0 true).setIfInBounds 1 true).setIfInBounds 2 true).setIfInBounds 3 true).setIfInBounds 4 true).setIfInBounds 5 true).setIfInBounds 6 true).setIfInBounds 7 true).setIfInBounds 8 true) 9 = true := by kernel_rfl
theorem sb_191_7_10 : softB op_191_7 #[true, true, true, true, true, true, true, true, true, true, true, true, true, true, true, true, true, true, true, true, true, true, true, true] (((((((((((Array.replicate 24 false).setIfInBounds 0 true).setIfInBounds 1 true).setIfInBounds 2 true).setIfInBounds 3 true).setIfInBounds 4 true).setIfInBounds 5 true).setIfInBounds 6 true).setIfInBounds 7 true).setIfInBounds 8 true).setIfInBounds 9 true) 10 = true := by kernel_rfl
theorem sb_191_7_11 : softB op_191_7 #[true, true, true, true, true, true, true, true, true, true, true, true, true, true, true, true, true, true, true, true, true, true, true, true] ((((((((((((Array.replicate 24 false).setIfInBounds 0 true).setIfInBounds 1 true).setIfInBounds 2 true).setIfInBounds 3 true).setIfInBounds 4 true).setIfInBounds 5 true).setIfInBounds 6 true).setIfInBounds 7 true).setIfInBounds 8 true).setIfInBounds 9 true).setIfInBounds 10 true) 11 = true := by kernel_rfl
theorem sb_191_7_12 : softB op_191_7 #[true, true, true, true, true, true, true, true, true, true, true, true, true, true, true, true, true, true, true, true, true, true, true, true] (((((((((((((Array.replicate 24 false).setIfInBounds 0 true).setIfInBounds 1 true).setIfInBounds 2 true).setIfInBounds 3 true).setIfInBounds 4 true).setIfInBounds 5 true).setIfInBounds 6 true).setIfInBounds 7 true).setIfInBounds 8 true).setIfInBounds 9 true).setIfInBounds 10 true).setIfInBounds 11 true) 12 = true := by kernel_rfl
theorem sb_191_7_13 : softB op_191_7 #[true, true, true, true, true, true, true, true, true, true, true, true, true, true, true, true, true, true, true, true, true, true, true, true] ((((((((((((((Array.replicate 24 false).setIfInBounds 0 true).setIfInBounds 1 true).setIfInBounds 2 true).setIfInBounds 3 true).setIfInBounds 4 true).setIfInBounds 5 true).setIfInBounds 6 true).setIfInBounds 7 true).setIfInBounds 8 true).setIfInBounds 9 true).setIfInBounds 10 true).setIfInBounds 11 true).setIfInBounds 12 true) 13 = true := by kernel_rfl
theorem sb_191_7_14 : softB op_191_7 #[true, true, true, true, true, true, true, true, true, true, true, true, true, true, true, true, true, true, true, true, true, true, true, true] (((((((((((((((Array.replicate 24 false).setIfInBounds 0 true).setIfInBounds 1 true).setIfInBounds 2 true).setIfInBounds 3 true).setIfInBounds 4 true).setIfInBounds 5 true).setIfInBounds 6 true).setIfInBounds 7 true).setIfInBounds 8 true).setIfInBounds 9 true).setIfInBounds 10 true).setIfInBounds 11 true).setIfInBounds 12 true).setIfInBounds 13 true) 14 = true := by kernel_rfl
theorem sb_191_7_15 : softB op_191_7 #[true, true, true, true, true, true, true, true, true, true, true, true, true, true, true, true, true, true, true, true, true, true, true, true] ((((((((((((((((Array.replicate 24 false).setIfInBounds 0 true).setIfInBounds 1 true).setIfInBounds 2 true).setIfInBounds 3 true).setIfInBounds 4 true).setIfInBounds 5 true).setIfInBounds 6 true).setIfInBounds 7 true).setIfInBounds 8 true).setIfInBounds 9 true).setIfInBounds 10 true).setIfInBounds 11 true).setIfInBounds 12 true).setIfInBounds 13 true).setIfInBounds 14 true) 15 = true := by kernel_rfl
theorem sb_191_7_16 : softB op_191_7 #[true, true, true, true, true, true, true, true, true, true, true, true, true, true, true, true, true, true, true, true, true, true, true, true] (((((((((((((((((Array.replicate 24 false).setIfInBounds 0 true).setIfInBounds 1 true).setIfInBounds 2 true).setIfInBounds 3 true).setIfInBounds 4 true).setIfInBounds 5 true).setIfInBounds 6 true).setIfInBounds 7 true).setIfInBounds 8 true).setIfInBounds 9 true).setIfInBounds 10 true).setIfInBounds 11 true).setIfInBounds 12 true).setIfInBounds 13 true).setIfInBounds 14 true).setIfInBounds 15 true) 16 = true := by kernel_rfl
theorem sb_191_7_17 : softB op_191_7 #[true, true, true, true, true, true, true, true, true, true, true, true, true, true, true, true, true, true, true, true, true, true, true, true] ((((((((((((((((((Array.replicate 24 false).setIfInBounds 0 true).setIfInBounds 1 true).setIfInBounds 2 true).setIfInBounds 3 true).setIfInBounds 4 true).setIfInBounds 5 true).setIfInBounds 6 true).setIfInBounds 7 true).setIfInBounds 8 true).setIfInBounds 9 true).setIfInBounds 10 true).setIfInBounds 11 true).setIfInBounds 12 true).setIfInBounds 13 true).setIfInBounds 14 true).setIfInBounds 15 true).setIfInBounds 16 true) 17 = true := by kernel_rfl
theorem sb_191_7_18 : softB op_191_7 #[true, true, true, true, true, true, true, true, true, true, true, true, true, true, true, true, true, true, true, true, true, true, true, true] (((((((((((((((((((Array.replicate 24 false).setIfInBounds 0 true).setIfInBounds 1 true).setIfInBounds 2 true).setIfInBounds 3 true).setIfInBounds 4 true).setIfInBounds 5 true).setIfInBounds 6 true).setIfInBounds 7 true).setIfInBounds 8 true).setIfInBounds 9 true).setIfInBounds 10 true).setIfInBounds 11 true).setIfInBounds 12 true).setIfInBounds 13 true).setIfInBounds 14 true).setIfInBounds 15 true).setIfInBounds 16 true).setIfInBounds 17 true) 18 = true := by kernel_rfl
theorem sb_191_7_19 : softB op_191_7 #[true, true, true, true, true, true, true, true, true, true, true, true, true, true, true, true, true, true, true, true, true, true, true, true] ((((((((((((((((((((Array.replicate 24 false).setIfInBounds 0 true).setIfInBounds 1 true).setIfInBounds 2 true).setIfInBounds 3 true).setIfInBounds 4 true).setIfInBounds 5 true).setIfInBounds 6 true).setIfInBounds 7 true).setIfInBounds 8 true).setIfInBounds 9 true).setIfInBounds 10 true).setIfInBounds 11 true).setIfInBounds 12 true).setIfInBounds 13 true).setIfInBounds 14 true).setIfInBounds 15 true).setIfInBounds 16 true).setIfInBounds 17 true).setIfInBounds 18 true) 19 = true := by kernel_rfl
theorem sb_191_7_20 : softB op_191_7 #[true, true, true, true, true, true, true, true, true, true, true, true, true, true, true, true, true, true, true, true, true, true, true, true] (((((((((((((((((((((Array.replicate 24 false).setIfInBounds 0 true).setIfInBounds 1 true).setIfInBounds 2 true).setIfInBounds 3 true).setIfInBounds 4 true).setIfInBounds 5 true).setIfInBounds 6 true).setIfInBounds 7 true).setIfInBounds 8 true).setIfInBounds 9 true).setIfInBounds 10 true).setIfInBounds 11 true).setIfInBounds 12 true).setIfInBounds 13 true).setIfInBounds 14 true).setIfInBounds 15 true).setIfInBounds 16 true).setIfInBounds 17 true).setIfInBounds 18 true).setIfInBounds 19 true) 20 = true := by kernel_rfl
theorem sb_191_7_21 : softB op_191_7 #[true, true, true, true, true, true, true, true, true, true, true, true, true, true, true, true, true, true, true, true, true, true, true, true] ((((((((((((((((((((((Array.replicate 24 false).setIfInBounds 0 true).setIfInBounds 1 true).setIfInBounds 2 true).setIfInBounds 3 true).setIfInBounds 4 true).setIfInBounds 5 true).setIfInBounds 6 true).setIfInBounds 7 true).setIfInBounds 8 true).setIfInBounds 9 true).setIfInBounds 10 true).setIfInBounds 11 true).setIfInBounds 12 true).setIfInBounds 13 true).setIfInBounds 14 true).setIfInBounds 15 true).setIfInBounds 16 true).setIfInBounds 17 true).setIfInBounds 18 true).setIfInBounds 19 true).setIfInBounds 20 true) 21 = true := by kernel_rfl
theorem sb_191_7_22 : softB op_191_7 #[true, true, true, true, true, true, true, true, true, true, true, true, true, true, true, true, true, true, true, true, true, true, true, true] (((((((((((((((((((((((Array.replicate 24 false).setIfInBounds 0 true).setIfInBounds 1 true).setIfInBounds 2 true).setIfInBounds 3 true).setIfInBounds 4 true).setIfInBounds 5 true).setIfInBounds 6 true).setIfInBounds 7 true).setIfInBounds 8 true).setIfInBounds 9 true).setIfInBounds 10 true).setIfInBounds 11 true).setIfInBounds 12 true).setIfInBounds 13 true).setIfInBounds 14 true).setIfInBounds 15 true).setIfInBounds 16 true).setIfInBounds 17 true).setIfInBounds 18 true).setIfInBounds 19 true).setIfInBounds 20 true).setIfInBounds 21 true) 22 = true := by kernel_rfl
theorem sb_191_7_23 : softB op_191_7 #[true, true, true, true, true, true, true, true, true, true, true, true, true, true, true, true, true, true, true, true, true, true, true, true] ((((((((((((((((((((((((Array.replicate 24 false).setIfInBounds 0 true).setIfInBounds 1 true).setIfInBounds 2 true).setIfInBounds 3 true).setIfInBounds 4 true).setIfInBounds 5 true).setIfInBounds 6 true).setIfInBounds 7 true).setIfInBounds 8 true).setIfInBounds 9 true).setIfInBounds 10 true).setIfInBounds 11 true).setIfInBounds 12 true).setIfInBounds 13 true).setIfInBounds 14 true).setIfInBounds 15 true).setIfInBounds 16 true).setIfInBounds 17 true).setIfInBounds 18 true).setIfInBounds 19 true).setIfInBounds 20 true).setIfInBounds 21 true).setIfInBounds 22 true) 23 = true := by kernel_rfl
theorem sb_191_7_24 : hardB op_191_7 (((((((((((((((((((((((((Array.replicate 24 false).setIfInBounds 0 true).setIfInBounds 1 true).setIfInBounds 2 true).setIfInBounds 3 true).setIfInBounds 4 true).setIfInBounds 5 true).setIfInBounds 6 true).setIfInBounds 7 true).setIfInBounds 8 true).setIfInBounds 9 true).setIfInBounds 10 true).setIfInBounds 11 true).setIfInBounds 12 true).setIfInBounds 13 true).setIfInBounds 14 true).setIfInBounds 15 true).setIfInBounds 16 true).setIfInBounds 17 true).setIfInBounds 18 true).setIfInBounds 19 true).setIfInBounds 20 true).setIfInBounds 21 true).setIfInBounds 22 true).setIfInBounds 23 true) [] = true := by kernel_rfl
/- (*objects.Store).soundSuper -/
def m191_w1 (n : Nat) (s : Store) (l1 : List UInt8) (mm : Nat) : Int → Option (Flow (Bool) (Int)) := it1 (fun lp1 c2 =>
cond (decide (c2 < 64)) (
cond (decide (c2 ≤ 48)) (
ob1 (Option.bind (ckA c2 49) fun _ =>
cond (decide ((s.tab c2).state = 2)) (some (true)) (Option.bind (ckA c2 49) fun _ =>
some ((decide ((s.tab c2).state = 3))))) fun c4 =>
cond c4 (
Option.bind (ckA c2 49) fun _ =>
Option.bind (ixL l1 c2) fun x2 =>
cond (decide (¬ ((x2.toNat : Int) = (s.tab c2).first))) (
Option.bind (some false) fun q3 => some (.ret q3)) (
lp1 (wi (c2 + 1)))) (
Option.bind (ixL l1 c2) fun x3 =>
cond (decide (¬ ((x3.toNat : Int) = 0))) (
Option.bind (some false) fun q4 => some (.ret q4)) (
lp1 (wi (c2 + 1))))) (
Option.bind (ixL l1 c2) fun x4 =>
cond (decide (¬ ((x4.toNat : Int) = 0))) (
Option.bind (some false) fun q5 => some (.ret q5)) (
lp1 (wi (c2 + 1))))) (
some (.nx c2))) mm
def m191 (n : Nat) (s : Store) (d : Dev) : Option (Bool) :=
ob1 (m163 n s d 0) fun l1 =>
Option.bind (ixL l1 0) fun x1 =>
cond (decide (¬ ((x1.toNat : Int) = s.root))) (
some false) (
flow (cond (decide (¬ (s.root = 0))) (
cond ((decide (s.root < 1)) || (decide ((48 : Int) < s.root))) (
Option.bind (some false) fun q1 => some (.ret q1)) (
ob1 (Option.bind (ckA s.root 49) fun _ =>
cond (decide (¬ ((s.tab s.root).state = 2))) (Option.bind (ckA s.root 49) fun _ =>
some ((decide (¬ ((s.tab s.root).state = 3))))) (some (false))) fun c1 =>
cond c1 (
Option.bind (some false) fun q2 => some (.ret q2)) (
some (.nx ())))) (
some (.nx ()))) some (fun _ =>
flow (m191_w1 n s l1 n 1) some (un1 fun c3 =>
some true)))
theorem t191 {n : Nat} {C : List Chunk} {rc1 : Bool} {b1 : Nat} {s : Store} {b2 : Nat} {d : Dev} {v1 : Value} {g1 : List Chunk} {v2 : Value} {g2 : List Chunk} {v3 : Value} {g3 : List Chunk} {v4 : Value} {g4 : List Chunk} (ho1 : Own rByte v1 d.blk g1) (ho2 : Own rByte v2 d.base g2) (ho3 : Own rInt v3 d.at_ g3) (ho4 : Own rByte v4 d.data g4)  (hm : m191 n s d = some rc1) : Trip Tryz.prog 191 #[.pointer (some ⟨b1, 0, none⟩)] ([[(b1, .cells (Store.enc (.pointer (some ⟨b2, 0, none⟩)) s).toArray 126 (0, 0))], [(b2, .cells (Dev.enc (v1) (v2) (v3) (v4) d).toArray 85 (0, 0))], g1, g2, g3, g4] ++ [C]) (fun u S' => .bool rc1 = u ∧ S' = [[(b1, .cells (Store.enc (.pointer (some ⟨b2, 0, none⟩)) s).toArray 126 (0, 0))], [(b2, .cells (Dev.enc (v1) (v2) (v3) (v4) d).toArray 85 (0, 0))], g1, g2, g3, g4] ++ [C]) := by
  refine fn_entry (args := [.pointer (some ⟨b1, 0, none⟩)]) Tryz.func191 rfl Tryz.ntmps191 rfl (fun w0 => ?_)
  refine c_seq ?_
  refine c_region ?_
  refine o_L (y_assign rfl) rfl rfl ?_
  refine o_nil0 rfl ?_
  refine c_seq ?_
  refine c_region ?_
  refine o_T (y_move rfl) rfl ?_
  obtain ⟨l1, hx1, hm⟩ := bd1 hm
  refine o_callC en_163 rfl (s_take (s_take (s_take (s_take (s_take (s_take s_nil)))))) (t163 ho1 ho2 ho3 ho4 hx1) rfl (fun u1 S1 hR1 => ?_)
  obtain ⟨v5, g5, rfl, rfl, ho5⟩ := hR1
  refine o_rest ?_
  refine o_L (y_assign rfl) rfl rfl ?_
  refine o_nil0 rfl ?_
  refine c_seq ?_
  refine c_seq ?_
  refine c_draw #[true, true, true, true, true, true, true, true, true] rfl (n := 9) rfl ?_
  refine d_T 0 rfl sb_191_2_0 rfl (y_move rfl) rfl ?_
  obtain ⟨x1, hx2, hm⟩ := bd hm
  obtain ⟨b3, w1, cs1, y1, z1, vs1, hc1, ha1, hr1, hy1⟩ := ho5.rd.ix hx2
  obtain rfl : vs1 = (enc8 x1) := hr1
  refine d_T 1 rfl sb_191_2_1 rfl (hy1 sl_81 rfl rfl rfl) rfl ?_
  refine d_ld 2 rfl sb_191_2_2 one_5 rfl (fun x hx => hx) (ms (ms (ms (ms (ms (ms (mg hc1))))))) (At.getA (ha1)) rfl ?_
  refine d_cv 3 rfl sb_191_2_3 (fun x hx => hx) (y_conv Tryz.underlying5 Tryz.underlying3 rfl (wbi _)) rfl ?_
  refine d_T 4 rfl sb_191_2_4 rfl (y_move rfl) rfl ?_
  refine d_T 5 rfl sb_191_2_5 rfl (y_nilck rfl) rfl ?_
  refine d_T 6 rfl sb_191_2_6 rfl (y_fa fl_126_5 rfl) rfl ?_
  refine d_ld 7 rfl sb_191_2_7 one_3 rfl (fun x hx => hx) m0 (At.got (At.refl.comp Store.a_root)) rfl ?_
  refine d_T 8 rfl sb_191_2_8 rfl (y_neq rfl rfl) rfl ?_
  refine d_nil1 16 sb_191_2_9 rfl rfl ?_
  refine c_cond rfl (fun h1 => ?_) (fun h1 => ?_)
  · have hm := cd_t h1 hm
    refine c_seq ?_
    refine c_region ?_
    refine o_L (y_assign rfl) rfl rfl ?_
    refine o_nil0 rfl ?_
    refine c_ret ?_
    obtain rfl := p1 hm
    refine fun aX wX heX hsX => ret1 Tryz.results191 heX rfl (s_take (s_take (s_take (s_take (s_take (s_take (s_skip (s_take s_nil)))))))) ?_
    exact ⟨rfl, rfl⟩
  · have hm := cd_f h1 hm
    refine c_skip ?_
    refine c_seq ?_
    refine c_seq ?_
    refine c_region ?_
    refine o_T (y_move rfl) rfl ?_
    refine o_T (y_nilck rfl) rfl ?_
    refine o_T (y_fa fl_126_5 rfl) rfl ?_
    refine o_ld one_3 rfl m0 (At.got (At.refl.comp Store.a_root)) rfl ?_
    refine o_T (y_neq rfl rfl) rfl ?_
    refine o_nil1 21 rfl rfl ?_
    obtain ⟨f1, F1, hF1, hj1, hF2⟩ := fl2 hm
    refine c_joinP (n := 0) (fun sh G => sh = [] ∧ G = [] ∧ F1 () = some rc1) (s_take (s_take (s_take (s_take (s_take (s_take (s_take (s_take s_nil)))))))) .z (fun _ _ h => h) ?_ ?_
    · have hm := hj1
      refine c_cond rfl (fun h2 => ?_) (fun h2 => ?_)
      · have hm := cd_t h2 hm
        refine c_seq ?_
        refine c_seq ?_
        refine c_joinP (n := 0) (fun sh G => sh = [(33, .bool ((decide (s.root < 1)) || (decide ((48 : Int) < s.root))))] ∧ G = []) Sel.all' .z (fun _ _ h => h) ?_ ?_
        · skip
          refine c_region ?_
          refine o_T (y_move rfl) rfl ?_
          refine o_T (y_nilck rfl) rfl ?_
          refine o_T (y_fa fl_126_5 rfl) rfl ?_
          refine o_ld one_3 rfl m0 (At.got (At.refl.comp Store.a_root)) rfl ?_
          refine o_T (y_lss rfl rfl) rfl ?_
          refine o_T (y_move rfl) rfl ?_
          refine o_split 27 rfl (fun h3 => ?_) (fun h3 => ?_)
          · skip
            refine o_pass rfl rfl rfl rfl rfl ?_
            refine o_pass rfl rfl rfl rfl rfl ?_
            refine o_pass rfl rfl rfl rfl rfl ?_
            refine o_pass rfl rfl rfl rfl rfl ?_
            refine o_pass rfl rfl rfl rfl rfl ?_
            refine o_T (y_pickT rfl rfl) rfl ?_
            refine o_nil1 33 rfl rfl ?_
            refine ⟨_, _, ⟨rfl, rfl⟩, ⟨by first | rfl | exact gtb rfl (by simp only [h3, Bool.true_and, Bool.false_and, Bool.true_or, Bool.false_or, Bool.and_true, Bool.and_false, Bool.or_true, Bool.or_false, Bool.not_true, Bool.not_false]), trivial⟩, ⟨rfl, rfl⟩, _, (s_take (s_take (s_take (s_take (s_take (s_take (s_take (s_take s_nil))))))))⟩
          · skip
            refine o_take rfl rfl rfl ?_
            refine o_T (y_move rfl) rfl ?_
            refine o_take rfl rfl rfl ?_
            refine o_T (y_nilck rfl) rfl ?_
            refine o_take rfl rfl rfl ?_
            refine o_T (y_fa fl_126_5 rfl) rfl ?_
            refine o_take rfl rfl rfl ?_
            refine o_ld one_3 rfl m0 (At.got (At.refl.comp Store.a_root)) rfl ?_
            refine o_take rfl rfl rfl ?_
            refine o_T (y_gtr rfl rfl) rfl ?_
            refine o_T (y_pickF rfl rfl) rfl ?_
            refine o_nil1 33 rfl rfl ?_
            refine ⟨_, _, ⟨rfl, rfl⟩, ⟨by first | rfl | exact gtb rfl (by simp only [h3, Bool.true_and, Bool.false_and, Bool.true_or, Bool.false_or, Bool.and_true, Bool.and_false, Bool.or_true, Bool.or_false, Bool.not_true, Bool.not_false]), trivial⟩, ⟨rfl, rfl⟩, _, (s_take (s_take (s_take (s_take (s_take (s_take (s_take (s_take s_nil))))))))⟩
        · rintro sh G ⟨rfl, rfl⟩
          refine c_cond rfl (fun h4 => ?_) (fun h4 => ?_)
          · have hm := cd_t h4 hm
            refine c_seq ?_
            refine c_region ?_
            refine o_L (y_assign rfl) rfl rfl ?_
            refine o_nil0 rfl ?_
            refine c_ret ?_
            obtain ⟨q1, hq1, hm⟩ := bd hm
            have hm := fl_ret hm hF2
            have hm := hq1.trans hm
            obtain rfl := p1 hm
            refine fun aX wX heX hsX => ret1 Tryz.results191 heX rfl (s_take (s_take (s_take (s_take (s_take (s_take (s_skip (s_take s_nil)))))))) ?_
            exact ⟨rfl, rfl⟩
          · have hm := cd_f h4 hm
            refine c_skip ?_
            refine c_seq ?_
            obtain ⟨c1, hj2, hm⟩ := bd1 hm
            refine c_joinP (n := 0) (fun sh G => sh = [(57, .bool c1)] ∧ G = []) Sel.all' .z (fun _ _ h => h) ?_ ?_
            · have hm := hj2
              refine c_draw #[true, true, true, true, true, true, true, true, true, true, true, true, true, true, true, true, true, true, true, true, true, true, true, true] rfl (n := 24) rfl ?_
              refine d_T 0 rfl sb_191_7_0 rfl (y_move rfl) rfl ?_
              refine d_T 1 rfl sb_191_7_1 rfl (y_move rfl) rfl ?_
              refine d_T 2 rfl sb_191_7_2 rfl (y_nilck rfl) rfl ?_
              refine d_T 3 rfl sb_191_7_3 rfl (y_fa fl_126_5 rfl) rfl ?_
              refine d_ld 4 rfl sb_191_7_4 one_3 rfl (fun x hx => hx) m0 (At.got (At.refl.comp Store.a_root)) rfl ?_
              refine d_T 5 rfl sb_191_7_5 rfl (y_nilck rfl) rfl ?_
              refine d_T 6 rfl sb_191_7_6 rfl (y_fa fl_126_1 rfl) rfl ?_
              obtain ⟨_, hx3, hm⟩ := bd hm
              have hx3 := ckA_some hx3
              refine d_T 7 rfl sb_191_7_7 rfl (y_ia ar_121 rfl rfl hx3.1 hx3.2) rfl ?_
              refine d_T 8 rfl sb_191_7_8 rfl (y_fa fl_120_0 rfl) rfl ?_
              refine d_ld 9 rfl sb_191_7_9 one_3 rfl (fun x hx => hx) m0 (At.got (((At.refl.comp Store.a_tab).comp (encN_a Entr.len _ _ hx3.1 _ hx3.2)).comp Entr.a_state)) rfl ?_
              refine d_T 10 rfl sb_191_7_10 rfl (y_neq rfl rfl) rfl ?_
              refine d_T 11 rfl sb_191_7_11 rfl (y_move rfl) rfl ?_
              refine d_split 45 rfl (fun h5 => ?_) (fun h5 => ?_)
              · have hm := cd_t h5 hm
                refine d_Tg 12 rfl rfl rfl rfl sb_191_7_12 rfl (y_move rfl) rfl ?_
                refine d_Tg 13 rfl rfl rfl rfl sb_191_7_13 rfl (y_move rfl) rfl ?_
                refine d_Tg 14 rfl rfl rfl rfl sb_191_7_14 rfl (y_nilck rfl) rfl ?_
                refine d_Tg 15 rfl rfl rfl rfl sb_191_7_15 rfl (y_fa fl_126_5 rfl) rfl ?_
                refine d_ldt 16 rfl rfl rfl rfl sb_191_7_16 one_3 rfl (fun x hx => hx) m0 (At.got (At.refl.comp Store.a_root)) rfl ?_
                refine d_Tg 17 rfl rfl rfl rfl sb_191_7_17 rfl (y_nilck rfl) rfl ?_
                refine d_Tg 18 rfl rfl rfl rfl sb_191_7_18 rfl (y_fa fl_126_1 rfl) rfl ?_
                obtain ⟨_, hx4, hm⟩ := bd hm
                have hx4 := ckA_some hx4
                refine d_Tg 19 rfl rfl rfl rfl sb_191_7_19 rfl (y_ia ar_121 rfl rfl hx4.1 hx4.2) rfl ?_
                refine d_Tg 20 rfl rfl rfl rfl sb_191_7_20 rfl (y_fa fl_120_0 rfl) rfl ?_
                refine d_ldt 21 rfl rfl rfl rfl sb_191_7_21 one_3 rfl (fun x hx => hx) m0 (At.got (((At.refl.comp Store.a_tab).comp (encN_a Entr.len _ _ hx4.1 _ hx4.2)).comp Entr.a_state)) rfl ?_
                refine d_Tg 22 rfl rfl rfl rfl sb_191_7_22 rfl (y_neq rfl rfl) rfl ?_
                refine d_T 23 rfl sb_191_7_23 rfl (y_pickT rfl rfl) rfl ?_
                refine d_nil1 57 sb_191_7_24 rfl rfl ?_
                obtain rfl := p1 hm
                exact ⟨_, _, ⟨rfl, rfl⟩, ⟨rfl, trivial⟩, ⟨rfl, rfl⟩, _, (s_take (s_take (s_take (s_take (s_take (s_take (s_take (s_take s_nil))))))))⟩
              · have hm := cd_f h5 hm
                refine d_pass 12 rfl rfl rfl rfl rfl sb_191_7_12 (fun x hx => hx) rfl ?_
                refine d_pass 13 rfl rfl rfl rfl rfl sb_191_7_13 (fun x hx => hx) rfl ?_
                refine d_pass 14 rfl rfl rfl rfl rfl sb_191_7_14 (fun x hx => hx) rfl ?_
                refine d_pass 15 rfl rfl rfl rfl rfl sb_191_7_15 (fun x hx => hx) rfl ?_
                refine d_pass 16 rfl rfl rfl rfl rfl sb_191_7_16 (fun x hx => hx) rfl ?_
                refine d_pass 17 rfl rfl rfl rfl rfl sb_191_7_17 (fun x hx => hx) rfl ?_
                refine d_pass 18 rfl rfl rfl rfl rfl sb_191_7_18 (fun x hx => hx) rfl ?_
                refine d_pass 19 rfl rfl rfl rfl rfl sb_191_7_19 (fun x hx => hx) rfl ?_
                refine d_pass 20 rfl rfl rfl rfl rfl sb_191_7_20 (fun x hx => hx) rfl ?_
                refine d_pass 21 rfl rfl rfl rfl rfl sb_191_7_21 (fun x hx => hx) rfl ?_
                refine d_pass 22 rfl rfl rfl rfl rfl sb_191_7_22 (fun x hx => hx) rfl ?_
                refine d_T 23 rfl sb_191_7_23 rfl (y_pickF rfl rfl) rfl ?_
                refine d_nil1 57 sb_191_7_24 rfl rfl ?_
                obtain rfl := p1 hm
                exact ⟨_, _, ⟨rfl, rfl⟩, ⟨rfl, trivial⟩, ⟨rfl, rfl⟩, _, (s_take (s_take (s_take (s_take (s_take (s_take (s_take (s_take s_nil))))))))⟩
            · rintro sh G ⟨rfl, rfl⟩
              refine c_cond rfl (fun h6 => ?_) (fun h6 => ?_)
              · have hm := cd_t h6 hm
                refine c_seq ?_
                refine c_region ?_
                refine o_L (y_assign rfl) rfl rfl ?_
                refine o_nil0 rfl ?_
                refine c_ret ?_
                obtain ⟨q2, hq2, hm⟩ := bd hm
                have hm := fl_ret hm hF2
                have hm := hq2.trans hm
                obtain rfl := p1 hm
                refine fun aX wX heX hsX => ret1 Tryz.results191 heX rfl (s_take (s_take (s_take (s_take (s_take (s_take (s_skip (s_take s_nil)))))))) ?_
                exact ⟨rfl, rfl⟩
              · have hm := cd_f h6 hm
                refine c_skip ?_
                have hm := fl_nx hm hF2
                exact ⟨_, _, ⟨rfl, rfl, hm⟩, trivial, ⟨rfl, rfl⟩, _, (s_take (s_take (s_take (s_take (s_take (s_take (s_take (s_take s_nil))))))))⟩
      · have hm := cd_f h2 hm
        refine c_skip ?_
        have hm := fl_nx hm hF2
        exact ⟨_, _, ⟨rfl, rfl, hm⟩, trivial, ⟨rfl, rfl⟩, _, (s_take (s_take (s_take (s_take (s_take (s_take (s_take (s_take s_nil))))))))⟩
    · rintro sh G ⟨rfl, rfl, hm⟩
      subst hF1
      refine c_seq ?_
      refine c_seq ?_
      refine c_region ?_
      refine o_L (y_assign rfl) rfl rfl ?_
      refine o_nil0 rfl ?_
      obtain ⟨f2, F2, hF3, hj3, hF4⟩ := fl2 hm
      refine c_joinP (n := 0) (fun sh G => ∃ (c3 : Int), sh = [(4, .int .i64 c3)] ∧ G = [] ∧ F2 c3 = some rc1) (s_take (s_take (s_take (s_take (s_take (s_take (s_take (s_take s_nil)))))))) .z (fun _ _ h => h) ?_ ?_
      · skip
        refine c_block ?_
        refine c_loopP (n := 0) (fun mm sh G => ∃ (c2 : Int), sh = [(4, .int .i64 c2)] ∧ G = [] ∧ m191_w1 n s l1 mm c2 = some f2) n (s_take (s_take (s_take (s_take (s_take (s_take (s_take (s_take s_nil)))))))) .z ⟨_, _, ⟨_, rfl, rfl, hj3⟩, ⟨rfl, trivial⟩, _, (s_take (s_take (s_take (s_take (s_take (s_take (s_take (s_take s_nil))))))))⟩ ?_
        rintro mm sh G ⟨c2, rfl, rfl, hm⟩
        obtain ⟨mm1, rfl, hm⟩ := it1_s hm
        refine c_seq ?_
        refine c_seq ?_
        refine c_region ?_
        refine o_T (y_move rfl) rfl ?_
        refine o_T (y_lss rfl rfl) rfl ?_
        refine o_nil1 59 rfl rfl ?_
        refine c_cond rfl (fun h7 => ?_) (fun h7 => ?_)
        · have hm := cd_t h7 hm
          refine c_skip ?_
          refine c_seq ?_
          refine c_block ?_
          refine c_seq ?_
          refine c_region ?_
          refine o_L (y_assign rfl) rfl rfl ?_
          refine o_nil0 rfl ?_
          refine c_seq ?_
          refine c_seq ?_
          refine c_region ?_
          refine o_T (y_move rfl) rfl ?_
          refine o_T (y_leq rfl rfl) rfl ?_
          refine o_nil1 63 rfl rfl ?_
          refine c_cond rfl (fun h8 => ?_) (fun h8 => ?_)
          · have hm := cd_t h8 hm
            refine c_seq ?_
            obtain ⟨c4, hj4, hm⟩ := bd1 hm
            refine c_joinP (n := 0) (fun sh G => sh = [(81, .bool c4)] ∧ G = []) Sel.all' .z (fun _ _ h => h) ?_ ?_
            · have hm := hj4
              refine c_region ?_
              refine o_T (y_move rfl) rfl ?_
              refine o_T (y_move rfl) rfl ?_
              refine o_T (y_nilck rfl) rfl ?_
              refine o_T (y_fa fl_126_1 rfl) rfl ?_
              obtain ⟨_, hx5, hm⟩ := bd hm
              have hx5 := ckA_some hx5
              refine o_T (y_ia ar_121 rfl rfl hx5.1 hx5.2) rfl ?_
              refine o_T (y_fa fl_120_0 rfl) rfl ?_
              refine o_ld one_3 rfl m0 (At.got (((At.refl.comp Store.a_tab).comp (encN_a Entr.len _ _ hx5.1 _ hx5.2)).comp Entr.a_state)) rfl ?_
              refine o_T (y_eql rfl rfl) rfl ?_
              refine o_T (y_move rfl) rfl ?_
              refine o_split 72 rfl (fun h9 => ?_) (fun h9 => ?_)
              · have hm := cd_t h9 hm
                refine o_pass rfl rfl rfl rfl rfl ?_
                refine o_pass rfl rfl rfl rfl rfl ?_
                refine o_pass rfl rfl rfl rfl rfl ?_
                refine o_pass rfl rfl rfl rfl rfl ?_
                refine o_pass rfl rfl rfl rfl rfl ?_
                refine o_pass rfl rfl rfl rfl rfl ?_
                refine o_pass rfl rfl rfl rfl rfl ?_
                refine o_pass rfl rfl rfl rfl rfl ?_
                refine o_T (y_pickT rfl rfl) rfl ?_
                refine o_nil1 81 rfl rfl ?_
                obtain rfl := p1 hm
                exact ⟨_, _, ⟨rfl, rfl⟩, ⟨rfl, trivial⟩, ⟨rfl, rfl⟩, _, (s_take (s_take (s_take (s_take (s_take (s_take (s_take (s_take s_nil))))))))⟩
              · have hm := cd_f h9 hm
                refine o_take rfl rfl rfl ?_
                refine o_T (y_move rfl) rfl ?_
                refine o_take rfl rfl rfl ?_
                refine o_T (y_move rfl) rfl ?_
                refine o_take rfl rfl rfl ?_
                refine o_T (y_nilck rfl) rfl ?_
                refine o_take rfl rfl rfl ?_
                refine o_T (y_fa fl_126_1 rfl) rfl ?_
                refine o_take rfl rfl rfl ?_
                obtain ⟨_, hx6, hm⟩ := bd hm
                have hx6 := ckA_some hx6
                refine o_T (y_ia ar_121 rfl rfl hx6.1 hx6.2) rfl ?_
                refine o_take rfl rfl rfl ?_
                refine o_T (y_fa fl_120_0 rfl) rfl ?_
                refine o_take rfl rfl rfl ?_
                refine o_ld one_3 rfl m0 (At.got (((At.refl.comp Store.a_tab).comp (encN_a Entr.len _ _ hx6.1 _ hx6.2)).comp Entr.a_state)) rfl ?_
                refine o_take rfl rfl rfl ?_
                refine o_T (y_eql rfl rfl) rfl ?_
                refine o_T (y_pickF rfl rfl) rfl ?_
                refine o_nil1 81 rfl rfl ?_
                obtain rfl := p1 hm
                exact ⟨_, _, ⟨rfl, rfl⟩, ⟨rfl, trivial⟩, ⟨rfl, rfl⟩, _, (s_take (s_take (s_take (s_take (s_take (s_take (s_take (s_take s_nil))))))))⟩
            · rintro sh G ⟨rfl, rfl⟩
              refine c_cond rfl (fun h10 => ?_) (fun h10 => ?_)
              · have hm := cd_t h10 hm
                refine c_region ?_
                refine o_T (y_move rfl) rfl ?_
                refine o_T (y_move rfl) rfl ?_
                refine o_T (y_nilck rfl) rfl ?_
                refine o_T (y_fa fl_126_1 rfl) rfl ?_
                obtain ⟨_, hx7, hm⟩ := bd hm
                have hx7 := ckA_some hx7
                refine o_T (y_ia ar_121 rfl rfl hx7.1 hx7.2) rfl ?_
                refine o_T (y_fa fl_120_3 rfl) rfl ?_
                refine o_ld one_3 rfl m0 (At.got (((At.refl.comp Store.a_tab).comp (encN_a Entr.len _ _ hx7.1 _ hx7.2)).comp Entr.a_first)) rfl ?_
                refine o_L (y_assign rfl) rfl rfl ?_
                refine o_nil0 rfl ?_
                refine c_seq ?_
                refine c_region ?_
                refine o_T (y_move rfl) rfl ?_
                refine o_T (y_move rfl) rfl ?_
                obtain ⟨x2, hx8, hm⟩ := bd hm
                obtain ⟨b4, w2, cs2, y2, z2, vs2, hc2, ha2, hr2, hy2⟩ := ho5.rd.ix hx8
                obtain rfl : vs2 = (enc8 x2) := hr2
                refine o_T (hy2 sl_81 rfl rfl rfl) rfl ?_
                refine o_ld one_5 rfl (ms (ms (ms (ms (ms (ms (mg hc2))))))) (At.getA (ha2)) rfl ?_
                refine o_T (y_conv Tryz.underlying5 Tryz.underlying3 rfl (wbi _)) rfl ?_
                refine o_T (y_move rfl) rfl ?_
                refine o_T (y_neq rfl rfl) rfl ?_
                refine o_nil1 95 rfl rfl ?_
                refine c_cond rfl (fun h11 => ?_) (fun h11 => ?_)
                · have hm := cd_t h11 hm
                  refine c_seq ?_
                  refine c_region ?_
                  refine o_L (y_assign rfl) rfl rfl ?_
                  refine o_nil0 rfl ?_
                  refine c_ret ?_
                  obtain ⟨q3, hq3, hm⟩ := bd hm
                  have hm := fl_ret hm hF4
                  have hm := hq3.trans hm
                  obtain rfl := p1 hm
                  refine fun aX wX heX hsX => ret1 Tryz.results191 heX rfl (s_take (s_take (s_take (s_take (s_take (s_take (s_skip (s_take s_nil)))))))) ?_
                  exact ⟨rfl, rfl⟩
                · have hm := cd_f h11 hm
                  refine c_skip ?_
                  refine c_region ?_
                  refine o_T (y_move rfl) rfl ?_
                  refine o_T (y_add rfl rfl rfl) rfl ?_
                  refine o_L (y_assign rfl) rfl rfl ?_
                  refine o_nil0 rfl ?_
                  exact ⟨mm1, Nat.lt_succ_self _, _, _, ⟨_, rfl, rfl, hm⟩, ⟨rfl, trivial⟩, ⟨rfl, rfl⟩, _, (s_take (s_take (s_take (s_take (s_take (s_take (s_take (s_take s_nil))))))))⟩
              · have hm := cd_f h10 hm
                refine c_skip ?_
                refine c_seq ?_
                refine c_region ?_
                refine o_T (y_move rfl) rfl ?_
                refine o_T (y_move rfl) rfl ?_
                obtain ⟨x3, hx9, hm⟩ := bd hm
                obtain ⟨b5, w3, cs3, y3, z3, vs3, hc3, ha3, hr3, hy3⟩ := ho5.rd.ix hx9
                obtain rfl : vs3 = (enc8 x3) := hr3
                refine o_T (hy3 sl_81 rfl rfl rfl) rfl ?_
                refine o_ld one_5 rfl (ms (ms (ms (ms (ms (ms (mg hc3))))))) (At.getA (ha3)) rfl ?_
                refine o_T (y_conv Tryz.underlying5 Tryz.underlying3 rfl (wbi _)) rfl ?_
                refine o_T (y_move rfl) rfl ?_
                refine o_T (y_neq rfl rfl) rfl ?_
                refine o_nil1 95 rfl rfl ?_
                refine c_cond rfl (fun h12 => ?_) (fun h12 => ?_)
                · have hm := cd_t h12 hm
                  refine c_seq ?_
                  refine c_region ?_
                  refine o_L (y_assign rfl) rfl rfl ?_
                  refine o_nil0 rfl ?_
                  refine c_ret ?_
                  obtain ⟨q4, hq4, hm⟩ := bd hm
                  have hm := fl_ret hm hF4
                  have hm := hq4.trans hm
                  obtain rfl := p1 hm
                  refine fun aX wX heX hsX => ret1 Tryz.results191 heX rfl (s_take (s_take (s_take (s_take (s_take (s_take (s_skip (s_take s_nil)))))))) ?_
                  exact ⟨rfl, rfl⟩
                · have hm := cd_f h12 hm
                  refine c_skip ?_
                  refine c_region ?_
                  refine o_T (y_move rfl) rfl ?_
                  refine o_T (y_add rfl rfl rfl) rfl ?_
                  refine o_L (y_assign rfl) rfl rfl ?_
                  refine o_nil0 rfl ?_
                  exact ⟨mm1, Nat.lt_succ_self _, _, _, ⟨_, rfl, rfl, hm⟩, ⟨rfl, trivial⟩, ⟨rfl, rfl⟩, _, (s_take (s_take (s_take (s_take (s_take (s_take (s_take (s_take s_nil))))))))⟩
          · have hm := cd_f h8 hm
            refine c_skip ?_
            refine c_seq ?_
            refine c_region ?_
            refine o_T (y_move rfl) rfl ?_
            refine o_T (y_move rfl) rfl ?_
            obtain ⟨x4, hx10, hm⟩ := bd hm
            obtain ⟨b6, w4, cs4, y4, z4, vs4, hc4, ha4, hr4, hy4⟩ := ho5.rd.ix hx10
            obtain rfl : vs4 = (enc8 x4) := hr4
            refine o_T (hy4 sl_81 rfl rfl rfl) rfl ?_
            refine o_ld one_5 rfl (ms (ms (ms (ms (ms (ms (mg hc4))))))) (At.getA (ha4)) rfl ?_
            refine o_T (y_conv Tryz.underlying5 Tryz.underlying3 rfl (wbi _)) rfl ?_
            refine o_T (y_move rfl) rfl ?_
            refine o_T (y_neq rfl rfl) rfl ?_
            refine o_nil1 95 rfl rfl ?_
            refine c_cond rfl (fun h13 => ?_) (fun h13 => ?_)
            · have hm := cd_t h13 hm
              refine c_seq ?_
              refine c_region ?_
              refine o_L (y_assign rfl) rfl rfl ?_
              refine o_nil0 rfl ?_
              refine c_ret ?_
              obtain ⟨q5, hq5, hm⟩ := bd hm
              have hm := fl_ret hm hF4
              have hm := hq5.trans hm
              obtain rfl := p1 hm
              refine fun aX wX heX hsX => ret1 Tryz.results191 heX rfl (s_take (s_take (s_take (s_take (s_take (s_take (s_skip (s_take s_nil)))))))) ?_
              exact ⟨rfl, rfl⟩
            · have hm := cd_f h13 hm
              refine c_skip ?_
              refine c_region ?_
              refine o_T (y_move rfl) rfl ?_
              refine o_T (y_add rfl rfl rfl) rfl ?_
              refine o_L (y_assign rfl) rfl rfl ?_
              refine o_nil0 rfl ?_
              exact ⟨mm1, Nat.lt_succ_self _, _, _, ⟨_, rfl, rfl, hm⟩, ⟨rfl, trivial⟩, ⟨rfl, rfl⟩, _, (s_take (s_take (s_take (s_take (s_take (s_take (s_take (s_take s_nil))))))))⟩
        · have hm := cd_f h7 hm
          refine c_exit ?_
          have hm := fl_nx hm hF4
          exact ⟨_, _, ⟨_, rfl, rfl, hm⟩, ⟨rfl, trivial⟩, ⟨rfl, rfl⟩, _, (s_take (s_take (s_take (s_take (s_take (s_take (s_take (s_take s_nil))))))))⟩
      · rintro sh G ⟨c3, rfl, rfl, hm⟩
        subst hF3
        refine c_seq ?_
        refine c_region ?_
        refine o_L (y_assign rfl) rfl rfl ?_
        refine o_nil0 rfl ?_
        refine c_ret ?_
        obtain rfl := p1 hm
        refine fun aX wX heX hsX => ret1 Tryz.results191 heX rfl (s_take (s_take (s_take (s_take (s_take (s_take (s_skip (s_take s_nil)))))))) ?_
        exact ⟨rfl, rfl⟩
end Go.Proofs.Qxb6500350aGreat
