/- MADE BY PROGRAM (tools350/mir.py): mirror and walk. -/
import Derived.Test.Qxb6500350aGreatF2
import Derived.Test.Qxb6500350aGreatT152
set_option linter.unusedVariables false
set_option linter.unusedSimpArgs false
set_option maxRecDepth 20000
set_option maxHeartbeats 4000000
namespace Go.Proofs.Qxb6500350aGreat
open Go.Eng

def op_224_11 : Array Go.Oper := #[{ dst := some 38, op := Go.Op.move (Go.Operand.tmp 1), type := 57, pos := "diff.go:129", after := #[], guard := none }, { dst := some 39, op := Go.Op.move (Go.Operand.tmp 10), type := 3, pos := "diff.go:129", after := #[], guard := none }, { dst := some 40, op := Go.Op.indexAddr 57 (Go.Operand.tmp 38) (Go.Operand.tmp 39), type := 0, pos := "diff.go:129", after := #[{ on := 0, ground := Go.Ground.data }, { on := 1, ground := Go.Ground.data }], guard := none }, { dst := some 41, op := Go.Op.fieldAddr 71 (Go.Operand.tmp 40) 0, type := 0, pos := "diff.go:129", after := #[{ on := 2, ground := Go.Ground.data }], guard := none }, { dst := some 42, op := Go.Op.load 9 (Go.Operand.tmp 41), type := 9, pos := "diff.go:129", after := #[{ on := 3, ground := Go.Ground.data }], guard := none }, { dst := some 43, op := Go.Op.move (Go.Operand.tmp 2), type := 57, pos := "diff.go:129", after := #[], guard := none }, { dst := some 44, op := Go.Op.move (Go.Operand.tmp 11), type := 3, pos := "diff.go:129", after := #[], guard := none }, { dst := some 45, op := Go.Op.indexAddr 57 (Go.Operand.tmp 43) (Go.Operand.tmp 44), type := 0, pos := "diff.go:129", after := #[{ on := 5, ground := Go.Ground.data }, { on := 6, ground := Go.Ground.data }], guard := none }, { dst := some 46, op := Go.Op.fieldAddr 71 (Go.Operand.tmp 45) 0, type := 0, pos := "diff.go:129", after := #[{ on := 7, ground := Go.Ground.data }], guard := none }, { dst := some 47, op := Go.Op.load 9 (Go.Operand.tmp 46), type := 9, pos := "diff.go:129", after := #[{ on := 8, ground := Go.Ground.data }], guard := none }, { dst := some 48, op := Go.Op.binOp Go.BinOp.lss 9 (Go.Operand.tmp 42) (Go.Operand.tmp 47) 9, type := 4, pos := "diff.go:129", after := #[{ on := 4, ground := Go.Ground.data }, { on := 9, ground := Go.Ground.data }], guard := none }]
def op_224_14 : Array Go.Oper := #[{ dst := some 60, op := Go.Op.move (Go.Operand.tmp 2), type := 57, pos := "diff.go:132", after := #[], guard := none }, { dst := some 61, op := Go.Op.move (Go.Operand.tmp 11), type := 3, pos := "diff.go:132", after := #[], guard := none }, { dst := some 62, op := Go.Op.indexAddr 57 (Go.Operand.tmp 60) (Go.Operand.tmp 61), type := 0, pos := "diff.go:132", after := #[{ on := 0, ground := Go.Ground.data }, { on := 1, ground := Go.Ground.data }], guard := none }, { dst := some 63, op := Go.Op.fieldAddr 71 (Go.Operand.tmp 62) 0, type := 0, pos := "diff.go:132", after := #[{ on := 2, ground := Go.Ground.data }], guard := none }, { dst := some 64, op := Go.Op.load 9 (Go.Operand.tmp 63), type := 9, pos := "diff.go:132", after := #[{ on := 3, ground := Go.Ground.data }], guard := none }, { dst := some 65, op := Go.Op.move (Go.Operand.tmp 1), type := 57, pos := "diff.go:132", after := #[], guard := none }, { dst := some 66, op := Go.Op.move (Go.Operand.tmp 10), type := 3, pos := "diff.go:132", after := #[], guard := none }, { dst := some 67, op := Go.Op.indexAddr 57 (Go.Operand.tmp 65) (Go.Operand.tmp 66), type := 0, pos := "diff.go:132", after := #[{ on := 5, ground := Go.Ground.data }, { on := 6, ground := Go.Ground.data }], guard := none }, { dst := some 68, op := Go.Op.fieldAddr 71 (Go.Operand.tmp 67) 0, type := 0, pos := "diff.go:132", after := #[{ on := 7, ground := Go.Ground.data }], guard := none }, { dst := some 69, op := Go.Op.load 9 (Go.Operand.tmp 68), type := 9, pos := "diff.go:132", after := #[{ on := 8, ground := Go.Ground.data }], guard := none }, { dst := some 70, op := Go.Op.binOp Go.BinOp.lss 9 (Go.Operand.tmp 64) (Go.Operand.tmp 69) 9, type := 4, pos := "diff.go:132", after := #[{ on := 4, ground := Go.Ground.data }, { on := 9, ground := Go.Ground.data }], guard := none }]
def op_224_17 : Array Go.Oper := #[{ dst := some 82, op := Go.Op.move (Go.Operand.tmp 1), type := 57, pos := "diff.go:136", after := #[], guard := none }, { dst := some 83, op := Go.Op.move (Go.Operand.tmp 10), type := 3, pos := "diff.go:136", after := #[], guard := none }, { dst := some 84, op := Go.Op.indexAddr 57 (Go.Operand.tmp 82) (Go.Operand.tmp 83), type := 0, pos := "diff.go:136", after := #[{ on := 0, ground := Go.Ground.data }, { on := 1, ground := Go.Ground.data }], guard := none }, { dst := some 85, op := Go.Op.fieldAddr 71 (Go.Operand.tmp 84) 1, type := 0, pos := "diff.go:136", after := #[{ on := 2, ground := Go.Ground.data }], guard := none }, { dst := some 86, op := Go.Op.load 9 (Go.Operand.tmp 85), type := 9, pos := "diff.go:136", after := #[{ on := 3, ground := Go.Ground.data }], guard := none }, { dst := some 87, op := Go.Op.move (Go.Operand.tmp 2), type := 57, pos := "diff.go:136", after := #[], guard := none }, { dst := some 88, op := Go.Op.move (Go.Operand.tmp 11), type := 3, pos := "diff.go:136", after := #[], guard := none }, { dst := some 89, op := Go.Op.indexAddr 57 (Go.Operand.tmp 87) (Go.Operand.tmp 88), type := 0, pos := "diff.go:136", after := #[{ on := 5, ground := Go.Ground.data }, { on := 6, ground := Go.Ground.data }], guard := none }, { dst := some 90, op := Go.Op.fieldAddr 71 (Go.Operand.tmp 89) 1, type := 0, pos := "diff.go:136", after := #[{ on := 7, ground := Go.Ground.data }], guard := none }, { dst := some 91, op := Go.Op.load 9 (Go.Operand.tmp 90), type := 9, pos := "diff.go:136", after := #[{ on := 8, ground := Go.Ground.data }], guard := none }, { dst := some 92, op := Go.Op.binOp Go.BinOp.neq 9 (Go.Operand.tmp 86) (Go.Operand.tmp 91) 9, type := 4, pos := "diff.go:136", after := #[{ on := 4, ground := Go.Ground.data }, { on := 9, ground := Go.Ground.data }], guard := none }, { dst := some 93, op := Go.Op.move (Go.Operand.tmp 92), type := 4, pos := "diff.go:136", after := #[{ on := 10, ground := Go.Ground.data }], guard := none }, { dst := some 94, op := Go.Op.move (Go.Operand.tmp 1), type := 57, pos := "diff.go:136", after := #[{ on := 11, ground := Go.Ground.guard }], guard := some (11, false) }, { dst := some 95, op := Go.Op.move (Go.Operand.tmp 10), type := 3, pos := "diff.go:136", after := #[{ on := 11, ground := Go.Ground.guard }], guard := some (11, false) }, { dst := some 96, op := Go.Op.indexAddr 57 (Go.Operand.tmp 94) (Go.Operand.tmp 95), type := 0, pos := "diff.go:136", after := #[{ on := 12, ground := Go.Ground.data }, { on := 13, ground := Go.Ground.data }, { on := 11, ground := Go.Ground.guard }], guard := some (11, false) }, { dst := some 97, op := Go.Op.fieldAddr 71 (Go.Operand.tmp 96) 2, type := 0, pos := "diff.go:136", after := #[{ on := 14, ground := Go.Ground.data }, { on := 11, ground := Go.Ground.guard }], guard := some (11, false) }, { dst := some 98, op := Go.Op.load 3 (Go.Operand.tmp 97), type := 3, pos := "diff.go:136", after := #[{ on := 15, ground := Go.Ground.data }, { on := 11, ground := Go.Ground.guard }], guard := some (11, false) }, { dst := some 99, op := Go.Op.move (Go.Operand.tmp 2), type := 57, pos := "diff.go:136", after := #[{ on := 11, ground := Go.Ground.guard }], guard := some (11, false) }, { dst := some 100, op := Go.Op.move (Go.Operand.tmp 11), type := 3, pos := "diff.go:136", after := #[{ on := 11, ground := Go.Ground.guard }], guard := some (11, false) }, { dst := some 101, op := Go.Op.indexAddr 57 (Go.Operand.tmp 99) (Go.Operand.tmp 100), type := 0, pos := "diff.go:136", after := #[{ on := 17, ground := Go.Ground.data }, { on := 18, ground := Go.Ground.data }, { on := 11, ground := Go.Ground.guard }], guard := some (11, false) }, { dst := some 102, op := Go.Op.fieldAddr 71 (Go.Operand.tmp 101) 2, type := 0, pos := "diff.go:136", after := #[{ on := 19, ground := Go.Ground.data }, { on := 11, ground := Go.Ground.guard }], guard := some (11, false) }, { dst := some 103, op := Go.Op.load 3 (Go.Operand.tmp 102), type := 3, pos := "diff.go:136", after := #[{ on := 20, ground := Go.Ground.data }, { on := 11, ground := Go.Ground.guard }], guard := some (11, false) }, { dst := some 104, op := Go.Op.binOp Go.BinOp.neq 3 (Go.Operand.tmp 98) (Go.Operand.tmp 103) 3, type := 4, pos := "diff.go:136", after := #[{ on := 16, ground := Go.Ground.data }, { on := 21, ground := Go.Ground.data }, { on := 11, ground := Go.Ground.guard }], guard := some (11, false) }, { dst := some 105, op := Go.Op.pick (Go.Operand.tmp 93) (Go.Operand.const (Go.Value.bool true)) (Go.Operand.tmp 104), type := 4, pos := "diff.go:136", after := #[{ on := 11, ground := Go.Ground.data }, { on := 22, ground := Go.Ground.data }], guard := none }]
theorem sb_224_11_0 : softB op_224_11 #[true, true, true, true, true, true, true, true, true, true, true] (Array.replicate 11 false) 0 = true := by kernel_rfl
theorem sb_224_11_1 : softB op_224_11 #[true, true, true, true, true, true, true, true, true, true, true] ((Array.replicate 11 false).setIfInBounds 0 true) 1 = true := by kernel_rfl
theorem sb_224_11_2 : softB op_224_11 #[true, true, true, true, true, true, true, true, true, true, true] (((Array.replicate 11 false).setIfInBounds 0 true).setIfInBounds 1 true) 2 = true := by kernel_rfl
theorem sb_224_11_3 : softB op_224_11 #[true, true, true, true, true, true, true, true, true, true, true] ((((Array.replicate 11 false).setIfInBounds 0 true).setIfInBounds 1 true).setIfInBounds 2 true) 3 = true := by kernel_rfl
theorem sb_224_11_4 : softB op_224_11 #[true, true, true, true, true, true, true, true, true, true, true] (((((Array.replicate 11 false).setIfInBounds 0 true).setIfInBounds 1 true).setIfInBounds 2 true).setIfInBounds 3 true) 4 = true := by kernel_rfl
theorem sb_224_11_5 : softB op_224_11 #[true, true, true, true, true, true, true, true, true, true, true] ((((((Array.replicate 11 false).setIfInBounds 0 true).setIfInBounds 1 true).setIfInBounds 2 true).setIfInBounds 3 true).setIfInBounds 4 true) 5 = true := by kernel_rfl
theorem sb_224_11_6 : softB op_224_11 #[true, true, true, true, true, true, true, true, true, true, true] (((((((Array.replicate 11 false).setIfInBounds 0 true).setIfInBounds 1 true).setIfInBounds 2 true).setIfInBounds 3 true).setIfInBounds 4 true).setIfInBounds 5 true) 6 = true := by kernel_rfl
theorem sb_224_11_7 : softB op_224_11 #[true, true, true, true, true, true, true, true, true, true, true] ((((((((Array.replicate 11 false).setIfInBounds 0 true).setIfInBounds 1 true).setIfInBounds 2 true).setIfInBounds 3 true).setIfInBounds 4 true).setIfInBounds 5 true).setIfInBounds 6 true) 7 = true := by kernel_rfl
theorem sb_224_11_8 : softB op_224_11 #[true, true, true, true, true, true, true, true, true, true, true] (((((((((Array.replicate 11 false).setIfInBounds 0 true).setIfInBounds 1 true).setIfInBounds 2 true).setIfInBounds 3 true).setIfInBounds 4 true).setIfInBounds 5 true).setIfInBounds 6 true).setIfInBounds 7 true) 8 = true := by kernel_rfl
theorem sb_224_11_9 : softB op_224_11 #[true, true, true, true, true, true, true, true, true, true, true] ((((((((((Array.replicate 11 false).setIfInBounds 0 true).setIfInBounds 1 true).setIfInBounds 2 true).setIfInBounds 3 true).setIfInBounds 4 true).setIfInBounds 5 true).setIfInBounds 6 true).setIfInBounds 7 true).setIfInBounds 8 true) 9 = true := by kernel_rfl
theorem sb_224_11_10 : softB op_224_11 #[true, true, true, true, true, true, true, true, true, true, true] (((((((((((Array.replicate 11 false).setIfInBounds 0 true).setIfInBounds 1 true).setIfInBounds 2 true).setIfInBounds 3 true).setIfInBounds 4 true).setIfInBounds 5 true).setIfInBounds 6 true).setIfInBounds 7 true).setIfInBounds 8 true).setIfInBounds 9 true) 10 = true := by kernel_rfl
theorem sb_224_11_11 : hardB op_224_11 ((((((((((((Array.replicate 11 false).setIfInBounds 0 true).setIfInBounds 1 true).setIfInBounds 2 true).setIfInBounds 3 true).setIfInBounds 4 true).setIfInBounds 5 true).setIfInBounds 6 true).setIfInBounds 7 true).setIfInBounds 8 true).setIfInBounds 9 true).setIfInBounds 10 true) [] = true := by kernel_rfl
theorem sb_224_14_0 : softB op_224_14 #[true, true, true, true, true, true, true, true, true, true, true] (Array.replicate 11 false) 0 = true := by kernel_rfl
theorem sb_224_14_1 : softB op_224_14 #[true, true, true, true, true, true, true, true, true, true, true] ((Array.replicate 11 false).setIfInBounds 0 true) 1 = true := by kernel_rfl
theorem sb_224_14_2 : softB op_224_14 #[true, true, true, true, true, true, true, true, true, true, true] (((Array.replicate 11 false).setIfInBounds 0 true).setIfInBounds 1 true) 2 = true := by kernel_rfl
theorem sb_224_14_3 : softB op_224_14 #[true, true, true, true, true, true, true, true, true, true, true] ((((Array.replicate 11 false).setIfInBounds 0 true).setIfInBounds 1 true).setIfInBounds 2 true) 3 = true := by kernel_rfl
theorem sb_224_14_4 : softB op_224_14 #[true, true, true, true, true, true, true, true, true, true, true] (((((Array.replicate 11 false).setIfInBounds 0 true).setIfInBounds 1 true).setIfInBounds 2 true).setIfInBounds 3 true) 4 = true := by kernel_rfl
theorem sb_224_14_5 : softB op_224_14 #[true, true, true, true, true, true, true, true, true, true, true] ((((((Array.replicate 11 false).setIfInBounds 0 true).setIfInBounds 1 true).setIfInBounds 2 true).setIfInBounds 3 true).setIfInBounds 4 true) 5 = true := by kernel_rfl
theorem sb_224_14_6 : softB op_224_14 #[true, true, true, true, true, true, true, true, true, true, true] (((((((Array.replicate 11 false).setIfInBounds 0 true).setIfInBounds 1 true).setIfInBounds 2 true).setIfInBounds 3 true).setIfInBounds 4 true).setIfInBounds 5 true) 6 = true := by kernel_rfl
theorem sb_224_14_7 : softB op_224_14 #[true, true, true, true, true, true, true, true, true, true, true] ((((((((Array.replicate 11 false).setIfInBounds 0 true).setIfInBounds 1 true).setIfInBounds 2 true).setIfInBounds 3 true).setIfInBounds 4 true).setIfInBounds 5 true).setIfInBounds 6 true) 7 = true := by kernel_rfl
theorem sb_224_14_8 : softB op_224_14 #[true, true, true, true, true, true, true, true, true, true, true] (((((((((Array.replicate 11 false).setIfInBounds 0 true).setIfInBounds 1 true).setIfInBounds 2 true).setIfInBounds 3 true).setIfInBounds 4 true).setIfInBounds 5 true).setIfInBounds 6 true).setIfInBounds 7 true) 8 = true := by kernel_rfl
theorem sb_224_14_9 : softB op_224_14 #[true, true, true, true, true, true, true, true, true, true, true] ((((((((((Array.replicate 11 false).setIfInBounds 0 true).setIfInBounds 1 true).setIfInBounds 2 true).setIfInBounds 3 true).setIfInBounds 4 true).setIfInBounds 5 true).setIfInBounds 6 true).setIfInBounds 7 true).setIfInBounds 8 true) 9 = true := by kernel_rfl
theorem sb_224_14_10 : softB op_224_14 #[true, true, true, true, true, true, true, true, true, true, true] (((((((((((Array.replicate 11 false).setIfInBounds 0 true).setIfInBounds 1 true).setIfInBounds 2 true).setIfInBounds 3 true).setIfInBounds 4 true).setIfInBounds 5 true).setIfInBounds 6 true).setIfInBounds 7 true).setIfInBounds 8 true).setIfInBounds 9 true) 10 = true := by kernel_rfl
theorem sb_224_14_11 : hardB op_224_14 ((((((((((((Array.replicate 11 false).setIfInBounds 0 true).setIfInBounds 1 true).setIfInBounds 2 true).setIfInBounds 3 true).setIfInBounds 4 true).setIfInBounds 5 true).setIfInBounds 6 true).setIfInBounds 7 true).setIfInBounds 8 true).setIfInBounds 9 true).setIfInBounds 10 true) [] = true := by kernel_rfl
theorem sb_224_17_0 : softB op_224_17 #[true, true, true, true, true, true, true, true, true, true, true, true, true, true, true, true, true, true, true, true, true, true, true, true] (Array.replicate 24 false) 0 = true := by kernel_rfl
theorem sb_224_17_1 : softB op_224_17 #[true, true, true, true, true, true, true, true, true, true, true, true, true, true, true, true, true, true, true, true, true, true, true, true] ((Array.replicate 24 false).setIfInBounds 0 true) 1 = true := by kernel_rfl
theorem sb_224_17_2 : softB op_224_17 #[true, true, true, true, true, true, true, true, true, true, true, true, true, true, true, true, true, true, true, true, true, true, true, true] (((Array.replicate 24 false).setIfInBounds 0 true).setIfInBounds 1 true) 2 = true := by kernel_rfl
theorem sb_224_17_3 : softB op_224_17 #[true, true, true, true, true, true, true, true, true, true, true, true, true, true, true, true, true, true, true, true, true, true, true, true] ((((Array.replicate 24 false).setIfInBounds 0 true).setIfInBounds 1 true).setIfInBounds 2 true) 3 = true := by kernel_rfl
theorem sb_224_17_4 : softB op_224_17 #[true, true, true, true, true, true, true, true, true, true, true, true, true, true, true, true, true, true, true, true, true, true, true, true] (((((Array.replicate 24 false).setIfInBounds 0 true).setIfInBounds 1 true).setIfInBounds 2 true).setIfInBounds 3 true) 4 = true := by kernel_rfl
theorem sb_224_17_5 : softB op_224_17 #[true, true, true, true, true, true, true, true, true, true, true, true, true, true, true, true, true, true, true, true, true, true, true, true] ((((((Array.replicate 24 false).setIfInBounds 0 true).setIfInBounds 1 true).setIfInBounds 2 true).setIfInBounds 3 true).setIfInBounds 4 true) 5 = true := by kernel_rfl
theorem sb_224_17_6 : softB op_224_17 #[true, true, true, true, true, true, true, true, true, true, true, true, true, true, true, true, true, true, true, true, true, true, true, true] (((((((Array.replicate 24 false).setIfInBounds 0 true).setIfInBounds 1 true).setIfInBounds 2 true).setIfInBounds 3 true).setIfInBounds 4 true).setIfInBounds 5 true) 6 = true := by kernel_rfl
theorem sb_224_17_7 : softB op_224_17 #[true, true, true, true, true, true, true, true, true, true, true, true, true, true, true, true, true, true, true, true, true, true, true, true] ((((((((Array.replicate 24 false).setIfInBounds 0 true).setIfInBounds 1 true).setIfInBounds 2 true).setIfInBounds 3 true).setIfInBounds 4 true).setIfInBounds 5 true).setIfInBounds 6 true) 7 = true := by kernel_rfl
theorem sb_224_17_8 : softB op_224_17 #[true, true, true, true, true, true, true, true, true, true, true, true, true, true, true, true, true, true, true, true, true, true, true, true] (((((((((Array.replicate 24 false).setIfInBounds 0 true).setIfInBounds 1 true).setIfInBounds 2 true).setIfInBounds 3 true).setIfInBounds 4 true).setIfInBounds 5 true).setIfInBounds 6 true).setIfInBounds 7 true) 8 = true := by kernel_rfl
theorem sb_224_17_9 : softB op_224_17 #[true, true, true, true, true, true, true, true, true, true, true, true, true, true, true, true, true, true, true, true, true, true, true, true] ((((((((((Array.replicate 24 false).setIfInBounds 0 true).setIfInBounds 1 true).setIfInBounds 2 true).setIfInBounds 3 true).setIfInBounds 4 true).setIfInBounds 5 true).setIfInBounds 6 true).setIfInBounds 7 true).setIfInBounds 8 true) 9 = true := by kernel_rfl
theorem sb_224_17_10 : softB op_224_17 #[true, true, true, true, true, true, true, true, true, true, true, true, true, true, true, true, true, true, true, true, true, true, true, true] (((((((((((Array.replicate 24 false).setIfInBounds 0 true).setIfInBounds 1 true).setIfInBounds 2 true).setIfInBounds 3 true).setIfInBounds 4 true).setIfInBounds 5 true).setIfInBounds 6 true).setIfInBounds 7 true).setIfInBounds 8 true).setIfInBounds 9 true) 10 = true := by kernel_rfl
theorem sb_224_17_11 : softB op_224_17 #[true, true, true, true, true, true, true, true, true, true, true, true, true, true, true, true, true, true, true, true, true, true, true, true] ((((((((((((Array.replicate 24 false).setIfInBounds 0 true).setIfInBounds 1 true).setIfInBounds 2 true).setIfInBounds 3 true).setIfInBounds 4 true).setIfInBounds 5 true).setIfInBounds 6 true).setIfInBounds 7 true).setIfInBounds 8 true).setIfInBounds 9 true).setIfInBounds 10 true) 11 = true := by kernel_rfl
theorem sb_224_17_12 : softB op_224_17 #[true, true, true, true, true, true, true, true, true, true, true, true, true, true, true, true, true, true, true, true, true, true, true, true] (((((((((((((Array.replicate 24 false).setIfInBounds 0 true).setIfInBounds 1 true).setIfInBounds 2 true).setIfInBounds 3 true).setIfInBounds 4 true).setIfInBounds 5 true).setIfInBounds 6 true).setIfInBounds 7 true).setIfInBounds 8 true).setIfInBounds 9 true).setIfInBounds 10 true).setIfInBounds 11 true) 12 = true := by kernel_rfl
theorem sb_224_17_13 : softB op_224_17 #[true, true, true, true, true, true, true, true, true, true, true, true, true, true, true, true, true, true, true, true, true, true, true, true] ((((((((((((((Array.replicate 24 false).setIfInBounds 0 true).setIfInBounds 1 true).setIfInBounds 2 true).setIfInBounds 3 true).setIfInBounds 4 true).setIfInBounds 5 true).setIfInBounds 6 true).setIfInBounds 7 true).setIfInBounds 8 true).setIfInBounds 9 true).setIfInBounds 10 true).setIfInBounds 11 true).setIfInBounds 12 true) 13 = true := by kernel_rfl
theorem sb_224_17_14 : softB op_224_17 #[true, true, true, true, true, true, true, true, true, true, true, true, true, true, true, true, true, true, true, true, true, true, true, true] (((((((((((((((Array.replicate 24 false).setIfInBounds 0 true).setIfInBounds 1 true).setIfInBounds 2 true).setIfInBounds 3 true).setIfInBounds 4 true).setIfInBounds 5 true).setIfInBounds 6 true).setIfInBounds 7 true).setIfInBounds 8 true).setIfInBounds 9 true).setIfInBounds 10 true).setIfInBounds 11 true).setIfInBounds 12 true).setIfInBounds 13 true) 14 = true := by kernel_rfl
theorem sb_224_17_15 : softB op_224_17 #[true, true, true, true, true, true, true, true, true, true, true, true, true, true, true, true, true, true, true, true, true, true, true, true] ((((((((((((((((Array.replicate 24 false).setIfInBounds 0 true).setIfInBounds 1 true).setIfInBounds 2 true).setIfInBounds 3 true).setIfInBounds 4 true).setIfInBounds 5 true).setIfInBounds 6 true).setIfInBounds 7 true).setIfInBounds 8 true).setIfInBounds 9 true).setIfInBounds 10 true).setIfInBounds 11 true).setIfInBounds 12 true).setIfInBounds 13 true).setIfInBounds 14 true) 15 = true := by kernel_rfl
theorem sb_224_17_16 : softB op_224_17 #[true, true, true, true, true, true, true, true, true, true, true, true, true, true, true, true, true, true, true, true, true, true, true, true] (((((((((((((((((Array.replicate 24 false).setIfInBounds 0 true).setIfInBounds 1 true).setIfInBounds 2 true).setIfInBounds 3 true).setIfInBounds 4 true).setIfInBounds 5 true).setIfInBounds 6 true).setIfInBounds 7 true).setIfInBounds 8 true).setIfInBounds 9 true).setIfInBounds 10 true).setIfInBounds 11 true).setIfInBounds 12 true).setIfInBounds 13 true).setIfInBounds 14 true).setIfInBounds 15 true) 16 = true := by kernel_rfl
theorem sb_224_17_17 : softB op_224_17 #[true, true, true, true, true, true, true, true, true, true, true, true, true, true, true, true, true, true, true, true, true, true, true, true] ((((((((((((((((((Array.replicate 24 false).setIfInBounds 0 true).setIfInBounds 1 true).setIfInBounds 2 true).setIfInBounds 3 true).setIfInBounds 4 true).setIfInBounds 5 true).setIfInBounds 6 true).setIfInBounds 7 true).setIfInBounds 8 true).setIfInBounds 9 true).setIfInBounds 10 true).setIfInBounds 11 true).setIfInBounds 12 true).setIfInBounds 13 true).setIfInBounds 14 true).setIfInBounds 15 true).setIfInBounds 16 true) 17 = true := by kernel_rfl
theorem sb_224_17_18 : softB op_224_17 #[true, true, true, true, true, true, true, true, true, true, true, true, true, true, true, true, true, true, true, true, true, true, true, true] (((((((((((((((((((Array.replicate 24 false).setIfInBounds 0 true).setIfInBounds 1 true).setIfInBounds 2 true).setIfInBounds 3 true).setIfInBounds 4 true).setIfInBounds 5 true).setIfInBounds 6 true).setIfInBounds 7 true).setIfInBounds 8 true).setIfInBounds 9 true).setIfInBounds 10 true).setIfInBounds 11 true).setIfInBounds 12 true).setIfInBounds 13 true).setIfInBounds 14 true).setIfInBounds 15 true).setIfInBounds 16 true).setIfInBounds 17 true) 18 = true := by kernel_rfl
theorem sb_224_17_19 : softB op_224_17 #[true, true, true, true, true, true, true, true, true, true, true, true, true, true, true, true, true, true, true, true, true, true, true, true] ((((((((((((((((((((Array.replicate 24 false).setIfInBounds 0 true).setIfInBounds 1 true).setIfInBounds 2 true).setIfInBounds 3 true).setIfInBounds 4 true).setIfInBounds 5 true).setIfInBounds 6 true).setIfInBounds 7 true).setIfInBounds 8 true).setIfInBounds 9 true).setIfInBounds 10 true).setIfInBounds 11 true).setIfInBounds 12 true).setIfInBounds 13 true).setIfInBounds 14 true).setIfInBounds 15 true).setIfInBounds 16 true).setIfInBounds 17 true).setIfInBounds 18 true) 19 = true := by kernel_rfl
theorem sb_224_17_20 : softB op_224_17 #[true, true, true, true, true, true, true, true, true, true, true, true, true, true, true, true, true, true, true, true, true, true, true, true] (((((((((((((((((((((Array.replicate 24 false).setIfInBounds 0 true).setIfInBounds 1 true).setIfInBounds 2 true).setIfInBounds 3 true).setIfInBounds 4 true).setIfInBounds 5 true).setIfInBounds 6 true).setIfInBounds 7 true).setIfInBounds 8 true).setIfInBounds 9 true).setIfInBounds 10 true).setIfInBounds 11 true).setIfInBounds 12 true).setIfInBounds 13 true).setIfInBounds 14 true).setIfInBounds 15 true).setIfInBounds 16 true).setIfInBounds 17 true).setIfInBounds 18 true).setIfInBounds 19 true) 20 = true := by kernel_rfl
theorem sb_224_17_21 : softB op_224_17 #[true, true, true, true, true, true, true, true, true, true, true, true, true, true, true, true, true, true, true, true, true, true, true, true] ((((((((((((((((((((((Array.replicate 24 false).setIfInBounds 0 true).setIfInBounds 1 true).setIfInBounds 2 true).setIfInBounds 3 true).setIfInBounds 4 true).setIfInBounds 5 true).setIfInBounds 6 true).setIfInBounds 7 true).setIfInBounds 8 true).setIfInBounds 9 true).setIfInBounds 10 true).setIfInBounds 11 true).setIfInBounds 12 true).setIfInBounds 13 true).setIfInBounds 14 true).setIfInBounds 15 true).setIfInBounds 16 true).setIfInBounds 17 true).setIfInBounds 18 true).setIfInBounds 19 true).setIfInBounds 20 true) 21 = true := by kernel_rfl
theorem sb_224_17_22 : softB op_224_17 #[true, true, true, true, true, true, true, true, true, true, true, true, true, true, true, true, true, true, true, true, true, true, true, true] (((((((((((((((((((((((Array.replicate 24 false).setIfInBounds 0 true).setIfInBounds 1 true).setIfInBounds 2 true).setIfInBounds 3 true).setIfInBounds 4 true).setIfInBounds 5 true).setIfInBounds 6 true).setIfInBounds 7 true).setIfInBounds 8 true).setIfInBounds 9 true).setIfInBounds 10 true).setIfInBounds 11 true).setIfInBounds 12 true).setIfInBounds 13 true).setIfInBounds 14 true).setIfInBounds 15 true).setIfInBounds 16 true).setIfInBounds 17 true).setIfInBounds 18 true).setIfInBounds 19 true).setIfInBounds 20 true).setIfInBounds 21 true) 22 = true := by kernel_rfl
theorem sb_224_17_23 : softB op_224_17 #[true, true, true, true, true, true, true, true, true, true, true, true, true, true, true, true, true, true, true, true, true, true, true, true] ((((((((((((((((((((((((Array.replicate 24 false).setIfInBounds 0 true).setIfInBounds 1 true).setIfInBounds 2 true).setIfInBounds 3 true).setIfInBounds 4 true).setIfInBounds 5 true).setIfInBounds 6 true).setIfInBounds 7 true).setIfInBounds 8 true).setIfInBounds 9 true).setIfInBounds 10 true).setIfInBounds 11 true).setIfInBounds 12 true).setIfInBounds 13 true).setIfInBounds 14 true).setIfInBounds 15 true).setIfInBounds 16 true).setIfInBounds 17 true).setIfInBounds 18 true).setIfInBounds 19 true).setIfInBounds 20 true).setIfInBounds 21 true).setIfInBounds 22 true) 23 = true := by kernel_rfl
theorem sb_224_17_24 : hardB op_224_17 (((((((((((((((((((((((((Array.replicate 24 false).setIfInBounds 0 true).setIfInBounds 1 true).setIfInBounds 2 true).setIfInBounds 3 true).setIfInBounds 4 true).setIfInBounds 5 true).setIfInBounds 6 true).setIfInBounds 7 true).setIfInBounds 8 true).setIfInBounds 9 true).setIfInBounds 10 true).setIfInBounds 11 true).setIfInBounds 12 true).setIfInBounds 13 true).setIfInBounds 14 true).setIfInBounds 15 true).setIfInBounds 16 true).setIfInBounds 17 true).setIfInBounds 18 true).setIfInBounds 19 true).setIfInBounds 20 true).setIfInBounds 21 true).setIfInBounds 22 true).setIfInBounds 23 true) [] = true := by kernel_rfl
/- (*diff.Engine).TreeDiff -/
def m224_w1 (n : Nat) (a : (List File)) (b_ : (List File)) (mm : Nat) : (List Chg) → Int → Int → Option ((List Chg) × Int × Int) := it3 (fun lp1 l2 c3 c4 =>
cond ((decide (c3 < (a.length : Int))) && (decide (c4 < (b_.length : Int)))) (
Option.bind (ixL a c3) fun x1 =>
Option.bind (ixL b_ c4) fun x2 =>
cond (sLt x1.path x2.path) (
Option.bind (ixL a c3) fun x3 =>
Option.bind (apd l2 ({ Chg.zero with path := x3.path, staged := 3 })) fun l4 =>
lp1 l4 (wi (c3 + 1)) c4) (
Option.bind (ixL b_ c4) fun x4 =>
Option.bind (ixL a c3) fun x5 =>
cond (sLt x4.path x5.path) (
Option.bind (ixL b_ c4) fun x6 =>
Option.bind (apd l2 ({ Chg.zero with path := x6.path, staged := 1 })) fun l5 =>
lp1 l5 c3 (wi (c4 + 1))) (
ob1 (Option.bind (ixL a c3) fun x7 =>
Option.bind (ixL b_ c4) fun x8 =>
cond (!(decide (x7.data = x8.data))) (some (true)) (Option.bind (ixL a c3) fun x9 =>
Option.bind (ixL b_ c4) fun x10 =>
some ((decide (¬ (x9.mode = x10.mode)))))) fun c7 =>
cond c7 (
Option.bind (ixL a c3) fun x11 =>
Option.bind (apd l2 ({ Chg.zero with path := x11.path, staged := 2 })) fun l6 =>
lp1 l6 (wi (c3 + 1)) (wi (c4 + 1))) (
lp1 l2 (wi (c3 + 1)) (wi (c4 + 1)))))) (
some (l2, c3, c4))) mm
def m224_w2 (n : Nat) (a : (List File)) (mm : Nat) : (List Chg) → Int → Option ((List Chg) × Int) := it2 (fun lp2 l7 c8 =>
cond (decide (c8 < (a.length : Int))) (
Option.bind (ixL a c8) fun x12 =>
Option.bind (apd l7 ({ Chg.zero with path := x12.path, staged := 3 })) fun l9 =>
lp2 l9 (wi (c8 + 1))) (
some (l7, c8))) mm
def m224_w3 (n : Nat) (b_ : (List File)) (mm : Nat) : (List Chg) → Int → Option ((List Chg) × Int) := it2 (fun lp3 l10 c10 =>
cond (decide (c10 < (b_.length : Int))) (
Option.bind (ixL b_ c10) fun x13 =>
Option.bind (apd l10 ({ Chg.zero with path := x13.path, staged := 1 })) fun l12 =>
lp3 l12 (wi (c10 + 1))) (
some (l10, c10))) mm
def m224 (n : Nat) (a : (List File)) (b_ : (List File)) : Option ((List Chg) × Int) :=
ob1 (m152 n a) fun c1 =>
cond (decide (¬ (c1 = 0))) (
some (([] : List Chg), c1)) (
ob1 (m152 n b_) fun c2 =>
cond (decide (¬ (c2 = 0))) (
some (([] : List Chg), c2)) (
Option.bind (mkL 0 (wi ((a.length : Int) + (b_.length : Int))) (Chg.zero : Chg)) fun l1 =>
ob3 (m224_w1 n a b_ n l1 0 0) fun l3 c5 c6 =>
ob2 (m224_w2 n a n l3 c5) fun l8 c9 =>
ob2 (m224_w3 n b_ n l8 c6) fun l11 c11 =>
some (l11, 0)))
theorem t224 {n : Nat} {C : List Chunk} {rl1 : List Chg} {rc1 : Int} {q1 : Option Addr} {v1 : Value} {a : (List File)} {v2 : Value} {b_ : (List File)} (hr1 : Rd rFile C v1 a) (hr2 : Rd rFile C v2 b_)  (hm : m224 n a b_ = some (rl1, rc1)) : Trip Tryz.prog 224 #[(.pointer q1), v1, v2] ([] ++ [C]) (fun u S' => ∃ (ev1 : Value), ∃ (eg1 : List Chunk), .tuple #[ev1, .int .i64 rc1] = u ∧ S' = [eg1] ++ [C] ∧ Own rChg ev1 rl1 eg1) := by
  refine fn_entry (args := [(.pointer q1), v1, v2]) Tryz.func224 rfl Tryz.ntmps224 rfl (fun w0 => ?_)
  refine c_seq ?_
  refine c_region ?_
  have ho1 : Own rChg (.slice none 0 0) [] [] := Own.nil
  refine o_emp ?_
  refine o_L (y_assign rfl) rfl rfl ?_
  refine o_L (y_assign rfl) rfl rfl ?_
  refine o_nil0 rfl ?_
  refine c_seq ?_
  refine c_region ?_
  refine o_T (y_move rfl) rfl ?_
  obtain ⟨c1, hx1, hm⟩ := bd1 hm
  refine o_callC en_152 rfl s_nil (t152 (hr1.mono (fun _ hz => (ms (mg hz)))) hx1) rfl (fun u1 S1 hR1 => ?_)
  obtain ⟨rfl, rfl⟩ := hR1
  refine o_rest ?_
  refine o_L (y_assign rfl) rfl rfl ?_
  refine o_nil0 rfl ?_
  refine c_seq ?_
  refine c_seq ?_
  refine c_region ?_
  refine o_T (y_move rfl) rfl ?_
  refine o_T (y_neq rfl rfl) rfl ?_
  refine o_nil1 15 rfl rfl ?_
  refine c_cond rfl (fun h1 => ?_) (fun h1 => ?_)
  · have hm := cd_t h1 hm
    refine c_seq ?_
    refine c_region ?_
    refine o_T (y_move rfl) rfl ?_
    have ho2 : Own rChg (.slice none 0 0) [] [] := Own.nil
    refine o_emp ?_
    refine o_L (y_assign rfl) rfl rfl ?_
    refine o_L (y_assign rfl) rfl rfl ?_
    refine o_nil0 rfl ?_
    refine c_ret ?_
    obtain ⟨rfl, rfl⟩ := pr2 hm
    refine fun aX wX heX hsX => ret2 Tryz.results224 heX rfl rfl (s_take (s_skip (s_take s_nil))) ?_
    exact ⟨(.slice none 0 0), _, rfl, rfl, ho2⟩
  · have hm := cd_f h1 hm
    refine c_skip ?_
    refine c_seq ?_
    refine c_region ?_
    refine o_T (y_move rfl) rfl ?_
    obtain ⟨c2, hx2, hm⟩ := bd1 hm
    refine o_callC en_152 rfl s_nil (t152 (hr2.mono (fun _ hz => (ms (mg hz)))) hx2) rfl (fun u2 S2 hR2 => ?_)
    obtain ⟨rfl, rfl⟩ := hR2
    refine o_rest ?_
    refine o_L (y_assign rfl) rfl rfl ?_
    refine o_nil0 rfl ?_
    refine c_seq ?_
    refine c_seq ?_
    refine c_region ?_
    refine o_T (y_move rfl) rfl ?_
    refine o_T (y_neq rfl rfl) rfl ?_
    refine o_nil1 20 rfl rfl ?_
    refine c_cond rfl (fun h2 => ?_) (fun h2 => ?_)
    · have hm := cd_t h2 hm
      refine c_seq ?_
      refine c_region ?_
      refine o_T (y_move rfl) rfl ?_
      have ho3 : Own rChg (.slice none 0 0) [] [] := Own.nil
      refine o_emp ?_
      refine o_L (y_assign rfl) rfl rfl ?_
      refine o_L (y_assign rfl) rfl rfl ?_
      refine o_nil0 rfl ?_
      refine c_ret ?_
      obtain ⟨rfl, rfl⟩ := pr2 hm
      refine fun aX wX heX hsX => ret2 Tryz.results224 heX rfl rfl (s_take (s_skip (s_take s_nil))) ?_
      exact ⟨(.slice none 0 0), _, rfl, rfl, ho3⟩
    · have hm := cd_f h2 hm
      refine c_skip ?_
      refine c_seq ?_
      refine c_region ?_
      refine o_T (y_move rfl) rfl ?_
      refine o_T (y_lenR hr1 Tryz.underlying57 rfl) rfl ?_
      refine o_T (y_move rfl) rfl ?_
      refine o_T (y_lenR hr2 Tryz.underlying57 rfl) rfl ?_
      refine o_T (y_add rfl rfl rfl) rfl ?_
      obtain ⟨l1, hx3, hm⟩ := bd hm
      refine o_mkR (R := rChg) (a := Chg.zero) sz_99 rfl rfl rfl rfl rfl hx3 rfl (fun v3 g1 ho4 => ?_)
      refine o_L (y_assign rfl) rfl rfl ?_
      refine o_nil0 rfl ?_
      refine c_seq ?_
      refine c_region ?_
      refine o_L (y_assign rfl) rfl rfl ?_
      refine o_nil0 rfl ?_
      refine c_seq ?_
      refine c_region ?_
      refine o_L (y_assign rfl) rfl rfl ?_
      refine o_nil0 rfl ?_
      refine c_seq ?_
      obtain ⟨l3, c5, c6, hj1, hm⟩ := bd3 hm
      refine c_joinP (n := 1) (fun sh G => ∃ (v5 : Value), ∃ (g3 : List Chunk), sh = [(9, v5), (10, .int .i64 c5), (11, .int .i64 c6)] ∧ G = [g3] ∧ Own rChg v5 l3 g3) (s_take (s_skip (s_take s_nil))) (.s .z) (fun _ _ h => h) ?_ ?_
      · skip
        refine c_block ?_
        refine c_loopP (n := 1) (fun mm sh G => ∃ (l2 : List Chg), ∃ (c3 : Int), ∃ (c4 : Int), ∃ (v4 : Value), ∃ (g2 : List Chunk), sh = [(9, v4), (10, .int .i64 c3), (11, .int .i64 c4)] ∧ G = [g2] ∧ m224_w1 n a b_ mm l2 c3 c4 = some (l3, c5, c6) ∧ Own rChg v4 l2 g2) n (s_take (s_skip (s_take s_nil))) (.s .z) ⟨_, _, ⟨_, _, _, v3, _, rfl, rfl, hj1, ho4⟩, ⟨rfl, rfl, rfl, trivial⟩, _, (s_take (s_skip (s_take s_nil)))⟩ ?_
        rintro mm sh G ⟨l2, c3, c4, v4, g2, rfl, rfl, hm, ho5⟩
        obtain ⟨mm1, rfl, hm⟩ := it3_s hm
        refine c_seq ?_
        refine c_seq ?_
        refine c_joinP (n := 0) (fun sh G => sh = [(37, .bool ((decide (c3 < (a.length : Int))) && (decide (c4 < (b_.length : Int)))))] ∧ G = []) Sel.all' .z (fun _ _ h => h) ?_ ?_
        · skip
          refine c_region ?_
          refine o_T (y_move rfl) rfl ?_
          refine o_T (y_move rfl) rfl ?_
          refine o_T (y_lenR hr1 Tryz.underlying57 rfl) rfl ?_
          refine o_T (y_lss rfl rfl) rfl ?_
          refine o_T (y_move rfl) rfl ?_
          refine o_split 32 rfl (fun h3 => ?_) (fun h3 => ?_)
          · skip
            refine o_take rfl rfl rfl ?_
            refine o_T (y_move rfl) rfl ?_
            refine o_take rfl rfl rfl ?_
            refine o_T (y_move rfl) rfl ?_
            refine o_take rfl rfl rfl ?_
            refine o_T (y_lenR hr2 Tryz.underlying57 rfl) rfl ?_
            refine o_take rfl rfl rfl ?_
            refine o_T (y_lss rfl rfl) rfl ?_
            refine o_T (y_pickT rfl rfl) rfl ?_
            refine o_nil1 37 rfl rfl ?_
            refine ⟨_, _, ⟨rfl, rfl⟩, ⟨by first | rfl | exact gtb rfl (by simp only [h3, Bool.true_and, Bool.false_and, Bool.true_or, Bool.false_or, Bool.and_true, Bool.and_false, Bool.or_true, Bool.or_false, Bool.not_true, Bool.not_false]), trivial⟩, ⟨rfl, rfl⟩, _, (s_take (s_take s_nil))⟩
          · skip
            refine o_pass rfl rfl rfl rfl rfl ?_
            refine o_pass rfl rfl rfl rfl rfl ?_
            refine o_pass rfl rfl rfl rfl rfl ?_
            refine o_pass rfl rfl rfl rfl rfl ?_
            refine o_T (y_pickF rfl rfl) rfl ?_
            refine o_nil1 37 rfl rfl ?_
            refine ⟨_, _, ⟨rfl, rfl⟩, ⟨by first | rfl | exact gtb rfl (by simp only [h3, Bool.true_and, Bool.false_and, Bool.true_or, Bool.false_or, Bool.and_true, Bool.and_false, Bool.or_true, Bool.or_false, Bool.not_true, Bool.not_false]), trivial⟩, ⟨rfl, rfl⟩, _, (s_take (s_take s_nil))⟩
        · rintro sh G ⟨rfl, rfl⟩
          refine c_cond rfl (fun h4 => ?_) (fun h4 => ?_)
          · have hm := cd_t h4 hm
            refine c_skip ?_
            refine c_block ?_
            refine c_seq ?_
            refine c_draw #[true, true, true, true, true, true, true, true, true, true, true] rfl (n := 11) rfl ?_
            refine d_T 0 rfl sb_224_11_0 rfl (y_move rfl) rfl ?_
            refine d_T 1 rfl sb_224_11_1 rfl (y_move rfl) rfl ?_
            obtain ⟨x1, hx4, hm⟩ := bd hm
            obtain ⟨b1, w1, cs1, y1, z1, vs1, hc1, ha1, hr3, hy1⟩ := hr1.ix hx4
            obtain rfl : vs1 = File.enc x1 := hr3
            refine d_T 2 rfl sb_224_11_2 rfl (hy1 sl_57 rfl rfl rfl) rfl ?_
            refine d_T 3 rfl sb_224_11_3 rfl (y_fa fl_71_0 rfl) rfl ?_
            refine d_ld 4 rfl sb_224_11_4 one_9 rfl (fun x hx => hx) (ms (mg hc1)) (At.getA (ha1.comp File.a_path)) rfl ?_
            refine d_T 5 rfl sb_224_11_5 rfl (y_move rfl) rfl ?_
            refine d_T 6 rfl sb_224_11_6 rfl (y_move rfl) rfl ?_
            obtain ⟨x2, hx5, hm⟩ := bd hm
            obtain ⟨b2, w2, cs2, y2, z2, vs2, hc2, ha2, hr4, hy2⟩ := hr2.ix hx5
            obtain rfl : vs2 = File.enc x2 := hr4
            refine d_T 7 rfl sb_224_11_7 rfl (hy2 sl_57 rfl rfl rfl) rfl ?_
            refine d_T 8 rfl sb_224_11_8 rfl (y_fa fl_71_0 rfl) rfl ?_
            refine d_ld 9 rfl sb_224_11_9 one_9 rfl (fun x hx => hx) (ms (mg hc2)) (At.getA (ha2.comp File.a_path)) rfl ?_
            refine d_T 10 rfl sb_224_11_10 rfl (y_slt rfl rfl) rfl ?_
            refine d_nil1 48 sb_224_11_11 rfl rfl ?_
            refine c_cond rfl (fun h5 => ?_) (fun h5 => ?_)
            · have hm := cd_t h5 hm
              refine c_seq ?_
              refine c_region ?_
              refine o_T (y_move rfl) rfl ?_
              refine o_T (y_move rfl) rfl ?_
              refine o_T (y_move rfl) rfl ?_
              obtain ⟨x3, hx6, hm⟩ := bd hm
              obtain ⟨b3, w3, cs3, y3, z3, vs3, hc3, ha3, hr5, hy3⟩ := hr1.ix hx6
              obtain rfl : vs3 = File.enc x3 := hr5
              refine o_T (hy3 sl_57 rfl rfl rfl) rfl ?_
              refine o_T (y_fa fl_71_0 rfl) rfl ?_
              refine o_ld one_9 rfl (ms (mg hc3)) (At.getA (ha3.comp File.a_path)) rfl ?_
              refine o_T (y_build st_196 rfl (fbU rfl Chg.u_path rfl rfl (fbU rfl Chg.u_staged rfl rfl fbU0))) rfl ?_
              refine o_bs1 sz_99 rfl rfl rfl rfl rfl rfl (fun b4 => ?_)
              obtain ⟨l4, hx7, hm⟩ := bd hm
              refine o_appR (R := rChg) (a := ({ Chg.zero with path := x3.path, staged := 3 })) sz_99 rfl rfl rfl rfl ho5 rfl hx7 (Sel.e (s_get (ks k0) (s_take s_nil))) rfl (fun v6 g4 ho7 => ?_)
              refine o_L (y_assign rfl) rfl rfl ?_
              refine o_nil0 rfl ?_
              refine c_region ?_
              refine o_T (y_move rfl) rfl ?_
              refine o_T (y_add rfl rfl rfl) rfl ?_
              refine o_L (y_assign rfl) rfl rfl ?_
              refine o_nil0 rfl ?_
              exact ⟨mm1, Nat.lt_succ_self _, _, _, ⟨_, _, _, v6, _, rfl, rfl, hm, ho7⟩, ⟨rfl, rfl, rfl, trivial⟩, ⟨rfl, rfl⟩, _, (s_take (s_take s_nil))⟩
            · have hm := cd_f h5 hm
              refine c_seq ?_
              refine c_draw #[true, true, true, true, true, true, true, true, true, true, true] rfl (n := 11) rfl ?_
              refine d_T 0 rfl sb_224_14_0 rfl (y_move rfl) rfl ?_
              refine d_T 1 rfl sb_224_14_1 rfl (y_move rfl) rfl ?_
              obtain ⟨x4, hx8, hm⟩ := bd hm
              obtain ⟨b5, w4, cs4, y4, z4, vs4, hc4, ha4, hr6, hy4⟩ := hr2.ix hx8
              obtain rfl : vs4 = File.enc x4 := hr6
              refine d_T 2 rfl sb_224_14_2 rfl (hy4 sl_57 rfl rfl rfl) rfl ?_
              refine d_T 3 rfl sb_224_14_3 rfl (y_fa fl_71_0 rfl) rfl ?_
              refine d_ld 4 rfl sb_224_14_4 one_9 rfl (fun x hx => hx) (ms (mg hc4)) (At.getA (ha4.comp File.a_path)) rfl ?_
              refine d_T 5 rfl sb_224_14_5 rfl (y_move rfl) rfl ?_
              refine d_T 6 rfl sb_224_14_6 rfl (y_move rfl) rfl ?_
              obtain ⟨x5, hx9, hm⟩ := bd hm
              obtain ⟨b6, w5, cs5, y5, z5, vs5, hc5, ha5, hr7, hy5⟩ := hr1.ix hx9
              obtain rfl : vs5 = File.enc x5 := hr7
              refine d_T 7 rfl sb_224_14_7 rfl (hy5 sl_57 rfl rfl rfl) rfl ?_
              refine d_T 8 rfl sb_224_14_8 rfl (y_fa fl_71_0 rfl) rfl ?_
              refine d_ld 9 rfl sb_224_14_9 one_9 rfl (fun x hx => hx) (ms (mg hc5)) (At.getA (ha5.comp File.a_path)) rfl ?_
              refine d_T 10 rfl sb_224_14_10 rfl (y_slt rfl rfl) rfl ?_
              refine d_nil1 70 sb_224_14_11 rfl rfl ?_
              refine c_cond rfl (fun h6 => ?_) (fun h6 => ?_)
              · have hm := cd_t h6 hm
                refine c_seq ?_
                refine c_region ?_
                refine o_T (y_move rfl) rfl ?_
                refine o_T (y_move rfl) rfl ?_
                refine o_T (y_move rfl) rfl ?_
                obtain ⟨x6, hx10, hm⟩ := bd hm
                obtain ⟨b7, w6, cs6, y6, z6, vs6, hc6, ha6, hr8, hy6⟩ := hr2.ix hx10
                obtain rfl : vs6 = File.enc x6 := hr8
                refine o_T (hy6 sl_57 rfl rfl rfl) rfl ?_
                refine o_T (y_fa fl_71_0 rfl) rfl ?_
                refine o_ld one_9 rfl (ms (mg hc6)) (At.getA (ha6.comp File.a_path)) rfl ?_
                refine o_T (y_build st_196 rfl (fbU rfl Chg.u_path rfl rfl (fbU rfl Chg.u_staged rfl rfl fbU0))) rfl ?_
                refine o_bs1 sz_99 rfl rfl rfl rfl rfl rfl (fun b8 => ?_)
                obtain ⟨l5, hx11, hm⟩ := bd hm
                refine o_appR (R := rChg) (a := ({ Chg.zero with path := x6.path, staged := 1 })) sz_99 rfl rfl rfl rfl ho5 rfl hx11 (Sel.e (s_get (ks k0) (s_take s_nil))) rfl (fun v7 g5 ho8 => ?_)
                refine o_L (y_assign rfl) rfl rfl ?_
                refine o_nil0 rfl ?_
                refine c_region ?_
                refine o_T (y_move rfl) rfl ?_
                refine o_T (y_add rfl rfl rfl) rfl ?_
                refine o_L (y_assign rfl) rfl rfl ?_
                refine o_nil0 rfl ?_
                exact ⟨mm1, Nat.lt_succ_self _, _, _, ⟨_, _, _, v7, _, rfl, rfl, hm, ho8⟩, ⟨rfl, rfl, rfl, trivial⟩, ⟨rfl, rfl⟩, _, (s_take (s_take s_nil))⟩
              · have hm := cd_f h6 hm
                refine c_seq ?_
                refine c_seq ?_
                obtain ⟨c7, hj2, hm⟩ := bd1 hm
                refine c_joinP (n := 0) (fun sh G => sh = [(105, .bool c7)] ∧ G = []) Sel.all' .z (fun _ _ h => h) ?_ ?_
                · have hm := hj2
                  refine c_draw #[true, true, true, true, true, true, true, true, true, true, true, true, true, true, true, true, true, true, true, true, true, true, true, true] rfl (n := 24) rfl ?_
                  refine d_T 0 rfl sb_224_17_0 rfl (y_move rfl) rfl ?_
                  refine d_T 1 rfl sb_224_17_1 rfl (y_move rfl) rfl ?_
                  obtain ⟨x7, hx12, hm⟩ := bd hm
                  obtain ⟨b9, w7, cs7, y7, z7, vs7, hc7, ha7, hr9, hy7⟩ := hr1.ix hx12
                  obtain rfl : vs7 = File.enc x7 := hr9
                  refine d_T 2 rfl sb_224_17_2 rfl (hy7 sl_57 rfl rfl rfl) rfl ?_
                  refine d_T 3 rfl sb_224_17_3 rfl (y_fa fl_71_1 rfl) rfl ?_
                  refine d_ld 4 rfl sb_224_17_4 one_9 rfl (fun x hx => hx) (ms (mg hc7)) (At.getA (ha7.comp File.a_data)) rfl ?_
                  refine d_T 5 rfl sb_224_17_5 rfl (y_move rfl) rfl ?_
                  refine d_T 6 rfl sb_224_17_6 rfl (y_move rfl) rfl ?_
                  obtain ⟨x8, hx13, hm⟩ := bd hm
                  obtain ⟨b10, w8, cs8, y8, z8, vs8, hc8, ha8, hr10, hy8⟩ := hr2.ix hx13
                  obtain rfl : vs8 = File.enc x8 := hr10
                  refine d_T 7 rfl sb_224_17_7 rfl (hy8 sl_57 rfl rfl rfl) rfl ?_
                  refine d_T 8 rfl sb_224_17_8 rfl (y_fa fl_71_1 rfl) rfl ?_
                  refine d_ld 9 rfl sb_224_17_9 one_9 rfl (fun x hx => hx) (ms (mg hc8)) (At.getA (ha8.comp File.a_data)) rfl ?_
                  refine d_T 10 rfl sb_224_17_10 rfl (y_sne rfl rfl) rfl ?_
                  refine d_T 11 rfl sb_224_17_11 rfl (y_move rfl) rfl ?_
                  refine d_split 93 rfl (fun h7 => ?_) (fun h7 => ?_)
                  · have hm := cd_t h7 hm
                    refine d_pass 12 rfl rfl rfl rfl rfl sb_224_17_12 (fun x hx => hx) rfl ?_
                    refine d_pass 13 rfl rfl rfl rfl rfl sb_224_17_13 (fun x hx => hx) rfl ?_
                    refine d_pass 14 rfl rfl rfl rfl rfl sb_224_17_14 (fun x hx => hx) rfl ?_
                    refine d_pass 15 rfl rfl rfl rfl rfl sb_224_17_15 (fun x hx => hx) rfl ?_
                    refine d_pass 16 rfl rfl rfl rfl rfl sb_224_17_16 (fun x hx => hx) rfl ?_
                    refine d_pass 17 rfl rfl rfl rfl rfl sb_224_17_17 (fun x hx => hx) rfl ?_
                    refine d_pass 18 rfl rfl rfl rfl rfl sb_224_17_18 (fun x hx => hx) rfl ?_
                    refine d_pass 19 rfl rfl rfl rfl rfl sb_224_17_19 (fun x hx => hx) rfl ?_
                    refine d_pass 20 rfl rfl rfl rfl rfl sb_224_17_20 (fun x hx => hx) rfl ?_
                    refine d_pass 21 rfl rfl rfl rfl rfl sb_224_17_21 (fun x hx => hx) rfl ?_
                    refine d_pass 22 rfl rfl rfl rfl rfl sb_224_17_22 (fun x hx => hx) rfl ?_
                    refine d_T 23 rfl sb_224_17_23 rfl (y_pickT rfl rfl) rfl ?_
                    refine d_nil1 105 sb_224_17_24 rfl rfl ?_
                    obtain rfl := p1 hm
                    exact ⟨_, _, ⟨rfl, rfl⟩, ⟨rfl, trivial⟩, ⟨rfl, rfl⟩, _, (s_take (s_take s_nil))⟩
                  · have hm := cd_f h7 hm
                    refine d_Tg 12 rfl rfl rfl rfl sb_224_17_12 rfl (y_move rfl) rfl ?_
                    refine d_Tg 13 rfl rfl rfl rfl sb_224_17_13 rfl (y_move rfl) rfl ?_
                    obtain ⟨x9, hx14, hm⟩ := bd hm
                    obtain ⟨b11, w9, cs9, y9, z9, vs9, hc9, ha9, hr11, hy9⟩ := hr1.ix hx14
                    obtain rfl : vs9 = File.enc x9 := hr11
                    refine d_Tg 14 rfl rfl rfl rfl sb_224_17_14 rfl (hy9 sl_57 rfl rfl rfl) rfl ?_
                    refine d_Tg 15 rfl rfl rfl rfl sb_224_17_15 rfl (y_fa fl_71_2 rfl) rfl ?_
                    refine d_ldt 16 rfl rfl rfl rfl sb_224_17_16 one_3 rfl (fun x hx => hx) (ms (mg hc9)) (At.getA (ha9.comp File.a_mode)) rfl ?_
                    refine d_Tg 17 rfl rfl rfl rfl sb_224_17_17 rfl (y_move rfl) rfl ?_
                    refine d_Tg 18 rfl rfl rfl rfl sb_224_17_18 rfl (y_move rfl) rfl ?_
                    obtain ⟨x10, hx15, hm⟩ := bd hm
                    obtain ⟨b12, w10, cs10, y10, z10, vs10, hc10, ha10, hr12, hy10⟩ := hr2.ix hx15
                    obtain rfl : vs10 = File.enc x10 := hr12
                    refine d_Tg 19 rfl rfl rfl rfl sb_224_17_19 rfl (hy10 sl_57 rfl rfl rfl) rfl ?_
                    refine d_Tg 20 rfl rfl rfl rfl sb_224_17_20 rfl (y_fa fl_71_2 rfl) rfl ?_
                    refine d_ldt 21 rfl rfl rfl rfl sb_224_17_21 one_3 rfl (fun x hx => hx) (ms (mg hc10)) (At.getA (ha10.comp File.a_mode)) rfl ?_
                    refine d_Tg 22 rfl rfl rfl rfl sb_224_17_22 rfl (y_neq rfl rfl) rfl ?_
                    refine d_T 23 rfl sb_224_17_23 rfl (y_pickF rfl rfl) rfl ?_
                    refine d_nil1 105 sb_224_17_24 rfl rfl ?_
                    obtain rfl := p1 hm
                    exact ⟨_, _, ⟨rfl, rfl⟩, ⟨rfl, trivial⟩, ⟨rfl, rfl⟩, _, (s_take (s_take s_nil))⟩
                · rintro sh G ⟨rfl, rfl⟩
                  refine c_cond rfl (fun h8 => ?_) (fun h8 => ?_)
                  · have hm := cd_t h8 hm
                    refine c_region ?_
                    refine o_T (y_move rfl) rfl ?_
                    refine o_T (y_move rfl) rfl ?_
                    refine o_T (y_move rfl) rfl ?_
                    obtain ⟨x11, hx16, hm⟩ := bd hm
                    obtain ⟨b13, w11, cs11, y11, z11, vs11, hc11, ha11, hr13, hy11⟩ := hr1.ix hx16
                    obtain rfl : vs11 = File.enc x11 := hr13
                    refine o_T (hy11 sl_57 rfl rfl rfl) rfl ?_
                    refine o_T (y_fa fl_71_0 rfl) rfl ?_
                    refine o_ld one_9 rfl (ms (mg hc11)) (At.getA (ha11.comp File.a_path)) rfl ?_
                    refine o_T (y_build st_196 rfl (fbU rfl Chg.u_path rfl rfl (fbU rfl Chg.u_staged rfl rfl fbU0))) rfl ?_
                    refine o_bs1 sz_99 rfl rfl rfl rfl rfl rfl (fun b14 => ?_)
                    obtain ⟨l6, hx17, hm⟩ := bd hm
                    refine o_appR (R := rChg) (a := ({ Chg.zero with path := x11.path, staged := 2 })) sz_99 rfl rfl rfl rfl ho5 rfl hx17 (Sel.e (s_get (ks k0) (s_take s_nil))) rfl (fun v8 g6 ho9 => ?_)
                    refine o_L (y_assign rfl) rfl rfl ?_
                    refine o_nil0 rfl ?_
                    refine c_seq ?_
                    refine c_region ?_
                    refine o_T (y_move rfl) rfl ?_
                    refine o_T (y_add rfl rfl rfl) rfl ?_
                    refine o_L (y_assign rfl) rfl rfl ?_
                    refine o_nil0 rfl ?_
                    refine c_region ?_
                    refine o_T (y_move rfl) rfl ?_
                    refine o_T (y_add rfl rfl rfl) rfl ?_
                    refine o_L (y_assign rfl) rfl rfl ?_
                    refine o_nil0 rfl ?_
                    exact ⟨mm1, Nat.lt_succ_self _, _, _, ⟨_, _, _, v8, _, rfl, rfl, hm, ho9⟩, ⟨rfl, rfl, rfl, trivial⟩, ⟨rfl, rfl⟩, _, (s_take (s_take s_nil))⟩
                  · have hm := cd_f h8 hm
                    refine c_skip ?_
                    refine c_seq ?_
                    refine c_region ?_
                    refine o_T (y_move rfl) rfl ?_
                    refine o_T (y_add rfl rfl rfl) rfl ?_
                    refine o_L (y_assign rfl) rfl rfl ?_
                    refine o_nil0 rfl ?_
                    refine c_region ?_
                    refine o_T (y_move rfl) rfl ?_
                    refine o_T (y_add rfl rfl rfl) rfl ?_
                    refine o_L (y_assign rfl) rfl rfl ?_
                    refine o_nil0 rfl ?_
                    exact ⟨mm1, Nat.lt_succ_self _, _, _, ⟨_, _, _, v4, _, rfl, rfl, hm, ho5⟩, ⟨rfl, rfl, rfl, trivial⟩, ⟨rfl, rfl⟩, _, (s_take (s_take s_nil))⟩
          · have hm := cd_f h4 hm
            refine c_exit ?_
            obtain ⟨rfl, rfl, rfl⟩ := pr3 hm
            exact ⟨_, _, ⟨v4, _, rfl, rfl, ho5⟩, ⟨rfl, rfl, rfl, trivial⟩, ⟨rfl, rfl⟩, _, (s_take (s_take s_nil))⟩
      · rintro sh G ⟨v5, g3, rfl, rfl, ho6⟩
        refine c_seq ?_
        obtain ⟨l8, c9, hj3, hm⟩ := bd2 hm
        refine c_joinP (n := 1) (fun sh G => ∃ (v10 : Value), ∃ (g8 : List Chunk), sh = [(9, v10), (10, .int .i64 c9)] ∧ G = [g8] ∧ Own rChg v10 l8 g8) (s_take (s_take s_nil)) (.s .z) (fun _ _ h => h) ?_ ?_
        · skip
          refine c_block ?_
          refine c_loopP (n := 1) (fun mm sh G => ∃ (l7 : List Chg), ∃ (c8 : Int), ∃ (v9 : Value), ∃ (g7 : List Chunk), sh = [(9, v9), (10, .int .i64 c8)] ∧ G = [g7] ∧ m224_w2 n a mm l7 c8 = some (l8, c9) ∧ Own rChg v9 l7 g7) n (s_take (s_take s_nil)) (.s .z) ⟨_, _, ⟨_, _, v5, _, rfl, rfl, hj3, ho6⟩, ⟨rfl, rfl, trivial⟩, _, (s_take (s_take s_nil))⟩ ?_
          rintro mm sh G ⟨l7, c8, v9, g7, rfl, rfl, hm, ho10⟩
          obtain ⟨mm2, rfl, hm⟩ := it2_s hm
          refine c_seq ?_
          refine c_seq ?_
          refine c_region ?_
          refine o_T (y_move rfl) rfl ?_
          refine o_T (y_move rfl) rfl ?_
          refine o_T (y_lenR hr1 Tryz.underlying57 rfl) rfl ?_
          refine o_T (y_lss rfl rfl) rfl ?_
          refine o_nil1 122 rfl rfl ?_
          refine c_cond rfl (fun h9 => ?_) (fun h9 => ?_)
          · have hm := cd_t h9 hm
            refine c_skip ?_
            refine c_seq ?_
            refine c_block ?_
            refine c_region ?_
            refine o_T (y_move rfl) rfl ?_
            refine o_T (y_move rfl) rfl ?_
            refine o_T (y_move rfl) rfl ?_
            obtain ⟨x12, hx18, hm⟩ := bd hm
            obtain ⟨b15, w12, cs12, y12, z12, vs12, hc12, ha12, hr14, hy12⟩ := hr1.ix hx18
            obtain rfl : vs12 = File.enc x12 := hr14
            refine o_T (hy12 sl_57 rfl rfl rfl) rfl ?_
            refine o_T (y_fa fl_71_0 rfl) rfl ?_
            refine o_ld one_9 rfl (ms (mg hc12)) (At.getA (ha12.comp File.a_path)) rfl ?_
            refine o_T (y_build st_196 rfl (fbU rfl Chg.u_path rfl rfl (fbU rfl Chg.u_staged rfl rfl fbU0))) rfl ?_
            refine o_bs1 sz_99 rfl rfl rfl rfl rfl rfl (fun b16 => ?_)
            obtain ⟨l9, hx19, hm⟩ := bd hm
            refine o_appR (R := rChg) (a := ({ Chg.zero with path := x12.path, staged := 3 })) sz_99 rfl rfl rfl rfl ho10 rfl hx19 (Sel.e (s_get (ks k0) (s_take s_nil))) rfl (fun v11 g9 ho12 => ?_)
            refine o_L (y_assign rfl) rfl rfl ?_
            refine o_nil0 rfl ?_
            refine c_region ?_
            refine o_T (y_move rfl) rfl ?_
            refine o_T (y_add rfl rfl rfl) rfl ?_
            refine o_L (y_assign rfl) rfl rfl ?_
            refine o_nil0 rfl ?_
            exact ⟨mm2, Nat.lt_succ_self _, _, _, ⟨_, _, v11, _, rfl, rfl, hm, ho12⟩, ⟨rfl, rfl, trivial⟩, ⟨rfl, rfl⟩, _, (s_take (s_take s_nil))⟩
          · have hm := cd_f h9 hm
            refine c_exit ?_
            obtain ⟨rfl, rfl⟩ := pr2 hm
            exact ⟨_, _, ⟨v9, _, rfl, rfl, ho10⟩, ⟨rfl, rfl, trivial⟩, ⟨rfl, rfl⟩, _, (s_take (s_take s_nil))⟩
        · rintro sh G ⟨v10, g8, rfl, rfl, ho11⟩
          refine c_seq ?_
          obtain ⟨l11, c11, hj4, hm⟩ := bd2 hm
          refine c_joinP (n := 1) (fun sh G => ∃ (v13 : Value), ∃ (g11 : List Chunk), sh = [(9, v13), (11, .int .i64 c11)] ∧ G = [g11] ∧ Own rChg v13 l11 g11) (s_take (s_take s_nil)) (.s .z) (fun _ _ h => h) ?_ ?_
          · skip
            refine c_block ?_
            refine c_loopP (n := 1) (fun mm sh G => ∃ (l10 : List Chg), ∃ (c10 : Int), ∃ (v12 : Value), ∃ (g10 : List Chunk), sh = [(9, v12), (11, .int .i64 c10)] ∧ G = [g10] ∧ m224_w3 n b_ mm l10 c10 = some (l11, c11) ∧ Own rChg v12 l10 g10) n (s_take (s_take s_nil)) (.s .z) ⟨_, _, ⟨_, _, v10, _, rfl, rfl, hj4, ho11⟩, ⟨rfl, rfl, trivial⟩, _, (s_take (s_take s_nil))⟩ ?_
            rintro mm sh G ⟨l10, c10, v12, g10, rfl, rfl, hm, ho13⟩
            obtain ⟨mm3, rfl, hm⟩ := it2_s hm
            refine c_seq ?_
            refine c_seq ?_
            refine c_region ?_
            refine o_T (y_move rfl) rfl ?_
            refine o_T (y_move rfl) rfl ?_
            refine o_T (y_lenR hr2 Tryz.underlying57 rfl) rfl ?_
            refine o_T (y_lss rfl rfl) rfl ?_
            refine o_nil1 137 rfl rfl ?_
            refine c_cond rfl (fun h10 => ?_) (fun h10 => ?_)
            · have hm := cd_t h10 hm
              refine c_skip ?_
              refine c_seq ?_
              refine c_block ?_
              refine c_region ?_
              refine o_T (y_move rfl) rfl ?_
              refine o_T (y_move rfl) rfl ?_
              refine o_T (y_move rfl) rfl ?_
              obtain ⟨x13, hx20, hm⟩ := bd hm
              obtain ⟨b17, w13, cs13, y13, z13, vs13, hc13, ha13, hr15, hy13⟩ := hr2.ix hx20
              obtain rfl : vs13 = File.enc x13 := hr15
              refine o_T (hy13 sl_57 rfl rfl rfl) rfl ?_
              refine o_T (y_fa fl_71_0 rfl) rfl ?_
              refine o_ld one_9 rfl (ms (mg hc13)) (At.getA (ha13.comp File.a_path)) rfl ?_
              refine o_T (y_build st_196 rfl (fbU rfl Chg.u_path rfl rfl (fbU rfl Chg.u_staged rfl rfl fbU0))) rfl ?_
              refine o_bs1 sz_99 rfl rfl rfl rfl rfl rfl (fun b18 => ?_)
              obtain ⟨l12, hx21, hm⟩ := bd hm
              refine o_appR (R := rChg) (a := ({ Chg.zero with path := x13.path, staged := 1 })) sz_99 rfl rfl rfl rfl ho13 rfl hx21 (Sel.e (s_get (ks k0) (s_take s_nil))) rfl (fun v14 g12 ho15 => ?_)
              refine o_L (y_assign rfl) rfl rfl ?_
              refine o_nil0 rfl ?_
              refine c_region ?_
              refine o_T (y_move rfl) rfl ?_
              refine o_T (y_add rfl rfl rfl) rfl ?_
              refine o_L (y_assign rfl) rfl rfl ?_
              refine o_nil0 rfl ?_
              exact ⟨mm3, Nat.lt_succ_self _, _, _, ⟨_, _, v14, _, rfl, rfl, hm, ho15⟩, ⟨rfl, rfl, trivial⟩, ⟨rfl, rfl⟩, _, (s_take (s_take s_nil))⟩
            · have hm := cd_f h10 hm
              refine c_exit ?_
              obtain ⟨rfl, rfl⟩ := pr2 hm
              exact ⟨_, _, ⟨v12, _, rfl, rfl, ho13⟩, ⟨rfl, rfl, trivial⟩, ⟨rfl, rfl⟩, _, (s_take (s_take s_nil))⟩
          · rintro sh G ⟨v13, g11, rfl, rfl, ho14⟩
            refine c_seq ?_
            refine c_region ?_
            refine o_T (y_move rfl) rfl ?_
            refine o_L (y_assign rfl) rfl rfl ?_
            refine o_L (y_assign rfl) rfl rfl ?_
            refine o_nil0 rfl ?_
            refine c_ret ?_
            obtain ⟨rfl, rfl⟩ := pr2 hm
            refine fun aX wX heX hsX => ret2 Tryz.results224 heX rfl rfl (s_take (s_take s_nil)) ?_
            exact ⟨v13, _, rfl, rfl, ho14⟩
end Go.Proofs.Qxb6500350aGreat
