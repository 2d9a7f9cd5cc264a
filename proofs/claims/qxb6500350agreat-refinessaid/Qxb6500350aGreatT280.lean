/- MADE BY PROGRAM (tools350/mir.py): mirror and walk. -/
import Derived.Test.Qxb6500350aGreatF2
import Derived.Test.Qxb6500350aGreatT307
import Derived.Test.Qxb6500350aGreatT308
import Derived.Test.Qxb6500350aGreatT281
import Derived.Test.Qxb6500350aGreatT309
set_option linter.unusedVariables false
set_option linter.unusedSimpArgs false
set_option maxRecDepth 20000
set_option maxHeartbeats 4000000
namespace Go.Proofs.Qxb6500350aGreat
open Go.Eng

def op_280_1 : Array Go.Oper := #[{ dst := some 18, op := Go.Op.move (Go.Operand.tmp 0), type := 283, pos := "merge.go:28", after := #[], guard := none }, { dst := some 19, op := Go.Op.nilCheck (Go.Operand.tmp 18), type := 0, pos := "merge.go:28", after := #[{ on := 0, ground := Go.Ground.data }], guard := none }, { dst := some 20, op := Go.Op.fieldAddr 285 (Go.Operand.tmp 19) 4, type := 0, pos := "merge.go:28", after := #[{ on := 1, ground := Go.Ground.data }], guard := none }, { dst := some 21, op := Go.Op.load 65 (Go.Operand.tmp 20), type := 65, pos := "merge.go:28", after := #[{ on := 2, ground := Go.Ground.data }], guard := none }, { dst := some 22, op := Go.Op.move (Go.Operand.tmp 4), type := 3, pos := "merge.go:28", after := #[], guard := none }, { dst := some 23, op := Go.Op.move (Go.Operand.tmp 5), type := 3, pos := "merge.go:28", after := #[], guard := none }, { dst := some 24, op := Go.Op.move (Go.Operand.tmp 0), type := 283, pos := "merge.go:28", after := #[], guard := none }, { dst := some 25, op := Go.Op.nilCheck (Go.Operand.tmp 24), type := 0, pos := "merge.go:28", after := #[{ on := 6, ground := Go.Ground.data }], guard := none }, { dst := some 26, op := Go.Op.fieldAddr 285 (Go.Operand.tmp 25) 3, type := 0, pos := "merge.go:28", after := #[{ on := 7, ground := Go.Ground.data }], guard := none }, { dst := some 27, op := Go.Op.load 65 (Go.Operand.tmp 26), type := 65, pos := "merge.go:28", after := #[{ on := 8, ground := Go.Ground.data }], guard := none }, { dst := some 28, op := Go.Op.move (Go.Operand.tmp 2), type := 3, pos := "merge.go:28", after := #[], guard := none }, { dst := some 29, op := Go.Op.move (Go.Operand.tmp 3), type := 3, pos := "merge.go:28", after := #[], guard := none }, { dst := some 30, op := Go.Op.call { callee := Go.Callee.value (Go.Operand.func 307), args := #[Go.Operand.tmp 21, Go.Operand.tmp 22, Go.Operand.tmp 23, Go.Operand.tmp 27, Go.Operand.tmp 28, Go.Operand.tmp 29], argTypes := #[65, 3, 3, 65, 3, 3] }, type := 4, pos := "merge.go:28", after := #[{ on := 3, ground := Go.Ground.data }, { on := 4, ground := Go.Ground.data }, { on := 5, ground := Go.Ground.data }, { on := 9, ground := Go.Ground.data }, { on := 10, ground := Go.Ground.data }, { on := 11, ground := Go.Ground.data }], guard := none }]
def op_280_3 : Array Go.Oper := #[{ dst := some 39, op := Go.Op.move (Go.Operand.tmp 0), type := 283, pos := "merge.go:31", after := #[], guard := none }, { dst := some 40, op := Go.Op.nilCheck (Go.Operand.tmp 39), type := 0, pos := "merge.go:31", after := #[{ on := 0, ground := Go.Ground.data }], guard := none }, { dst := some 41, op := Go.Op.fieldAddr 285 (Go.Operand.tmp 40) 5, type := 0, pos := "merge.go:31", after := #[{ on := 1, ground := Go.Ground.data }], guard := none }, { dst := some 42, op := Go.Op.load 65 (Go.Operand.tmp 41), type := 65, pos := "merge.go:31", after := #[{ on := 2, ground := Go.Ground.data }], guard := none }, { dst := some 43, op := Go.Op.move (Go.Operand.tmp 6), type := 3, pos := "merge.go:31", after := #[], guard := none }, { dst := some 44, op := Go.Op.move (Go.Operand.tmp 7), type := 3, pos := "merge.go:31", after := #[], guard := none }, { dst := some 45, op := Go.Op.move (Go.Operand.tmp 0), type := 283, pos := "merge.go:31", after := #[], guard := none }, { dst := some 46, op := Go.Op.nilCheck (Go.Operand.tmp 45), type := 0, pos := "merge.go:31", after := #[{ on := 6, ground := Go.Ground.data }], guard := none }, { dst := some 47, op := Go.Op.fieldAddr 285 (Go.Operand.tmp 46) 3, type := 0, pos := "merge.go:31", after := #[{ on := 7, ground := Go.Ground.data }], guard := none }, { dst := some 48, op := Go.Op.load 65 (Go.Operand.tmp 47), type := 65, pos := "merge.go:31", after := #[{ on := 8, ground := Go.Ground.data }], guard := none }, { dst := some 49, op := Go.Op.move (Go.Operand.tmp 2), type := 3, pos := "merge.go:31", after := #[], guard := none }, { dst := some 50, op := Go.Op.move (Go.Operand.tmp 3), type := 3, pos := "merge.go:31", after := #[], guard := none }, { dst := some 51, op := Go.Op.call { callee := Go.Callee.value (Go.Operand.func 307), args := #[Go.Operand.tmp 42, Go.Operand.tmp 43, Go.Operand.tmp 44, Go.Operand.tmp 48, Go.Operand.tmp 49, Go.Operand.tmp 50], argTypes := #[65, 3, 3, 65, 3, 3] }, type := 4, pos := "merge.go:31", after := #[{ on := 3, ground := Go.Ground.data }, { on := 4, ground := Go.Ground.data }, { on := 5, ground := Go.Ground.data }, { on := 9, ground := Go.Ground.data }, { on := 10, ground := Go.Ground.data }, { on := 11, ground := Go.Ground.data }], guard := none }]
def op_280_5 : Array Go.Oper := #[{ dst := some 60, op := Go.Op.move (Go.Operand.tmp 0), type := 283, pos := "merge.go:34", after := #[], guard := none }, { dst := some 61, op := Go.Op.nilCheck (Go.Operand.tmp 60), type := 0, pos := "merge.go:34", after := #[{ on := 0, ground := Go.Ground.data }], guard := none }, { dst := some 62, op := Go.Op.fieldAddr 285 (Go.Operand.tmp 61) 4, type := 0, pos := "merge.go:34", after := #[{ on := 1, ground := Go.Ground.data }], guard := none }, { dst := some 63, op := Go.Op.load 65 (Go.Operand.tmp 62), type := 65, pos := "merge.go:34", after := #[{ on := 2, ground := Go.Ground.data }], guard := none }, { dst := some 64, op := Go.Op.move (Go.Operand.tmp 4), type := 3, pos := "merge.go:34", after := #[], guard := none }, { dst := some 65, op := Go.Op.move (Go.Operand.tmp 5), type := 3, pos := "merge.go:34", after := #[], guard := none }, { dst := some 66, op := Go.Op.move (Go.Operand.tmp 0), type := 283, pos := "merge.go:34", after := #[], guard := none }, { dst := some 67, op := Go.Op.nilCheck (Go.Operand.tmp 66), type := 0, pos := "merge.go:34", after := #[{ on := 6, ground := Go.Ground.data }], guard := none }, { dst := some 68, op := Go.Op.fieldAddr 285 (Go.Operand.tmp 67) 5, type := 0, pos := "merge.go:34", after := #[{ on := 7, ground := Go.Ground.data }], guard := none }, { dst := some 69, op := Go.Op.load 65 (Go.Operand.tmp 68), type := 65, pos := "merge.go:34", after := #[{ on := 8, ground := Go.Ground.data }], guard := none }, { dst := some 70, op := Go.Op.move (Go.Operand.tmp 6), type := 3, pos := "merge.go:34", after := #[], guard := none }, { dst := some 71, op := Go.Op.move (Go.Operand.tmp 7), type := 3, pos := "merge.go:34", after := #[], guard := none }, { dst := some 72, op := Go.Op.call { callee := Go.Callee.value (Go.Operand.func 307), args := #[Go.Operand.tmp 63, Go.Operand.tmp 64, Go.Operand.tmp 65, Go.Operand.tmp 69, Go.Operand.tmp 70, Go.Operand.tmp 71], argTypes := #[65, 3, 3, 65, 3, 3] }, type := 4, pos := "merge.go:34", after := #[{ on := 3, ground := Go.Ground.data }, { on := 4, ground := Go.Ground.data }, { on := 5, ground := Go.Ground.data }, { on := 9, ground := Go.Ground.data }, { on := 10, ground := Go.Ground.data }, { on := 11, ground := Go.Ground.data }], guard := none }]
theorem sb_280_1_0 : softB op_280_1 #[true, true, true, true, true, true, true, true, true, true, true, true, false] (Array.replicate 13 false) 0 = true := by kernel_rfl
theorem sb_280_1_1 : softB op_280_1 #[true, true, true, true, true, true, true, true, true, true, true, true, false] ((Array.replicate 13 false).setIfInBounds 0 true) 1 = true := by kernel_rfl
theorem sb_280_1_2 : softB op_280_1 #[true, true, true, true, true, true, true, true, true, true, true, true, false] (((Array.replicate 13 false).setIfInBounds 0 true).setIfInBounds 1 true) 2 = true := by kernel_rfl
theorem sb_280_1_3 : softB op_280_1 #[true, true, true, true, true, true, true, true, true, true, true, true, false] ((((Array.replicate 13 false).setIfInBounds 0 true).setIfInBounds 1 true).setIfInBounds 2 true) 3 = true := by kernel_rfl
theorem sb_280_1_4 : softB op_280_1 #[true, true, true, true, true, true, true, true, true, true, true, true, false] (((((Array.replicate 13 false).setIfInBounds 0 true).setIfInBounds 1 true).setIfInBounds 2 true).setIfInBounds 3 true) 4 = true := by kernel_rfl
theorem sb_280_1_5 : softB op_280_1 #[true, true, true, true, true, true, true, true, true, true, true, true, false] ((((((Array.replicate 13 false).setIfInBounds 0 true).setIfInBounds 1 true).setIfInBounds 2 true).setIfInBounds 3 true).setIfInBounds 4 true) 5 = true := by kernel_rfl
theorem sb_280_1_6 : softB op_280_1 #[true, true, true, true, true, true, true, true, true, true, true, true, false] (((((((Array.replicate 13 false).setIfInBounds 0 true).setIfInBounds 1 true).setIfInBounds 2 true).setIfInBounds 3 true).setIfInBounds 4 true).setIfInBounds 5 true) 6 = true := by kernel_rfl
theorem sb_280_1_7 : softB op_280_1 #[true, true, true, true, true, true, true, true, true, true, true, true, false] ((((((((Array.replicate 13 false).setIfInBounds 0 true).setIfInBounds 1 true).setIfInBounds 2 true).setIfInBounds 3 true).setIfInBounds 4 true).setIfInBounds 5 true).setIfInBounds 6 true) 7 = true := by kernel_rfl
theorem sb_280_1_8 : softB op_280_1 #[true, true, true, true, true, true, true, true, true, true, true, true, false] (((((((((Array.replicate 13 false).setIfInBounds 0 true).setIfInBounds 1 true).setIfInBounds 2 true).setIfInBounds 3 true).setIfInBounds 4 true).setIfInBounds 5 true).setIfInBounds 6 true).setIfInBounds 7 true) 8 = true := by kernel_rfl
theorem sb_280_1_9 : softB op_280_1 #[true, true, true, true, true, true, true, true, true, true, true, true, false] ((((((((((Array.replicate 13 false).setIfInBounds 0 true).setIfInBounds 1 true).setIfInBounds 2 true).setIfInBounds 3 true).setIfInBounds 4 true).setIfInBounds 5 true).setIfInBounds 6 true).setIfInBounds 7 true).setIfInBounds 8 true) 9 = true := by kernel_rfl
theorem sb_280_1_10 : softB op_280_1 #[true, true, true, true, true, true, true, true, true, true, true, true, false] (((((((((((Array.replicate 13 false).setIfInBounds 0 true).setIfInBounds 1 true).setIfInBounds 2 true).setIfInBounds 3 true).setIfInBounds 4 true).setIfInBounds 5 true).setIfInBounds 6 true).setIfInBounds 7 true).setIfInBounds 8 true).setIfInBounds 9 true) 10 = true := by kernel_rfl
theorem sb_280_1_11 : softB op_280_1 #[true, true, true, true, true, true, true, true, true, true, true, true, false] ((((((((((((Array.replicate 13 false).setIfInBounds 0 true).setIfInBounds 1 true).setIfInBounds 2 true).setIfInBounds 3 true).setIfInBounds 4 true).setIfInBounds 5 true).setIfInBounds 6 true).setIfInBounds 7 true).setIfInBounds 8 true).setIfInBounds 9 true).setIfInBounds 10 true) 11 = true := by kernel_rfl
theorem sb_280_1_12 : hardB op_280_1 (((((((((((((Array.replicate 13 false).setIfInBounds 0 true).setIfInBounds 1 true).setIfInBounds 2 true).setIfInBounds 3 true).setIfInBounds 4 true).setIfInBounds 5 true).setIfInBounds 6 true).setIfInBounds 7 true).setIfInBounds 8 true).setIfInBounds 9 true).setIfInBounds 10 true).setIfInBounds 11 true) [12] = true := by kernel_rfl
theorem sb_280_1_13 : hardB op_280_1 ((((((((((((((Array.replicate 13 false).setIfInBounds 0 true).setIfInBounds 1 true).setIfInBounds 2 true).setIfInBounds 3 true).setIfInBounds 4 true).setIfInBounds 5 true).setIfInBounds 6 true).setIfInBounds 7 true).setIfInBounds 8 true).setIfInBounds 9 true).setIfInBounds 10 true).setIfInBounds 11 true).setIfInBounds 12 true) [] = true := by kernel_rfl
theorem sb_280_3_0 : softB op_280_3 #[true, true, true, true, true, true, true, true, true, true, true, true, false] (Array.replicate 13 false) 0 = true := by kernel_rfl
theorem sb_280_3_1 : softB op_280_3 #[true, true, true, true, true, true, true, true, true, true, true, true, false] ((Array.replicate 13 false).setIfInBounds 0 true) 1 = true := by kernel_rfl
theorem sb_280_3_2 : softB op_280_3 #[true, true, true, true, true, true, true, true, true, true, true, true, false] (((Array.replicate 13 false).setIfInBounds 0 true).setIfInBounds 1 true) 2 = true := by kernel_rfl
theorem sb_280_3_3 : softB op_280_3 #[true, true, true, true, true, true, true, true, true, true, true, true, false] ((((Array.replicate 13 false).setIfInBounds 0 true).setIfInBounds 1 true).setIfInBounds 2 true) 3 = true := by kernel_rfl
theorem sb_280_3_4 : softB op_280_3 #[true, true, true, true, true, true, true, true, true, true, true, true, false] (((((Array.replicate 13 false).setIfInBounds 0 true).setIfInBounds 1 true).setIfInBounds 2 true).setIfInBounds 3 true) 4 = true := by kernel_rfl
theorem sb_280_3_5 : softB op_280_3 #[true, true, true, true, true, true, true, true, true, true, true, true, false] ((((((Array.replicate 13 false).setIfInBounds 0 true).setIfInBounds 1 true).setIfInBounds 2 true).setIfInBounds 3 true).setIfInBounds 4 true) 5 = true := by kernel_rfl
theorem sb_280_3_6 : softB op_280_3 #[true, true, true, true, true, true, true, true, true, true, true, true, false] (((((((Array.replicate 13 false).setIfInBounds 0 true).setIfInBounds 1 true).setIfInBounds 2 true).setIfInBounds 3 true).setIfInBounds 4 true).setIfInBounds 5 true) 6 = true := by kernel_rfl
theorem sb_280_3_7 : softB op_280_3 #[true, true, true, true, true, true, true, true, true, true, true, true, false] ((((((((Array.replicate 13 false).setIfInBounds 0 true).setIfInBounds 1 true).setIfInBounds 2 true).setIfInBounds 3 true).setIfInBounds 4 true).setIfInBounds 5 true).setIfInBounds 6 true) 7 = true := by kernel_rfl
theorem sb_280_3_8 : softB op_280_3 #[true, true, true, true, true, true, true, true, true, true, true, true, false] (((((((((Array.replicate 13 false).setIfInBounds 0 true).setIfInBounds 1 true).setIfInBounds 2 true).setIfInBounds 3 true).setIfInBounds 4 true).setIfInBounds 5 true).setIfInBounds 6 true).setIfInBounds 7 true) 8 = true := by kernel_rfl
theorem sb_280_3_9 : softB op_280_3 #[true, true, true, true, true, true, true, true, true, true, true, true, false] ((((((((((Array.replicate 13 false).setIfInBounds 0 true).setIfInBounds 1 true).setIfInBounds 2 true).setIfInBounds 3 true).setIfInBounds 4 true).setIfInBounds 5 true).setIfInBounds 6 true).setIfInBounds 7 true).setIfInBounds 8 true) 9 = true := by kernel_rfl
theorem sb_280_3_10 : softB op_280_3 #[true, true, true, true, true, true, true, true, true, true, true, true, false] (((((((((((Array.replicate 13 false).setIfInBounds 0 true).setIfInBounds 1 true).setIfInBounds 2 true).setIfInBounds 3 true).setIfInBounds 4 true).setIfInBounds 5 true).setIfInBounds 6 true).setIfInBounds 7 true).setIfInBounds 8 true).setIfInBounds 9 true) 10 = true := by kernel_rfl
theorem sb_280_3_11 : softB op_280_3 #[true, true, true, true, true, true, true, true, true, true, true, true, false] ((((((((((((Array.replicate 13 false).setIfInBounds 0 true).setIfInBounds 1 true).setIfInBounds 2 true).setIfInBounds 3 true).setIfInBounds 4 true).setIfInBounds 5 true).setIfInBounds 6 true).setIfInBounds 7 true).setIfInBounds 8 true).setIfInBounds 9 true).setIfInBounds 10 true) 11 = true := by kernel_rfl
theorem sb_280_3_12 : hardB op_280_3 (((((((((((((Array.replicate 13 false).setIfInBounds 0 true).setIfInBounds 1 true).setIfInBounds 2 true).setIfInBounds 3 true).setIfInBounds 4 true).setIfInBounds 5 true).setIfInBounds 6 true).setIfInBounds 7 true).setIfInBounds 8 true).setIfInBounds 9 true).setIfInBounds 10 true).setIfInBounds 11 true) [12] = true := by kernel_rfl
theorem sb_280_3_13 : hardB op_280_3 ((((((((((((((Array.replicate 13 false).setIfInBounds 0 true).setIfInBounds 1 true).setIfInBounds 2 true).setIfInBounds 3 true).setIfInBounds 4 true).setIfInBounds 5 true).setIfInBounds 6 true).setIfInBounds 7 true).setIfInBounds 8 true).setIfInBounds 9 true).setIfInBounds 10 true).setIfInBounds 11 true).setIfInBounds 12 true) [] = true := by kernel_rfl
theorem sb_280_5_0 : softB op_280_5 #[true, true, true, true, true, true, true, true, true, true, true, true, false] (Array.replicate 13 false) 0 = true := by kernel_rfl
theorem sb_280_5_1 : softB op_280_5 #[true, true, true, true, true, true, true, true, true, true, true, true, false] ((Array.replicate 13 false).setIfInBounds 0 true) 1 = true := by kernel_rfl
theorem sb_280_5_2 : softB op_280_5 #[true, true, true, true, true, true, true, true, true, true, true, true, false] (((Array.replicate 13 false).setIfInBounds 0 true).setIfInBounds 1 true) 2 = true := by kernel_rfl
theorem sb_280_5_3 : softB op_280_5 #[true, true, true, true, true, true, true, true, true, true, true, true, false] ((((Array.replicate 13 false).setIfInBounds 0 true).setIfInBounds 1 true).setIfInBounds 2 true) 3 = true := by kernel_rfl
theorem sb_280_5_4 : softB op_280_5 #[true, true, true, true, true, true, true, true, true, true, true, true, false] (((((Array.replicate 13 false).setIfInBounds 0 true).setIfInBounds 1 true).setIfInBounds 2 true).setIfInBounds 3 true) 4 = true := by kernel_rfl
theorem sb_280_5_5 : softB op_280_5 #[true, true, true, true, true, true, true, true, true, true, true, true, false] ((((((Array.replicate 13 false).setIfInBounds 0 true).setIfInBounds 1 true).setIfInBounds 2 true).setIfInBounds 3 true).setIfInBounds 4 true) 5 = true := by kernel_rfl
theorem sb_280_5_6 : softB op_280_5 #[true, true, true, true, true, true, true, true, true, true, true, true, false] (((((((Array.replicate 13 false).setIfInBounds 0 true).setIfInBounds 1 true).setIfInBounds 2 true).setIfInBounds 3 true).setIfInBounds 4 true).setIfInBounds 5 true) 6 = true := by kernel_rfl
theorem sb_280_5_7 : softB op_280_5 #[true, true, true, true, true, true, true, true, true, true, true, true, false] ((((((((Array.replicate 13 false).setIfInBounds 0 true).setIfInBounds 1 true).setIfInBounds 2 true).setIfInBounds 3 true).setIfInBounds 4 true).setIfInBounds 5 true).setIfInBounds 6 true) 7 = true := by kernel_rfl
theorem sb_280_5_8 : softB op_280_5 #[true, true, true, true, true, true, true, true, true, true, true, true, false] (((((((((Array.replicate 13 false).setIfInBounds 0 true).setIfInBounds 1 true).setIfInBounds 2 true).setIfInBounds 3 true).setIfInBounds 4 true).setIfInBounds 5 true).setIfInBounds 6 true).setIfInBounds 7 true) 8 = true := by kernel_rfl
theorem sb_280_5_9 : softB op_280_5 #[true, true, true, true, true, true, true, true, true, true, true, true, false] ((((((((((Array.replicate 13 false).setIfInBounds 0 true).setIfInBounds 1 true).setIfInBounds 2 true).setIfInBounds 3 true).setIfInBounds 4 true).setIfInBounds 5 true).setIfInBounds 6 true).setIfInBounds 7 true).setIfInBounds 8 true) 9 = true := by kernel_rfl
theorem sb_280_5_10 : softB op_280_5 #[true, true, true, true, true, true, true, true, true, true, true, true, false] (((((((((((Array.replicate 13 false).setIfInBounds 0 true).setIfInBounds 1 true).setIfInBounds 2 true).setIfInBounds 3 true).setIfInBounds 4 true).setIfInBounds 5 true).setIfInBounds 6 true).setIfInBounds 7 true).setIfInBounds 8 true).setIfInBounds 9 true) 10 = true := by kernel_rfl
theorem sb_280_5_11 : softB op_280_5 #[true, true, true, true, true, true, true, true, true, true, true, true, false] ((((((((((((Array.replicate 13 false).setIfInBounds 0 true).setIfInBounds 1 true).setIfInBounds 2 true).setIfInBounds 3 true).setIfInBounds 4 true).setIfInBounds 5 true).setIfInBounds 6 true).setIfInBounds 7 true).setIfInBounds 8 true).setIfInBounds 9 true).setIfInBounds 10 true) 11 = true := by kernel_rfl
theorem sb_280_5_12 : hardB op_280_5 (((((((((((((Array.replicate 13 false).setIfInBounds 0 true).setIfInBounds 1 true).setIfInBounds 2 true).setIfInBounds 3 true).setIfInBounds 4 true).setIfInBounds 5 true).setIfInBounds 6 true).setIfInBounds 7 true).setIfInBounds 8 true).setIfInBounds 9 true).setIfInBounds 10 true).setIfInBounds 11 true) [12] = true := by kernel_rfl
theorem sb_280_5_13 : hardB op_280_5 ((((((((((((((Array.replicate 13 false).setIfInBounds 0 true).setIfInBounds 1 true).setIfInBounds 2 true).setIfInBounds 3 true).setIfInBounds 4 true).setIfInBounds 5 true).setIfInBounds 6 true).setIfInBounds 7 true).setIfInBounds 8 true).setIfInBounds 9 true).setIfInBounds 10 true).setIfInBounds 11 true).setIfInBounds 12 true) [] = true := by kernel_rfl
/- (*diff.texts).piece -/
def m280 (n : Nat) (tx : Texts) (out : (List UInt8)) (b0_ : Int) (b1_ : Int) (o0 : Int) (o1 : Int) (t0 : Int) (t1 : Int) : Option ((List UInt8) × Int) :=
ob1 (m307 n tx.no o0 o1 tx.nb b0_ b1_) fun c1 =>
cond c1 (
ob1 (m308 n out tx.t t0 t1) fun l1 =>
some (l1, 0)) (
ob1 (m307 n tx.nt t0 t1 tx.nb b0_ b1_) fun c2 =>
cond c2 (
ob1 (m308 n out tx.o o0 o1) fun l2 =>
some (l2, 0)) (
ob1 (m307 n tx.no o0 o1 tx.nt t0 t1) fun c3 =>
cond c3 (
ob1 (m308 n out tx.o o0 o1) fun l3 =>
some (l3, 0)) (
ob1 (m281 n out [60, 60, 60, 60, 60, 60, 60, 10]) fun l4 =>
ob1 (m309 n l4 tx.o o0 o1) fun l5 =>
ob1 (m281 n l5 [61, 61, 61, 61, 61, 61, 61, 10]) fun l6 =>
ob1 (m309 n l6 tx.t t0 t1) fun l7 =>
ob1 (m281 n l7 [62, 62, 62, 62, 62, 62, 62, 10]) fun l8 =>
some (l8, 1))))
theorem t280 {n : Nat} {C : List Chunk} {rl1 : List UInt8} {rc1 : Int} {b1 : Nat} {tx : Texts} {v1 : Value} {g1 : List Chunk} {v2 : Value} {g2 : List Chunk} {v3 : Value} {g3 : List Chunk} {v4 : Value} {g4 : List Chunk} {v5 : Value} {g5 : List Chunk} {v6 : Value} {g6 : List Chunk} {v7 : Value} {out : (List UInt8)} {g7 : List Chunk} {b0_ : Int} {b1_ : Int} {o0 : Int} {o1 : Int} {t0 : Int} {t1 : Int} (ho1 : Own rStr v1 tx.b g1) (ho2 : Own rStr v2 tx.o g2) (ho3 : Own rStr v3 tx.t g3) (ho4 : Own rInt v4 tx.nb g4) (ho5 : Own rInt v5 tx.no g5) (ho6 : Own rInt v6 tx.nt g6) (ho7 : Own rByte v7 out g7)  (hm : m280 n tx out b0_ b1_ o0 o1 t0 t1 = some (rl1, rc1)) : Trip Tryz.prog 280 #[.pointer (some ⟨b1, 0, none⟩), v7, .int .i64 b0_, .int .i64 b1_, .int .i64 o0, .int .i64 o1, .int .i64 t0, .int .i64 t1] ([[(b1, .cells (Texts.enc (v1) (v2) (v3) (v4) (v5) (v6) tx).toArray 285 (0, 0))], g1, g2, g3, g4, g5, g6, g7] ++ [C]) (fun u S' => ∃ (ev1 : Value), ∃ (eg1 : List Chunk), .tuple #[ev1, .int .i64 rc1] = u ∧ S' = [[(b1, .cells (Texts.enc (v1) (v2) (v3) (v4) (v5) (v6) tx).toArray 285 (0, 0))], g1, g2, g3, g4, g5, g6, eg1] ++ [C] ∧ Own rByte ev1 rl1 eg1) := by
  refine fn_entry (args := [.pointer (some ⟨b1, 0, none⟩), v7, .int .i64 b0_, .int .i64 b1_, .int .i64 o0, .int .i64 o1, .int .i64 t0, .int .i64 t1]) Tryz.func280 rfl Tryz.ntmps280 rfl (fun w0 => ?_)
  refine c_seq ?_
  refine c_region ?_
  have ho8 : Own rByte (.slice none 0 0) [] [] := Own.nil
  refine o_emp ?_
  refine o_L (y_assign rfl) rfl rfl ?_
  refine o_L (y_assign rfl) rfl rfl ?_
  refine o_nil0 rfl ?_
  refine c_seq ?_
  refine c_seq ?_
  refine c_draw #[true, true, true, true, true, true, true, true, true, true, true, true, false] rfl (n := 13) rfl ?_
  refine d_T 0 rfl sb_280_1_0 rfl (y_move rfl) rfl ?_
  refine d_T 1 rfl sb_280_1_1 rfl (y_nilck rfl) rfl ?_
  refine d_T 2 rfl sb_280_1_2 rfl (y_fa fl_285_4 rfl) rfl ?_
  refine d_ld 3 rfl sb_280_1_3 one_65 rfl (fun x hx => hx) (ms m0) (At.got (At.refl.comp Texts.a_no)) rfl ?_
  refine d_T 4 rfl sb_280_1_4 rfl (y_move rfl) rfl ?_
  refine d_T 5 rfl sb_280_1_5 rfl (y_move rfl) rfl ?_
  refine d_T 6 rfl sb_280_1_6 rfl (y_move rfl) rfl ?_
  refine d_T 7 rfl sb_280_1_7 rfl (y_nilck rfl) rfl ?_
  refine d_T 8 rfl sb_280_1_8 rfl (y_fa fl_285_3 rfl) rfl ?_
  refine d_ld 9 rfl sb_280_1_9 one_65 rfl (fun x hx => hx) (ms m0) (At.got (At.refl.comp Texts.a_nb)) rfl ?_
  refine d_T 10 rfl sb_280_1_10 rfl (y_move rfl) rfl ?_
  refine d_T 11 rfl sb_280_1_11 rfl (y_move rfl) rfl ?_
  refine d_hard 12 rfl sb_280_1_12 ?_
  obtain ⟨c1, hx1, hm⟩ := bd1 hm
  refine o_callC en_307 rfl s_nil (t307 (ho5.rd.mono (fun _ hz => (ms (ms (ms (ms (ms (ms (mg hz))))))))) (ho4.rd.mono (fun _ hz => (ms (ms (ms (ms (ms (mg hz)))))))) hx1) rfl (fun u1 S1 hR1 => ?_)
  obtain ⟨rfl, rfl⟩ := hR1
  refine o_rest ?_
  refine o_stop (fun h => nomatch h) ?_
  refine d_nil1 30 sb_280_1_13 rfl rfl ?_
  refine c_cond rfl (fun h1 => ?_) (fun h1 => ?_)
  · have hm := cd_t h1 hm
    refine c_seq ?_
    refine c_region ?_
    refine o_T (y_move rfl) rfl ?_
    refine o_T (y_move rfl) rfl ?_
    refine o_T (y_nilck rfl) rfl ?_
    refine o_T (y_fa fl_285_2 rfl) rfl ?_
    refine o_ld one_185 rfl (ms m0) (At.got (At.refl.comp Texts.a_t)) rfl ?_
    refine o_T (y_move rfl) rfl ?_
    refine o_T (y_move rfl) rfl ?_
    obtain ⟨l1, hx2, hm⟩ := bd1 hm
    refine o_callC en_308 rfl (s_skip (s_skip (s_skip (s_skip (s_skip (s_skip (s_skip (s_skip (s_take s_nil))))))))) (t308 ho7 (ho3.rd.mono (fun _ hz => (ms (ms (ms (ms (mg hz))))))) hx2) rfl (fun u2 S2 hR2 => ?_)
    obtain ⟨v8, g8, rfl, rfl, ho9⟩ := hR2
    refine o_rest ?_
    refine o_L (y_assign rfl) rfl rfl ?_
    refine o_L (y_assign rfl) rfl rfl ?_
    refine o_nil0 rfl ?_
    refine c_ret ?_
    obtain ⟨rfl, rfl⟩ := pr2 hm
    refine fun aX wX heX hsX => ret2 Tryz.results280 heX rfl rfl (s_get (ks (ks k0)) (s_get (ks (ks k0)) (s_get (ks (ks k0)) (s_get (ks (ks k0)) (s_get (ks (ks k0)) (s_get (ks (ks k0)) (s_get (ks (ks k0)) (s_take (s_skip (s_take s_nil)))))))))) ?_
    exact ⟨v8, _, rfl, rfl, ho9⟩
  · have hm := cd_f h1 hm
    refine c_skip ?_
    refine c_seq ?_
    refine c_seq ?_
    refine c_draw #[true, true, true, true, true, true, true, true, true, true, true, true, false] rfl (n := 13) rfl ?_
    refine d_T 0 rfl sb_280_3_0 rfl (y_move rfl) rfl ?_
    refine d_T 1 rfl sb_280_3_1 rfl (y_nilck rfl) rfl ?_
    refine d_T 2 rfl sb_280_3_2 rfl (y_fa fl_285_5 rfl) rfl ?_
    refine d_ld 3 rfl sb_280_3_3 one_65 rfl (fun x hx => hx) (ms m0) (At.got (At.refl.comp Texts.a_nt)) rfl ?_
    refine d_T 4 rfl sb_280_3_4 rfl (y_move rfl) rfl ?_
    refine d_T 5 rfl sb_280_3_5 rfl (y_move rfl) rfl ?_
    refine d_T 6 rfl sb_280_3_6 rfl (y_move rfl) rfl ?_
    refine d_T 7 rfl sb_280_3_7 rfl (y_nilck rfl) rfl ?_
    refine d_T 8 rfl sb_280_3_8 rfl (y_fa fl_285_3 rfl) rfl ?_
    refine d_ld 9 rfl sb_280_3_9 one_65 rfl (fun x hx => hx) (ms m0) (At.got (At.refl.comp Texts.a_nb)) rfl ?_
    refine d_T 10 rfl sb_280_3_10 rfl (y_move rfl) rfl ?_
    refine d_T 11 rfl sb_280_3_11 rfl (y_move rfl) rfl ?_
    refine d_hard 12 rfl sb_280_3_12 ?_
    obtain ⟨c2, hx3, hm⟩ := bd1 hm
    refine o_callC en_307 rfl s_nil (t307 (ho6.rd.mono (fun _ hz => (ms (ms (ms (ms (ms (ms (ms (mg hz)))))))))) (ho4.rd.mono (fun _ hz => (ms (ms (ms (ms (ms (mg hz)))))))) hx3) rfl (fun u3 S3 hR3 => ?_)
    obtain ⟨rfl, rfl⟩ := hR3
    refine o_rest ?_
    refine o_stop (fun h => nomatch h) ?_
    refine d_nil1 51 sb_280_3_13 rfl rfl ?_
    refine c_cond rfl (fun h2 => ?_) (fun h2 => ?_)
    · have hm := cd_t h2 hm
      refine c_seq ?_
      refine c_region ?_
      refine o_T (y_move rfl) rfl ?_
      refine o_T (y_move rfl) rfl ?_
      refine o_T (y_nilck rfl) rfl ?_
      refine o_T (y_fa fl_285_1 rfl) rfl ?_
      refine o_ld one_185 rfl (ms m0) (At.got (At.refl.comp Texts.a_o)) rfl ?_
      refine o_T (y_move rfl) rfl ?_
      refine o_T (y_move rfl) rfl ?_
      obtain ⟨l2, hx4, hm⟩ := bd1 hm
      refine o_callC en_308 rfl (s_skip (s_skip (s_skip (s_skip (s_skip (s_skip (s_skip (s_skip (s_take s_nil))))))))) (t308 ho7 (ho2.rd.mono (fun _ hz => (ms (ms (ms (mg hz)))))) hx4) rfl (fun u4 S4 hR4 => ?_)
      obtain ⟨v9, g9, rfl, rfl, ho10⟩ := hR4
      refine o_rest ?_
      refine o_L (y_assign rfl) rfl rfl ?_
      refine o_L (y_assign rfl) rfl rfl ?_
      refine o_nil0 rfl ?_
      refine c_ret ?_
      obtain ⟨rfl, rfl⟩ := pr2 hm
      refine fun aX wX heX hsX => ret2 Tryz.results280 heX rfl rfl (s_get (ks (ks k0)) (s_get (ks (ks k0)) (s_get (ks (ks k0)) (s_get (ks (ks k0)) (s_get (ks (ks k0)) (s_get (ks (ks k0)) (s_get (ks (ks k0)) (s_take (s_skip (s_take s_nil)))))))))) ?_
      exact ⟨v9, _, rfl, rfl, ho10⟩
    · have hm := cd_f h2 hm
      refine c_skip ?_
      refine c_seq ?_
      refine c_seq ?_
      refine c_draw #[true, true, true, true, true, true, true, true, true, true, true, true, false] rfl (n := 13) rfl ?_
      refine d_T 0 rfl sb_280_5_0 rfl (y_move rfl) rfl ?_
      refine d_T 1 rfl sb_280_5_1 rfl (y_nilck rfl) rfl ?_
      refine d_T 2 rfl sb_280_5_2 rfl (y_fa fl_285_4 rfl) rfl ?_
      refine d_ld 3 rfl sb_280_5_3 one_65 rfl (fun x hx => hx) (ms m0) (At.got (At.refl.comp Texts.a_no)) rfl ?_
      refine d_T 4 rfl sb_280_5_4 rfl (y_move rfl) rfl ?_
      refine d_T 5 rfl sb_280_5_5 rfl (y_move rfl) rfl ?_
      refine d_T 6 rfl sb_280_5_6 rfl (y_move rfl) rfl ?_
      refine d_T 7 rfl sb_280_5_7 rfl (y_nilck rfl) rfl ?_
      refine d_T 8 rfl sb_280_5_8 rfl (y_fa fl_285_5 rfl) rfl ?_
      refine d_ld 9 rfl sb_280_5_9 one_65 rfl (fun x hx => hx) (ms m0) (At.got (At.refl.comp Texts.a_nt)) rfl ?_
      refine d_T 10 rfl sb_280_5_10 rfl (y_move rfl) rfl ?_
      refine d_T 11 rfl sb_280_5_11 rfl (y_move rfl) rfl ?_
      refine d_hard 12 rfl sb_280_5_12 ?_
      obtain ⟨c3, hx5, hm⟩ := bd1 hm
      refine o_callC en_307 rfl s_nil (t307 (ho5.rd.mono (fun _ hz => (ms (ms (ms (ms (ms (ms (mg hz))))))))) (ho6.rd.mono (fun _ hz => (ms (ms (ms (ms (ms (ms (ms (mg hz)))))))))) hx5) rfl (fun u5 S5 hR5 => ?_)
      obtain ⟨rfl, rfl⟩ := hR5
      refine o_rest ?_
      refine o_stop (fun h => nomatch h) ?_
      refine d_nil1 72 sb_280_5_13 rfl rfl ?_
      refine c_cond rfl (fun h3 => ?_) (fun h3 => ?_)
      · have hm := cd_t h3 hm
        refine c_seq ?_
        refine c_region ?_
        refine o_T (y_move rfl) rfl ?_
        refine o_T (y_move rfl) rfl ?_
        refine o_T (y_nilck rfl) rfl ?_
        refine o_T (y_fa fl_285_1 rfl) rfl ?_
        refine o_ld one_185 rfl (ms m0) (At.got (At.refl.comp Texts.a_o)) rfl ?_
        refine o_T (y_move rfl) rfl ?_
        refine o_T (y_move rfl) rfl ?_
        obtain ⟨l3, hx6, hm⟩ := bd1 hm
        refine o_callC en_308 rfl (s_skip (s_skip (s_skip (s_skip (s_skip (s_skip (s_skip (s_skip (s_take s_nil))))))))) (t308 ho7 (ho2.rd.mono (fun _ hz => (ms (ms (ms (mg hz)))))) hx6) rfl (fun u6 S6 hR6 => ?_)
        obtain ⟨v10, g10, rfl, rfl, ho11⟩ := hR6
        refine o_rest ?_
        refine o_L (y_assign rfl) rfl rfl ?_
        refine o_L (y_assign rfl) rfl rfl ?_
        refine o_nil0 rfl ?_
        refine c_ret ?_
        obtain ⟨rfl, rfl⟩ := pr2 hm
        refine fun aX wX heX hsX => ret2 Tryz.results280 heX rfl rfl (s_get (ks (ks k0)) (s_get (ks (ks k0)) (s_get (ks (ks k0)) (s_get (ks (ks k0)) (s_get (ks (ks k0)) (s_get (ks (ks k0)) (s_get (ks (ks k0)) (s_take (s_skip (s_take s_nil)))))))))) ?_
        exact ⟨v10, _, rfl, rfl, ho11⟩
      · have hm := cd_f h3 hm
        refine c_skip ?_
        refine c_seq ?_
        refine c_region ?_
        refine o_T (y_move rfl) rfl ?_
        obtain ⟨l4, hx7, hm⟩ := bd1 hm
        refine o_callC en_281 rfl (s_skip (s_skip (s_skip (s_skip (s_skip (s_skip (s_skip (s_skip (s_take s_nil))))))))) (t281 ho7 hx7) rfl (fun u7 S7 hR7 => ?_)
        obtain ⟨v11, g11, rfl, rfl, ho12⟩ := hR7
        refine o_rest ?_
        refine o_L (y_assign rfl) rfl rfl ?_
        refine o_nil0 rfl ?_
        refine c_seq ?_
        refine c_region ?_
        refine o_T (y_move rfl) rfl ?_
        refine o_T (y_move rfl) rfl ?_
        refine o_T (y_nilck rfl) rfl ?_
        refine o_T (y_fa fl_285_1 rfl) rfl ?_
        refine o_ld one_185 rfl (ms (ms m0)) (At.got (At.refl.comp Texts.a_o)) rfl ?_
        refine o_T (y_move rfl) rfl ?_
        refine o_T (y_move rfl) rfl ?_
        obtain ⟨l5, hx8, hm⟩ := bd1 hm
        refine o_callC en_309 rfl (s_take s_nil) (t309 ho12 (ho2.rd.mono (fun _ hz => (ms (ms (ms (mg hz)))))) hx8) rfl (fun u8 S8 hR8 => ?_)
        obtain ⟨v12, g12, rfl, rfl, ho13⟩ := hR8
        refine o_rest ?_
        refine o_L (y_assign rfl) rfl rfl ?_
        refine o_nil0 rfl ?_
        refine c_seq ?_
        refine c_region ?_
        refine o_T (y_move rfl) rfl ?_
        obtain ⟨l6, hx9, hm⟩ := bd1 hm
        refine o_callC en_281 rfl (s_take s_nil) (t281 ho13 hx9) rfl (fun u9 S9 hR9 => ?_)
        obtain ⟨v13, g13, rfl, rfl, ho14⟩ := hR9
        refine o_rest ?_
        refine o_L (y_assign rfl) rfl rfl ?_
        refine o_nil0 rfl ?_
        refine c_seq ?_
        refine c_region ?_
        refine o_T (y_move rfl) rfl ?_
        refine o_T (y_move rfl) rfl ?_
        refine o_T (y_nilck rfl) rfl ?_
        refine o_T (y_fa fl_285_2 rfl) rfl ?_
        refine o_ld one_185 rfl (ms (ms m0)) (At.got (At.refl.comp Texts.a_t)) rfl ?_
        refine o_T (y_move rfl) rfl ?_
        refine o_T (y_move rfl) rfl ?_
        obtain ⟨l7, hx10, hm⟩ := bd1 hm
        refine o_callC en_309 rfl (s_take s_nil) (t309 ho14 (ho3.rd.mono (fun _ hz => (ms (ms (ms (ms (mg hz))))))) hx10) rfl (fun u10 S10 hR10 => ?_)
        obtain ⟨v14, g14, rfl, rfl, ho15⟩ := hR10
        refine o_rest ?_
        refine o_L (y_assign rfl) rfl rfl ?_
        refine o_nil0 rfl ?_
        refine c_seq ?_
        refine c_region ?_
        refine o_T (y_move rfl) rfl ?_
        obtain ⟨l8, hx11, hm⟩ := bd1 hm
        refine o_callC en_281 rfl (s_take s_nil) (t281 ho15 hx11) rfl (fun u11 S11 hR11 => ?_)
        obtain ⟨v15, g15, rfl, rfl, ho16⟩ := hR11
        refine o_rest ?_
        refine o_L (y_assign rfl) rfl rfl ?_
        refine o_nil0 rfl ?_
        refine c_seq ?_
        refine c_region ?_
        refine o_T (y_move rfl) rfl ?_
        refine o_L (y_assign rfl) rfl rfl ?_
        refine o_L (y_assign rfl) rfl rfl ?_
        refine o_nil0 rfl ?_
        refine c_ret ?_
        obtain ⟨rfl, rfl⟩ := pr2 hm
        refine fun aX wX heX hsX => ret2 Tryz.results280 heX rfl rfl (s_get (ks (ks k0)) (s_get (ks (ks k0)) (s_get (ks (ks k0)) (s_get (ks (ks k0)) (s_get (ks (ks k0)) (s_get (ks (ks k0)) (s_get (ks (ks k0)) (s_take (s_skip (s_take s_nil)))))))))) ?_
        exact ⟨v15, _, rfl, rfl, ho16⟩
end Go.Proofs.Qxb6500350aGreat
