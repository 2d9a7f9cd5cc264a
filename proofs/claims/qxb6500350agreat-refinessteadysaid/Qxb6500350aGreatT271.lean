/- MADE BY PROGRAM (tools350/mir.py): mirror and walk. -/
import Derived.Test.Qxb6500350aGreatF2
set_option linter.unusedVariables false
set_option linter.unusedSimpArgs false
set_option maxRecDepth 20000
set_option maxHeartbeats 4000000
namespace Go.Proofs.Qxb6500350aGreat
open Go.Eng

def op_271_1 : Array Go.Oper := #[{ dst := some 17, op := Go.Op.move (Go.Operand.tmp 0), type := 31, pos := "pool.go:141", after := #[], guard := none }, { dst := some 18, op := Go.Op.move (Go.Operand.tmp 1), type := 3, pos := "pool.go:141", after := #[], guard := none }, { dst := some 19, op := Go.Op.move (Go.Operand.tmp 0), type := 31, pos := "pool.go:141", after := #[], guard := none }, { dst := some 20, op := Go.Op.move (Go.Operand.tmp 2), type := 3, pos := "pool.go:141", after := #[], guard := none }, { dst := some 21, op := Go.Op.nilCheck (Go.Operand.tmp 19), type := 0, pos := "pool.go:141", after := #[{ on := 2, ground := Go.Ground.data }], guard := none }, { dst := some 22, op := Go.Op.fieldAddr 184 (Go.Operand.tmp 21) 0, type := 0, pos := "pool.go:141", after := #[{ on := 4, ground := Go.Ground.data }], guard := none }, { dst := some 23, op := Go.Op.indexAddr 182 (Go.Operand.tmp 22) (Go.Operand.tmp 20), type := 0, pos := "pool.go:141", after := #[{ on := 5, ground := Go.Ground.data }, { on := 3, ground := Go.Ground.data }], guard := none }, { dst := some 24, op := Go.Op.fieldAddr 181 (Go.Operand.tmp 23) 2, type := 0, pos := "pool.go:141", after := #[{ on := 6, ground := Go.Ground.data }], guard := none }, { dst := some 25, op := Go.Op.load 3 (Go.Operand.tmp 24), type := 3, pos := "pool.go:141", after := #[{ on := 7, ground := Go.Ground.data }], guard := none }, { dst := some 26, op := Go.Op.nilCheck (Go.Operand.tmp 17), type := 0, pos := "pool.go:141", after := #[{ on := 0, ground := Go.Ground.data }], guard := none }, { dst := some 27, op := Go.Op.fieldAddr 184 (Go.Operand.tmp 26) 0, type := 0, pos := "pool.go:141", after := #[{ on := 9, ground := Go.Ground.data }], guard := none }, { dst := some 28, op := Go.Op.indexAddr 182 (Go.Operand.tmp 27) (Go.Operand.tmp 18), type := 0, pos := "pool.go:141", after := #[{ on := 10, ground := Go.Ground.data }, { on := 1, ground := Go.Ground.data }, { on := 0, ground := Go.Ground.phase }, { on := 1, ground := Go.Ground.phase }, { on := 2, ground := Go.Ground.phase }, { on := 3, ground := Go.Ground.phase }, { on := 4, ground := Go.Ground.phase }, { on := 5, ground := Go.Ground.phase }, { on := 6, ground := Go.Ground.phase }, { on := 7, ground := Go.Ground.phase }, { on := 8, ground := Go.Ground.phase }], guard := none }, { dst := some 29, op := Go.Op.fieldAddr 181 (Go.Operand.tmp 28) 1, type := 0, pos := "pool.go:141", after := #[{ on := 11, ground := Go.Ground.data }, { on := 0, ground := Go.Ground.phase }, { on := 1, ground := Go.Ground.phase }, { on := 2, ground := Go.Ground.phase }, { on := 3, ground := Go.Ground.phase }, { on := 4, ground := Go.Ground.phase }, { on := 5, ground := Go.Ground.phase }, { on := 6, ground := Go.Ground.phase }, { on := 7, ground := Go.Ground.phase }, { on := 8, ground := Go.Ground.phase }], guard := none }, { dst := none, op := Go.Op.store 3 (Go.Operand.tmp 29) (Go.Operand.tmp 25), type := 0, pos := "pool.go:141", after := #[{ on := 12, ground := Go.Ground.data }, { on := 8, ground := Go.Ground.data }, { on := 0, ground := Go.Ground.phase }, { on := 1, ground := Go.Ground.phase }, { on := 2, ground := Go.Ground.phase }, { on := 3, ground := Go.Ground.phase }, { on := 4, ground := Go.Ground.phase }, { on := 5, ground := Go.Ground.phase }, { on := 6, ground := Go.Ground.phase }, { on := 7, ground := Go.Ground.phase }, { on := 8, ground := Go.Ground.phase }], guard := none }]
def op_271_7 : Array Go.Oper := #[{ dst := some 63, op := Go.Op.move (Go.Operand.tmp 0), type := 31, pos := "pool.go:147", after := #[], guard := none }, { dst := some 64, op := Go.Op.move (Go.Operand.tmp 6), type := 3, pos := "pool.go:147", after := #[], guard := none }, { dst := some 65, op := Go.Op.move (Go.Operand.tmp 0), type := 31, pos := "pool.go:147", after := #[], guard := none }, { dst := some 66, op := Go.Op.move (Go.Operand.tmp 2), type := 3, pos := "pool.go:147", after := #[], guard := none }, { dst := some 67, op := Go.Op.nilCheck (Go.Operand.tmp 65), type := 0, pos := "pool.go:147", after := #[{ on := 2, ground := Go.Ground.data }], guard := none }, { dst := some 68, op := Go.Op.fieldAddr 184 (Go.Operand.tmp 67) 0, type := 0, pos := "pool.go:147", after := #[{ on := 4, ground := Go.Ground.data }], guard := none }, { dst := some 69, op := Go.Op.indexAddr 182 (Go.Operand.tmp 68) (Go.Operand.tmp 66), type := 0, pos := "pool.go:147", after := #[{ on := 5, ground := Go.Ground.data }, { on := 3, ground := Go.Ground.data }], guard := none }, { dst := some 70, op := Go.Op.fieldAddr 181 (Go.Operand.tmp 69) 2, type := 0, pos := "pool.go:147", after := #[{ on := 6, ground := Go.Ground.data }], guard := none }, { dst := some 71, op := Go.Op.load 3 (Go.Operand.tmp 70), type := 3, pos := "pool.go:147", after := #[{ on := 7, ground := Go.Ground.data }], guard := none }, { dst := some 72, op := Go.Op.nilCheck (Go.Operand.tmp 63), type := 0, pos := "pool.go:147", after := #[{ on := 0, ground := Go.Ground.data }], guard := none }, { dst := some 73, op := Go.Op.fieldAddr 184 (Go.Operand.tmp 72) 0, type := 0, pos := "pool.go:147", after := #[{ on := 9, ground := Go.Ground.data }], guard := none }, { dst := some 74, op := Go.Op.indexAddr 182 (Go.Operand.tmp 73) (Go.Operand.tmp 64), type := 0, pos := "pool.go:147", after := #[{ on := 10, ground := Go.Ground.data }, { on := 1, ground := Go.Ground.data }, { on := 0, ground := Go.Ground.phase }, { on := 1, ground := Go.Ground.phase }, { on := 2, ground := Go.Ground.phase }, { on := 3, ground := Go.Ground.phase }, { on := 4, ground := Go.Ground.phase }, { on := 5, ground := Go.Ground.phase }, { on := 6, ground := Go.Ground.phase }, { on := 7, ground := Go.Ground.phase }, { on := 8, ground := Go.Ground.phase }], guard := none }, { dst := some 75, op := Go.Op.fieldAddr 181 (Go.Operand.tmp 74) 2, type := 0, pos := "pool.go:147", after := #[{ on := 11, ground := Go.Ground.data }, { on := 0, ground := Go.Ground.phase }, { on := 1, ground := Go.Ground.phase }, { on := 2, ground := Go.Ground.phase }, { on := 3, ground := Go.Ground.phase }, { on := 4, ground := Go.Ground.phase }, { on := 5, ground := Go.Ground.phase }, { on := 6, ground := Go.Ground.phase }, { on := 7, ground := Go.Ground.phase }, { on := 8, ground := Go.Ground.phase }], guard := none }, { dst := none, op := Go.Op.store 3 (Go.Operand.tmp 75) (Go.Operand.tmp 71), type := 0, pos := "pool.go:147", after := #[{ on := 12, ground := Go.Ground.data }, { on := 8, ground := Go.Ground.data }, { on := 0, ground := Go.Ground.phase }, { on := 1, ground := Go.Ground.phase }, { on := 2, ground := Go.Ground.phase }, { on := 3, ground := Go.Ground.phase }, { on := 4, ground := Go.Ground.phase }, { on := 5, ground := Go.Ground.phase }, { on := 6, ground := Go.Ground.phase }, { on := 7, ground := Go.Ground.phase }, { on := 8, ground := Go.Ground.phase }], guard := none }]
def op_271_8 : Array Go.Oper := #[{ dst := some 76, op := Go.Op.move (Go.Operand.tmp 0), type := 31, pos := "pool.go:149", after := #[], guard := none }, { dst := some 77, op := Go.Op.move (Go.Operand.tmp 2), type := 3, pos := "pool.go:149", after := #[], guard := none }, { dst := some 78, op := Go.Op.move (Go.Operand.tmp 0), type := 31, pos := "pool.go:149", after := #[], guard := none }, { dst := some 79, op := Go.Op.nilCheck (Go.Operand.tmp 78), type := 0, pos := "pool.go:149", after := #[{ on := 2, ground := Go.Ground.data }], guard := none }, { dst := some 80, op := Go.Op.fieldAddr 184 (Go.Operand.tmp 79) 1, type := 0, pos := "pool.go:149", after := #[{ on := 3, ground := Go.Ground.data }], guard := none }, { dst := some 81, op := Go.Op.load 3 (Go.Operand.tmp 80), type := 3, pos := "pool.go:149", after := #[{ on := 4, ground := Go.Ground.data }], guard := none }, { dst := some 82, op := Go.Op.build 181 #[(2, Go.Operand.tmp 81)], type := 181, pos := "pool.go:149", after := #[{ on := 5, ground := Go.Ground.data }], guard := none }, { dst := some 83, op := Go.Op.nilCheck (Go.Operand.tmp 76), type := 0, pos := "pool.go:149", after := #[{ on := 0, ground := Go.Ground.data }], guard := none }, { dst := some 84, op := Go.Op.fieldAddr 184 (Go.Operand.tmp 83) 0, type := 0, pos := "pool.go:149", after := #[{ on := 7, ground := Go.Ground.data }], guard := none }, { dst := some 85, op := Go.Op.indexAddr 182 (Go.Operand.tmp 84) (Go.Operand.tmp 77), type := 0, pos := "pool.go:149", after := #[{ on := 8, ground := Go.Ground.data }, { on := 1, ground := Go.Ground.data }, { on := 0, ground := Go.Ground.phase }, { on := 1, ground := Go.Ground.phase }, { on := 2, ground := Go.Ground.phase }, { on := 3, ground := Go.Ground.phase }, { on := 4, ground := Go.Ground.phase }, { on := 5, ground := Go.Ground.phase }, { on := 6, ground := Go.Ground.phase }], guard := none }, { dst := none, op := Go.Op.store 181 (Go.Operand.tmp 85) (Go.Operand.tmp 82), type := 0, pos := "pool.go:149", after := #[{ on := 9, ground := Go.Ground.data }, { on := 6, ground := Go.Ground.data }, { on := 0, ground := Go.Ground.phase }, { on := 1, ground := Go.Ground.phase }, { on := 2, ground := Go.Ground.phase }, { on := 3, ground := Go.Ground.phase }, { on := 4, ground := Go.Ground.phase }, { on := 5, ground := Go.Ground.phase }, { on := 6, ground := Go.Ground.phase }], guard := none }]
theorem sb_271_1_0 : softB op_271_1 #[true, true, true, true, true, true, true, true, true, true, true, true, true, false] (Array.replicate 14 false) 0 = true := by kernel_rfl
theorem sb_271_1_1 : softB op_271_1 #[true, true, true, true, true, true, true, true, true, true, true, true, true, false] ((Array.replicate 14 false).setIfInBounds 0 true) 1 = true := by kernel_rfl
theorem sb_271_1_2 : softB op_271_1 #[true, true, true, true, true, true, true, true, true, true, true, true, true, false] (((Array.replicate 14 false).setIfInBounds 0 true).setIfInBounds 1 true) 2 = true := by kernel_rfl
theorem sb_271_1_3 : softB op_271_1 #[true, true, true, true, true, true, true, true, true, true, true, true, true, false] ((((Array.replicate 14 false).setIfInBounds 0 true).setIfInBounds 1 true).setIfInBounds 2 true) 3 = true := by kernel_rfl
theorem sb_271_1_4 : softB op_271_1 #[true, true, true, true, true, true, true, true, true, true, true, true, true, false] (((((Array.replicate 14 false).setIfInBounds 0 true).setIfInBounds 1 true).setIfInBounds 2 true).setIfInBounds 3 true) 4 = true := by kernel_rfl
theorem sb_271_1_5 : softB op_271_1 #[true, true, true, true, true, true, true, true, true, true, true, true, true, false] ((((((Array.replicate 14 false).setIfInBounds 0 true).setIfInBounds 1 true).setIfInBounds 2 true).setIfInBounds 3 true).setIfInBounds 4 true) 5 = true := by kernel_rfl
theorem sb_271_1_6 : softB op_271_1 #[true, true, true, true, true, true, true, true, true, true, true, true, true, false] (((((((Array.replicate 14 false).setIfInBounds 0 true).setIfInBounds 1 true).setIfInBounds 2 true).setIfInBounds 3 true).setIfInBounds 4 true).setIfInBounds 5 true) 6 = true := by kernel_rfl
theorem sb_271_1_7 : softB op_271_1 #[true, true, true, true, true, true, true, true, true, true, true, true, true, false] ((((((((Array.replicate 14 false).setIfInBounds 0 true).setIfInBounds 1 true).setIfInBounds 2 true).setIfInBounds 3 true).setIfInBounds 4 true).setIfInBounds 5 true).setIfInBounds 6 true) 7 = true := by kernel_rfl
theorem sb_271_1_8 : softB op_271_1 #[true, true, true, true, true, true, true, true, true, true, true, true, true, false] (((((((((Array.replicate 14 false).setIfInBounds 0 true).setIfInBounds 1 true).setIfInBounds 2 true).setIfInBounds 3 true).setIfInBounds 4 true).setIfInBounds 5 true).setIfInBounds 6 true).setIfInBounds 7 true) 8 = true := by kernel_rfl
theorem sb_271_1_9 : softB op_271_1 #[true, true, true, true, true, true, true, true, true, true, true, true, true, false] ((((((((((Array.replicate 14 false).setIfInBounds 0 true).setIfInBounds 1 true).setIfInBounds 2 true).setIfInBounds 3 true).setIfInBounds 4 true).setIfInBounds 5 true).setIfInBounds 6 true).setIfInBounds 7 true).setIfInBounds 8 true) 9 = true := by kernel_rfl
theorem sb_271_1_10 : softB op_271_1 #[true, true, true, true, true, true, true, true, true, true, true, true, true, false] (((((((((((Array.replicate 14 false).setIfInBounds 0 true).setIfInBounds 1 true).setIfInBounds 2 true).setIfInBounds 3 true).setIfInBounds 4 true).setIfInBounds 5 true).setIfInBounds 6 true).setIfInBounds 7 true).setIfInBounds 8 true).setIfInBounds 9 true) 10 = true := by kernel_rfl
theorem sb_271_1_11 : softB op_271_1 #[true, true, true, true, true, true, true, true, true, true, true, true, true, false] ((((((((((((Array.replicate 14 false).setIfInBounds 0 true).setIfInBounds 1 true).setIfInBounds 2 true).setIfInBounds 3 true).setIfInBounds 4 true).setIfInBounds 5 true).setIfInBounds 6 true).setIfInBounds 7 true).setIfInBounds 8 true).setIfInBounds 9 true).setIfInBounds 10 true) 11 = true := by kernel_rfl
theorem sb_271_1_12 : softB op_271_1 #[true, true, true, true, true, true, true, true, true, true, true, true, true, false] (((((((((((((Array.replicate 14 false).setIfInBounds 0 true).setIfInBounds 1 true).setIfInBounds 2 true).setIfInBounds 3 true).setIfInBounds 4 true).setIfInBounds 5 true).setIfInBounds 6 true).setIfInBounds 7 true).setIfInBounds 8 true).setIfInBounds 9 true).setIfInBounds 10 true).setIfInBounds 11 true) 12 = true := by kernel_rfl
theorem sb_271_1_13 : hardB op_271_1 ((((((((((((((Array.replicate 14 false).setIfInBounds 0 true).setIfInBounds 1 true).setIfInBounds 2 true).setIfInBounds 3 true).setIfInBounds 4 true).setIfInBounds 5 true).setIfInBounds 6 true).setIfInBounds 7 true).setIfInBounds 8 true).setIfInBounds 9 true).setIfInBounds 10 true).setIfInBounds 11 true).setIfInBounds 12 true) [13] = true := by kernel_rfl
theorem sb_271_1_14 : hardB op_271_1 (((((((((((((((Array.replicate 14 false).setIfInBounds 0 true).setIfInBounds 1 true).setIfInBounds 2 true).setIfInBounds 3 true).setIfInBounds 4 true).setIfInBounds 5 true).setIfInBounds 6 true).setIfInBounds 7 true).setIfInBounds 8 true).setIfInBounds 9 true).setIfInBounds 10 true).setIfInBounds 11 true).setIfInBounds 12 true).setIfInBounds 13 true) [] = true := by kernel_rfl
theorem sb_271_7_0 : softB op_271_7 #[true, true, true, true, true, true, true, true, true, true, true, true, true, false] (Array.replicate 14 false) 0 = true := by kernel_rfl
theorem sb_271_7_1 : softB op_271_7 #[true, true, true, true, true, true, true, true, true, true, true, true, true, false] ((Array.replicate 14 false).setIfInBounds 0 true) 1 = true := by kernel_rfl
theorem sb_271_7_2 : softB op_271_7 #[true, true, true, true, true, true, true, true, true, true, true, true, true, false] (((Array.replicate 14 false).setIfInBounds 0 true).setIfInBounds 1 true) 2 = true := by kernel_rfl
theorem sb_271_7_3 : softB op_271_7 #[true, true, true, true, true, true, true, true, true, true, true, true, true, false] ((((Array.replicate 14 false).setIfInBounds 0 true).setIfInBounds 1 true).setIfInBounds 2 true) 3 = true := by kernel_rfl
theorem sb_271_7_4 : softB op_271_7 #[true, true, true, true, true, true, true, true, true, true, true, true, true, false] (((((Array.replicate 14 false).setIfInBounds 0 true).setIfInBounds 1 true).setIfInBounds 2 true).setIfInBounds 3 true) 4 = true := by kernel_rfl
theorem sb_271_7_5 : softB op_271_7 #[true, true, true, true, true, true, true, true, true, true, true, true, true, false] ((((((Array.replicate 14 false).setIfInBounds 0 true).setIfInBounds 1 true).setIfInBounds 2 true).setIfInBounds 3 true).setIfInBounds 4 true) 5 = true := by kernel_rfl
theorem sb_271_7_6 : softB op_271_7 #[true, true, true, true, true, true, true, true, true, true, true, true, true, false] (((((((Array.replicate 14 false).setIfInBounds 0 true).setIfInBounds 1 true).setIfInBounds 2 true).setIfInBounds 3 true).setIfInBounds 4 true).setIfInBounds 5 true) 6 = true := by kernel_rfl
theorem sb_271_7_7 : softB op_271_7 #[true, true, true, true, true, true, true, true, true, true, true, true, true, false] ((((((((Array.replicate 14 false).setIfInBounds 0 true).setIfInBounds 1 true).setIfInBounds 2 true).setIfInBounds 3 true).setIfInBounds 4 true).setIfInBounds 5 true).setIfInBounds 6 true) 7 = true := by kernel_rfl
theorem sb_271_7_8 : softB op_271_7 #[true, true, true, true, true, true, true, true, true, true, true, true, true, false] (((((((((Array.replicate 14 false).setIfInBounds 0 true).setIfInBounds 1 true).setIfInBounds 2 true).setIfInBounds 3 true).setIfInBounds 4 true).setIfInBounds 5 true).setIfInBounds 6 true).setIfInBounds 7 true) 8 = true := by kernel_rfl
theorem sb_271_7_9 : softB op_271_7 #[true, true, true, true, true, true, true, true, true, true, true, true, true, false] ((((((((((Array.replicate 14 false).setIfInBounds 0 true).setIfInBounds 1 true).setIfInBounds 2 true).setIfInBounds 3 true).setIfInBounds 4 true).setIfInBounds 5 true).setIfInBounds 6 true).setIfInBounds 7 true).setIfInBounds 8 true) 9 = true := by kernel_rfl
theorem sb_271_7_10 : softB op_271_7 #[true, true, true, true, true, true, true, true, true, true, true, true, true, false] (((((((((((Array.replicate 14 false).setIfInBounds 0 true).setIfInBounds 1 true).setIfInBounds 2 true).setIfInBounds 3 true).setIfInBounds 4 true).setIfInBounds 5 true).setIfInBounds 6 true).setIfInBounds 7 true).setIfInBounds 8 true).setIfInBounds 9 true) 10 = true := by kernel_rfl
theorem sb_271_7_11 : softB op_271_7 #[true, true, true, true, true, true, true, true, true, true, true, true, true, false] ((((((((((((Array.replicate 14 false).setIfInBounds 0 true).setIfInBounds 1 true).setIfInBounds 2 true).setIfInBounds 3 true).setIfInBounds 4 true).setIfInBounds 5 true).setIfInBounds 6 true).setIfInBounds 7 true).setIfInBounds 8 true).setIfInBounds 9 true).setIfInBounds 10 true) 11 = true := by kernel_rfl
theorem sb_271_7_12 : softB op_271_7 #[true, true, true, true, true, true, true, true, true, true, true, true, true, false] (((((((((((((Array.replicate 14 false).setIfInBounds 0 true).setIfInBounds 1 true).setIfInBounds 2 true).setIfInBounds 3 true).setIfInBounds 4 true).setIfInBounds 5 true).setIfInBounds 6 true).setIfInBounds 7 true).setIfInBounds 8 true).setIfInBounds 9 true).setIfInBounds 10 true).setIfInBounds 11 true) 12 = true := by kernel_rfl
theorem sb_271_7_13 : hardB op_271_7 ((((((((((((((Array.replicate 14 false).setIfInBounds 0 true).setIfInBounds 1 true).setIfInBounds 2 true).setIfInBounds 3 true).setIfInBounds 4 true).setIfInBounds 5 true).setIfInBounds 6 true).setIfInBounds 7 true).setIfInBounds 8 true).setIfInBounds 9 true).setIfInBounds 10 true).setIfInBounds 11 true).setIfInBounds 12 true) [13] = true := by kernel_rfl
theorem sb_271_7_14 : hardB op_271_7 (((((((((((((((Array.replicate 14 false).setIfInBounds 0 true).setIfInBounds 1 true).setIfInBounds 2 true).setIfInBounds 3 true).setIfInBounds 4 true).setIfInBounds 5 true).setIfInBounds 6 true).setIfInBounds 7 true).setIfInBounds 8 true).setIfInBounds 9 true).setIfInBounds 10 true).setIfInBounds 11 true).setIfInBounds 12 true).setIfInBounds 13 true) [] = true := by kernel_rfl
theorem sb_271_8_0 : softB op_271_8 #[true, true, true, true, true, true, true, true, true, true, false] (Array.replicate 11 false) 0 = true := by kernel_rfl
theorem sb_271_8_1 : softB op_271_8 #[true, true, true, true, true, true, true, true, true, true, false] ((Array.replicate 11 false).setIfInBounds 0 true) 1 = true := by kernel_rfl
theorem sb_271_8_2 : softB op_271_8 #[true, true, true, true, true, true, true, true, true, true, false] (((Array.replicate 11 false).setIfInBounds 0 true).setIfInBounds 1 true) 2 = true := by kernel_rfl
theorem sb_271_8_3 : softB op_271_8 #[true, true, true, true, true, true, true, true, true, true, false] ((((Array.replicate 11 false).setIfInBounds 0 true).setIfInBounds 1 true).setIfInBounds 2 true) 3 = true := by kernel_rfl
theorem sb_271_8_4 : softB op_271_8 #[true, true, true, true, true, true, true, true, true, true, false] (((((Array.replicate 11 false).setIfInBounds 0 true).setIfInBounds 1 true).setIfInBounds 2 true).setIfInBounds 3 true) 4 = true := by kernel_rfl
theorem sb_271_8_5 : softB op_271_8 #[true, true, true, true, true, true, true, true, true, true, false] ((((((Array.replicate 11 false).setIfInBounds 0 true).setIfInBounds 1 true).setIfInBounds 2 true).setIfInBounds 3 true).setIfInBounds 4 true) 5 = true := by kernel_rfl
theorem sb_271_8_6 : softB op_271_8 #[true, true, true, true, true, true, true, true, true, true, false] (((((((Array.replicate 11 false).setIfInBounds 0 true).setIfInBounds 1 true).setIfInBounds 2 true).setIfInBounds 3 true).setIfInBounds 4 true).setIfInBounds 5 true) 6 = true := by kernel_rfl
theorem sb_271_8_7 : softB op_271_8 #[true, true, true, true, true, true, true, true, true, true, false] ((((((((Array.replicate 11 false).setIfInBounds 0 true).setIfInBounds 1 true).setIfInBounds 2 true).setIfInBounds 3 true).setIfInBounds 4 true).setIfInBounds 5 true).setIfInBounds 6 true) 7 = true := by kernel_rfl
theorem sb_271_8_8 : softB op_271_8 #[true, true, true, true, true, true, true, true, true, true, false] (((((((((Array.replicate 11 false).setIfInBounds 0 true).setIfInBounds 1 true).setIfInBounds 2 true).setIfInBounds 3 true).setIfInBounds 4 true).setIfInBounds 5 true).setIfInBounds 6 true).setIfInBounds 7 true) 8 = true := by kernel_rfl
theorem sb_271_8_9 : softB op_271_8 #[true, true, true, true, true, true, true, true, true, true, false] ((((((((((Array.replicate 11 false).setIfInBounds 0 true).setIfInBounds 1 true).setIfInBounds 2 true).setIfInBounds 3 true).setIfInBounds 4 true).setIfInBounds 5 true).setIfInBounds 6 true).setIfInBounds 7 true).setIfInBounds 8 true) 9 = true := by kernel_rfl
theorem sb_271_8_10 : hardB op_271_8 (((((((((((Array.replicate 11 false).setIfInBounds 0 true).setIfInBounds 1 true).setIfInBounds 2 true).setIfInBounds 3 true).setIfInBounds 4 true).setIfInBounds 5 true).setIfInBounds 6 true).setIfInBounds 7 true).setIfInBounds 8 true).setIfInBounds 9 true) [10] = true := by kernel_rfl
theorem sb_271_8_11 : hardB op_271_8 ((((((((((((Array.replicate 11 false).setIfInBounds 0 true).setIfInBounds 1 true).setIfInBounds 2 true).setIfInBounds 3 true).setIfInBounds 4 true).setIfInBounds 5 true).setIfInBounds 6 true).setIfInBounds 7 true).setIfInBounds 8 true).setIfInBounds 9 true).setIfInBounds 10 true) [] = true := by kernel_rfl
/- (*index.Index).unlink -/
def m271_w2 (n : Nat) (x : Index) (c_ : Int) (mm : Nat) : Int → Int → Option (Int × Int) := it2 (fun lp2 c1 c2 =>
ob1 (cond (decide (c2 < 49)) (cond (decide (¬ (c1 = 0))) (Option.bind (ckA c1 49) fun _ =>
some ((decide (¬ ((x.pool c1).nxt = c_))))) (some (false))) (some (false))) fun c5 =>
cond c5 (
Option.bind (ckA c1 49) fun _ =>
lp2 ((x.pool c1).nxt) (wi (c2 + 1))) (
some (c1, c2))) mm
def m271 (n : Nat) (x : Index) (d : Int) (c_ : Int) : Option (Index) :=
Option.bind (ckA d 49) fun _ =>
ob1 (cond (decide ((x.pool d).child = c_)) (
Option.bind (ckA c_ 49) fun _ =>
Option.bind (ckA d 49) fun _ =>
nm ({ x with pool := (upI x.pool d { (x.pool d) with child := (x.pool c_).nxt }) } : Index) fun z2 =>
some z2) (
Option.bind (ckA d 49) fun _ =>
ob2 (m271_w2 n x c_ n ((x.pool d).child) 0) fun c3 c4 =>
Option.bind (ckA c_ 49) fun _ =>
Option.bind (ckA c3 49) fun _ =>
nm ({ x with pool := (upI x.pool c3 { (x.pool c3) with nxt := (x.pool c_).nxt }) } : Index) fun z3 =>
some z3)) fun z1 =>
Option.bind (ckA c_ 49) fun _ =>
nm ({ z1 with pool := (upI z1.pool c_ ({ Nod.zero with nxt := z1.free })) } : Index) fun z4 =>
nm ({ z4 with free := c_ } : Index) fun z5 =>
some z5
theorem t271 {n : Nat} {C : List Chunk} {rz1 : Index} {b1 : Nat} {x : Index} {d : Int} {c_ : Int}   (hm : m271 n x d c_ = some rz1) : Trip Tryz.prog 271 #[.pointer (some ⟨b1, 0, none⟩), .int .i64 d, .int .i64 c_] ([[(b1, .cells (Index.enc x).toArray 184 (0, 0))]] ++ [C]) (fun u S' => .tuple #[] = u ∧ S' = [[(b1, .cells (Index.enc rz1).toArray 184 (0, 0))]] ++ [C]) := by
  refine fn_entry (args := [.pointer (some ⟨b1, 0, none⟩), .int .i64 d, .int .i64 c_]) Tryz.func271 rfl Tryz.ntmps271 rfl (fun w0 => ?_)
  refine c_seq ?_
  refine c_seq ?_
  refine c_region ?_
  refine o_T (y_move rfl) rfl ?_
  refine o_T (y_move rfl) rfl ?_
  refine o_T (y_nilck rfl) rfl ?_
  refine o_T (y_fa fl_184_0 rfl) rfl ?_
  obtain ⟨_, hx1, hm⟩ := bd hm
  have hx1 := ckA_some hx1
  refine o_T (y_ia ar_182 rfl rfl hx1.1 hx1.2) rfl ?_
  refine o_T (y_fa fl_181_1 rfl) rfl ?_
  refine o_ld one_3 rfl m0 (At.got (((At.refl.comp Index.a_pool).comp (encN_a Nod.len _ _ hx1.1 _ hx1.2)).comp Nod.a_child)) rfl ?_
  refine o_T (y_move rfl) rfl ?_
  refine o_T (y_eql rfl rfl) rfl ?_
  refine o_nil1 16 rfl rfl ?_
  obtain ⟨z1, hj1, hm⟩ := bd1 hm
  refine c_joinP (n := 1) (fun sh G => sh = [] ∧ G = [[(b1, .cells (Index.enc z1).toArray 184 (0, 0))]]) (s_take (s_take s_nil)) (.s .z) (fun _ _ h => h) ?_ ?_
  · have hm := hj1
    refine c_cond rfl (fun h1 => ?_) (fun h1 => ?_)
    · have hm := cd_t h1 hm
      refine c_draw #[true, true, true, true, true, true, true, true, true, true, true, true, true, false] rfl (n := 14) rfl ?_
      refine d_T 0 rfl sb_271_1_0 rfl (y_move rfl) rfl ?_
      refine d_T 1 rfl sb_271_1_1 rfl (y_move rfl) rfl ?_
      refine d_T 2 rfl sb_271_1_2 rfl (y_move rfl) rfl ?_
      refine d_T 3 rfl sb_271_1_3 rfl (y_move rfl) rfl ?_
      refine d_T 4 rfl sb_271_1_4 rfl (y_nilck rfl) rfl ?_
      refine d_T 5 rfl sb_271_1_5 rfl (y_fa fl_184_0 rfl) rfl ?_
      obtain ⟨_, hx2, hm⟩ := bd hm
      have hx2 := ckA_some hx2
      refine d_T 6 rfl sb_271_1_6 rfl (y_ia ar_182 rfl rfl hx2.1 hx2.2) rfl ?_
      refine d_T 7 rfl sb_271_1_7 rfl (y_fa fl_181_2 rfl) rfl ?_
      refine d_ld 8 rfl sb_271_1_8 one_3 rfl (fun x hx => hx) m0 (At.got (((At.refl.comp Index.a_pool).comp (encN_a Nod.len _ _ hx2.1 _ hx2.2)).comp Nod.a_nxt)) rfl ?_
      refine d_T 9 rfl sb_271_1_9 rfl (y_nilck rfl) rfl ?_
      refine d_T 10 rfl sb_271_1_10 rfl (y_fa fl_184_0 rfl) rfl ?_
      obtain ⟨_, hx3, hm⟩ := bd hm
      have hx3 := ckA_some hx3
      refine d_T 11 rfl sb_271_1_11 rfl (y_ia ar_182 rfl rfl hx3.1 hx3.2) rfl ?_
      refine d_T 12 rfl sb_271_1_12 rfl (y_fa fl_181_1 rfl) rfl ?_
      refine d_hard 13 rfl sb_271_1_13 ?_
      obtain ⟨z2, hn1, hm⟩ := nm_s hm
      refine o_stN one_3 rfl rfl rfl (((Upd.z Index.u_pool).comp (encN_u Nod.len _ _ _ hx3.1 _ hx3.2)).comp Nod.u_child) r0 (show (Index.enc z2) = _ from by subst hn1; rfl) ?_
      refine o_stop (fun h => nomatch h) ?_
      refine d_nil0 sb_271_1_14 rfl ?_
      obtain rfl := p1 hm
      exact ⟨_, _, ⟨rfl, rfl⟩, trivial, ⟨rfl, rfl⟩, _, (s_take (s_take s_nil))⟩
    · have hm := cd_f h1 hm
      refine c_seq ?_
      refine c_region ?_
      refine o_T (y_move rfl) rfl ?_
      refine o_T (y_move rfl) rfl ?_
      refine o_T (y_nilck rfl) rfl ?_
      refine o_T (y_fa fl_184_0 rfl) rfl ?_
      obtain ⟨_, hx4, hm⟩ := bd hm
      have hx4 := ckA_some hx4
      refine o_T (y_ia ar_182 rfl rfl hx4.1 hx4.2) rfl ?_
      refine o_T (y_fa fl_181_1 rfl) rfl ?_
      refine o_ld one_3 rfl m0 (At.got (((At.refl.comp Index.a_pool).comp (encN_a Nod.len _ _ hx4.1 _ hx4.2)).comp Nod.a_child)) rfl ?_
      refine o_L (y_assign rfl) rfl rfl ?_
      refine o_nil0 rfl ?_
      refine c_seq ?_
      refine c_seq ?_
      refine c_region ?_
      refine o_L (y_assign rfl) rfl rfl ?_
      refine o_nil0 rfl ?_
      obtain ⟨c3, c4, hj2, hm⟩ := bd2 hm
      refine c_joinP (n := 0) (fun sh G => sh = [(6, .int .i64 c3), (7, .int .i64 c4)] ∧ G = []) (s_take (s_take s_nil)) .z (fun _ _ h => h) ?_ ?_
      · skip
        refine c_block ?_
        refine c_loopP (n := 0) (fun mm sh G => ∃ (c1 : Int), ∃ (c2 : Int), sh = [(6, .int .i64 c1), (7, .int .i64 c2)] ∧ G = [] ∧ m271_w2 n x c_ mm c1 c2 = some (c3, c4)) n (s_take (s_take s_nil)) .z ⟨_, _, ⟨_, _, rfl, rfl, hj2⟩, ⟨rfl, rfl, trivial⟩, _, (s_take (s_take s_nil))⟩ ?_
        rintro mm sh G ⟨c1, c2, rfl, rfl, hm⟩
        obtain ⟨mm1, rfl, hm⟩ := it2_s hm
        refine c_seq ?_
        refine c_seq ?_
        obtain ⟨c5, hj3, hm⟩ := bd1 hm
        refine c_joinP (n := 0) (fun sh G => sh = [(53, .bool c5)] ∧ G = []) Sel.all' .z (fun _ _ h => h) ?_ ?_
        · have hm := hj3
          refine c_region ?_
          refine o_T (y_move rfl) rfl ?_
          refine o_T (y_lss rfl rfl) rfl ?_
          refine o_T (y_move rfl) rfl ?_
          refine o_split 39 rfl (fun h2 => ?_) (fun h2 => ?_)
          · have hm := cd_t h2 hm
            refine o_take rfl rfl rfl ?_
            refine o_T (y_move rfl) rfl ?_
            refine o_take rfl rfl rfl ?_
            refine o_T (y_neq rfl rfl) rfl ?_
            refine o_T (y_pickT rfl rfl) rfl ?_
            refine o_T (y_move rfl) rfl ?_
            refine o_split 43 rfl (fun h3 => ?_) (fun h3 => ?_)
            · have hm := cd_t h3 hm
              refine o_take rfl rfl rfl ?_
              refine o_T (y_move rfl) rfl ?_
              refine o_take rfl rfl rfl ?_
              refine o_T (y_move rfl) rfl ?_
              refine o_take rfl rfl rfl ?_
              refine o_T (y_nilck rfl) rfl ?_
              refine o_take rfl rfl rfl ?_
              refine o_T (y_fa fl_184_0 rfl) rfl ?_
              refine o_take rfl rfl rfl ?_
              obtain ⟨_, hx5, hm⟩ := bd hm
              have hx5 := ckA_some hx5
              refine o_T (y_ia ar_182 rfl rfl hx5.1 hx5.2) rfl ?_
              refine o_take rfl rfl rfl ?_
              refine o_T (y_fa fl_181_2 rfl) rfl ?_
              refine o_take rfl rfl rfl ?_
              refine o_ld one_3 rfl m0 (At.got (((At.refl.comp Index.a_pool).comp (encN_a Nod.len _ _ hx5.1 _ hx5.2)).comp Nod.a_nxt)) rfl ?_
              refine o_take rfl rfl rfl ?_
              refine o_T (y_move rfl) rfl ?_
              refine o_take rfl rfl rfl ?_
              refine o_T (y_neq rfl rfl) rfl ?_
              refine o_T (y_pickT rfl rfl) rfl ?_
              refine o_nil1 53 rfl rfl ?_
              obtain rfl := p1 hm
              exact ⟨_, _, ⟨rfl, rfl⟩, ⟨rfl, trivial⟩, ⟨rfl, rfl⟩, _, (s_take (s_take s_nil))⟩
            · have hm := cd_f h3 hm
              refine o_pass rfl rfl rfl rfl rfl ?_
              refine o_pass rfl rfl rfl rfl rfl ?_
              refine o_pass rfl rfl rfl rfl rfl ?_
              refine o_pass rfl rfl rfl rfl rfl ?_
              refine o_pass rfl rfl rfl rfl rfl ?_
              refine o_pass rfl rfl rfl rfl rfl ?_
              refine o_pass rfl rfl rfl rfl rfl ?_
              refine o_pass rfl rfl rfl rfl rfl ?_
              refine o_pass rfl rfl rfl rfl rfl ?_
              refine o_T (y_pickF rfl rfl) rfl ?_
              refine o_nil1 53 rfl rfl ?_
              obtain rfl := p1 hm
              exact ⟨_, _, ⟨rfl, rfl⟩, ⟨rfl, trivial⟩, ⟨rfl, rfl⟩, _, (s_take (s_take s_nil))⟩
          · have hm := cd_f h2 hm
            refine o_pass rfl rfl rfl rfl rfl ?_
            refine o_pass rfl rfl rfl rfl rfl ?_
            refine o_T (y_pickF rfl rfl) rfl ?_
            refine o_T (y_move rfl) rfl ?_
            refine o_pass rfl rfl rfl rfl rfl ?_
            refine o_pass rfl rfl rfl rfl rfl ?_
            refine o_pass rfl rfl rfl rfl rfl ?_
            refine o_pass rfl rfl rfl rfl rfl ?_
            refine o_pass rfl rfl rfl rfl rfl ?_
            refine o_pass rfl rfl rfl rfl rfl ?_
            refine o_pass rfl rfl rfl rfl rfl ?_
            refine o_pass rfl rfl rfl rfl rfl ?_
            refine o_pass rfl rfl rfl rfl rfl ?_
            refine o_T (y_pickF rfl rfl) rfl ?_
            refine o_nil1 53 rfl rfl ?_
            obtain rfl := p1 hm
            exact ⟨_, _, ⟨rfl, rfl⟩, ⟨rfl, trivial⟩, ⟨rfl, rfl⟩, _, (s_take (s_take s_nil))⟩
        · rintro sh G ⟨rfl, rfl⟩
          refine c_cond rfl (fun h4 => ?_) (fun h4 => ?_)
          · have hm := cd_t h4 hm
            refine c_skip ?_
            refine c_seq ?_
            refine c_block ?_
            refine c_region ?_
            refine o_T (y_move rfl) rfl ?_
            refine o_T (y_move rfl) rfl ?_
            refine o_T (y_nilck rfl) rfl ?_
            refine o_T (y_fa fl_184_0 rfl) rfl ?_
            obtain ⟨_, hx6, hm⟩ := bd hm
            have hx6 := ckA_some hx6
            refine o_T (y_ia ar_182 rfl rfl hx6.1 hx6.2) rfl ?_
            refine o_T (y_fa fl_181_2 rfl) rfl ?_
            refine o_ld one_3 rfl m0 (At.got (((At.refl.comp Index.a_pool).comp (encN_a Nod.len _ _ hx6.1 _ hx6.2)).comp Nod.a_nxt)) rfl ?_
            refine o_L (y_assign rfl) rfl rfl ?_
            refine o_nil0 rfl ?_
            refine c_region ?_
            refine o_T (y_move rfl) rfl ?_
            refine o_T (y_add rfl rfl rfl) rfl ?_
            refine o_L (y_assign rfl) rfl rfl ?_
            refine o_nil0 rfl ?_
            exact ⟨mm1, Nat.lt_succ_self _, _, _, ⟨_, _, rfl, rfl, hm⟩, ⟨rfl, rfl, trivial⟩, ⟨rfl, rfl⟩, _, (s_take (s_take s_nil))⟩
          · have hm := cd_f h4 hm
            refine c_exit ?_
            obtain ⟨rfl, rfl⟩ := pr2 hm
            exact ⟨_, _, ⟨rfl, rfl⟩, ⟨rfl, rfl, trivial⟩, ⟨rfl, rfl⟩, _, (s_take (s_take s_nil))⟩
      · rintro sh G ⟨rfl, rfl⟩
        refine c_draw #[true, true, true, true, true, true, true, true, true, true, true, true, true, false] rfl (n := 14) rfl ?_
        refine d_T 0 rfl sb_271_7_0 rfl (y_move rfl) rfl ?_
        refine d_T 1 rfl sb_271_7_1 rfl (y_move rfl) rfl ?_
        refine d_T 2 rfl sb_271_7_2 rfl (y_move rfl) rfl ?_
        refine d_T 3 rfl sb_271_7_3 rfl (y_move rfl) rfl ?_
        refine d_T 4 rfl sb_271_7_4 rfl (y_nilck rfl) rfl ?_
        refine d_T 5 rfl sb_271_7_5 rfl (y_fa fl_184_0 rfl) rfl ?_
        obtain ⟨_, hx7, hm⟩ := bd hm
        have hx7 := ckA_some hx7
        refine d_T 6 rfl sb_271_7_6 rfl (y_ia ar_182 rfl rfl hx7.1 hx7.2) rfl ?_
        refine d_T 7 rfl sb_271_7_7 rfl (y_fa fl_181_2 rfl) rfl ?_
        refine d_ld 8 rfl sb_271_7_8 one_3 rfl (fun x hx => hx) m0 (At.got (((At.refl.comp Index.a_pool).comp (encN_a Nod.len _ _ hx7.1 _ hx7.2)).comp Nod.a_nxt)) rfl ?_
        refine d_T 9 rfl sb_271_7_9 rfl (y_nilck rfl) rfl ?_
        refine d_T 10 rfl sb_271_7_10 rfl (y_fa fl_184_0 rfl) rfl ?_
        obtain ⟨_, hx8, hm⟩ := bd hm
        have hx8 := ckA_some hx8
        refine d_T 11 rfl sb_271_7_11 rfl (y_ia ar_182 rfl rfl hx8.1 hx8.2) rfl ?_
        refine d_T 12 rfl sb_271_7_12 rfl (y_fa fl_181_2 rfl) rfl ?_
        refine d_hard 13 rfl sb_271_7_13 ?_
        obtain ⟨z3, hn2, hm⟩ := nm_s hm
        refine o_stN one_3 rfl rfl rfl (((Upd.z Index.u_pool).comp (encN_u Nod.len _ _ _ hx8.1 _ hx8.2)).comp Nod.u_nxt) r0 (show (Index.enc z3) = _ from by subst hn2; rfl) ?_
        refine o_stop (fun h => nomatch h) ?_
        refine d_nil0 sb_271_7_14 rfl ?_
        obtain rfl := p1 hm
        exact ⟨_, _, ⟨rfl, rfl⟩, trivial, ⟨rfl, rfl⟩, _, (s_take (s_take s_nil))⟩
  · rintro sh G ⟨rfl, rfl⟩
    refine c_seq ?_
    refine c_draw #[true, true, true, true, true, true, true, true, true, true, false] rfl (n := 11) rfl ?_
    refine d_T 0 rfl sb_271_8_0 rfl (y_move rfl) rfl ?_
    refine d_T 1 rfl sb_271_8_1 rfl (y_move rfl) rfl ?_
    refine d_T 2 rfl sb_271_8_2 rfl (y_move rfl) rfl ?_
    refine d_T 3 rfl sb_271_8_3 rfl (y_nilck rfl) rfl ?_
    refine d_T 4 rfl sb_271_8_4 rfl (y_fa fl_184_1 rfl) rfl ?_
    refine d_ld 5 rfl sb_271_8_5 one_3 rfl (fun x hx => hx) m0 (At.got (At.refl.comp Index.a_free)) rfl ?_
    refine d_T 6 rfl sb_271_8_6 rfl (y_build st_181 rfl (fbU rfl Nod.u_nxt rfl rfl fbU0)) rfl ?_
    refine d_T 7 rfl sb_271_8_7 rfl (y_nilck rfl) rfl ?_
    refine d_T 8 rfl sb_271_8_8 rfl (y_fa fl_184_0 rfl) rfl ?_
    obtain ⟨_, hx9, hm⟩ := bd hm
    have hx9 := ckA_some hx9
    refine d_T 9 rfl sb_271_8_9 rfl (y_ia ar_182 rfl rfl hx9.1 hx9.2) rfl ?_
    refine d_hard 10 rfl sb_271_8_10 ?_
    obtain ⟨z4, hn3, hm⟩ := nm_s hm
    refine o_stNA ag_181 rfl rfl (Nod.plain _) (Nod.len _) ((Upd.z Index.u_pool).comp (encN_u Nod.len _ _ _ hx9.1 _ hx9.2)) r0 (show (Index.enc z4) = _ from by subst hn3; rfl) ?_
    refine o_stop (fun h => nomatch h) ?_
    refine d_nil0 sb_271_8_11 rfl ?_
    refine c_region ?_
    refine o_T (y_move rfl) rfl ?_
    refine o_T (y_move rfl) rfl ?_
    refine o_T (y_nilck rfl) rfl ?_
    refine o_T (y_fa fl_184_1 rfl) rfl ?_
    obtain ⟨z5, hn4, hm⟩ := nm_s hm
    refine o_stN one_3 rfl rfl rfl (Upd.z Index.u_free) r0 (show (Index.enc z5) = _ from by subst hn4; rfl) ?_
    refine o_nil0 rfl ?_
    obtain rfl := p1 hm
    refine fun aX wX heX hsX => ret0 Tryz.results271 (s_take (s_take s_nil)) ?_
    exact ⟨rfl, rfl⟩
end Go.Proofs.Qxb6500350aGreat
