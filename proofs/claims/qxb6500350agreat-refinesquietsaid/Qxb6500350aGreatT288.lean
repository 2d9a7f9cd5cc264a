/- MADE BY PROGRAM (tools350/mir.py): mirror and walk. -/
import Derived.Test.Qxb6500350aGreatF2
import Derived.Test.Qxb6500350aGreatT314
import Derived.Test.Qxb6500350aGreatT315
import Derived.Test.Qxb6500350aGreatT203
import Derived.Test.Qxb6500350aGreatT274
import Derived.Test.Qxb6500350aGreatT245
set_option linter.unusedVariables false
set_option linter.unusedSimpArgs false
set_option maxRecDepth 20000
set_option maxHeartbeats 4000000
namespace Go.Proofs.Qxb6500350aGreat
open Go.Eng

def op_288_7 : Array Go.Oper := #[{ dst := some 36, op := Go.Op.move (Go.Operand.tmp 12), type := 81, pos := "walk.go:34", after := #[], guard := none }, { dst := some 37, op := Go.Op.move (Go.Operand.tmp 1), type := 277, pos := "walk.go:34", after := #[], guard := none }, { dst := some 38, op := Go.Op.move (Go.Operand.tmp 13), type := 3, pos := "walk.go:34", after := #[], guard := none }, { dst := some 39, op := Go.Op.indexAddr 277 (Go.Operand.tmp 37) (Go.Operand.tmp 38), type := 0, pos := "walk.go:34", after := #[{ on := 1, ground := Go.Ground.data }, { on := 2, ground := Go.Ground.data }], guard := none }, { dst := some 40, op := Go.Op.fieldAddr 279 (Go.Operand.tmp 39) 2, type := 0, pos := "walk.go:34", after := #[{ on := 3, ground := Go.Ground.data }], guard := none }, { dst := some 41, op := Go.Op.load 3 (Go.Operand.tmp 40), type := 3, pos := "walk.go:34", after := #[{ on := 4, ground := Go.Ground.data }], guard := none }, { dst := some 42, op := Go.Op.binOp Go.BinOp.mul 3 (Go.Operand.tmp 41) (Go.Operand.const (Go.Value.int Go.IntKind.i64 2)) 3, type := 3, pos := "walk.go:34", after := #[{ on := 5, ground := Go.Ground.data }], guard := none }, { dst := some 43, op := Go.Op.move (Go.Operand.tmp 1), type := 277, pos := "walk.go:34", after := #[], guard := none }, { dst := some 44, op := Go.Op.move (Go.Operand.tmp 13), type := 3, pos := "walk.go:34", after := #[], guard := none }, { dst := some 45, op := Go.Op.indexAddr 277 (Go.Operand.tmp 43) (Go.Operand.tmp 44), type := 0, pos := "walk.go:34", after := #[{ on := 7, ground := Go.Ground.data }, { on := 8, ground := Go.Ground.data }], guard := none }, { dst := some 46, op := Go.Op.fieldAddr 279 (Go.Operand.tmp 45) 1, type := 0, pos := "walk.go:34", after := #[{ on := 9, ground := Go.Ground.data }], guard := none }, { dst := some 47, op := Go.Op.load 3 (Go.Operand.tmp 46), type := 3, pos := "walk.go:34", after := #[{ on := 10, ground := Go.Ground.data }], guard := none }, { dst := some 48, op := Go.Op.move (Go.Operand.tmp 14), type := 9, pos := "walk.go:34", after := #[], guard := none }, { dst := some 49, op := Go.Op.move (Go.Operand.tmp 4), type := 3, pos := "walk.go:34", after := #[], guard := none }, { dst := some 50, op := Go.Op.slice 9 (Go.Operand.tmp 48) (some (Go.Operand.tmp 49)) none none, type := 9, pos := "walk.go:34", after := #[{ on := 12, ground := Go.Ground.data }, { on := 13, ground := Go.Ground.data }], guard := none }, { dst := some 51, op := Go.Op.call { callee := Go.Callee.value (Go.Operand.func 315), args := #[Go.Operand.tmp 36, Go.Operand.tmp 42, Go.Operand.tmp 47, Go.Operand.tmp 50], argTypes := #[81, 3, 3, 9] }, type := 81, pos := "walk.go:34", after := #[{ on := 0, ground := Go.Ground.data }, { on := 6, ground := Go.Ground.data }, { on := 11, ground := Go.Ground.data }, { on := 14, ground := Go.Ground.data }], guard := none }, { dst := some 12, op := Go.Op.assign (Go.Operand.tmp 51), type := 81, pos := "walk.go:34", after := #[{ on := 15, ground := Go.Ground.data }, { on := 15, ground := Go.Ground.chain }, { on := 0, ground := Go.Ground.phase }, { on := 1, ground := Go.Ground.phase }, { on := 2, ground := Go.Ground.phase }, { on := 3, ground := Go.Ground.phase }, { on := 4, ground := Go.Ground.phase }, { on := 5, ground := Go.Ground.phase }, { on := 6, ground := Go.Ground.phase }, { on := 7, ground := Go.Ground.phase }, { on := 8, ground := Go.Ground.phase }, { on := 9, ground := Go.Ground.phase }, { on := 10, ground := Go.Ground.phase }, { on := 11, ground := Go.Ground.phase }, { on := 12, ground := Go.Ground.phase }, { on := 13, ground := Go.Ground.phase }, { on := 14, ground := Go.Ground.phase }, { on := 15, ground := Go.Ground.phase }], guard := none }]
def op_288_10 : Array Go.Oper := #[{ dst := some 56, op := Go.Op.move (Go.Operand.tmp 16), type := 3, pos := "walk.go:38", after := #[], guard := none }, { dst := some 57, op := Go.Op.move (Go.Operand.tmp 3), type := 3, pos := "walk.go:38", after := #[], guard := none }, { dst := some 58, op := Go.Op.binOp Go.BinOp.lss 3 (Go.Operand.tmp 56) (Go.Operand.tmp 57) 3, type := 4, pos := "walk.go:38", after := #[{ on := 0, ground := Go.Ground.data }, { on := 1, ground := Go.Ground.data }], guard := none }, { dst := some 59, op := Go.Op.move (Go.Operand.tmp 58), type := 4, pos := "walk.go:38", after := #[{ on := 2, ground := Go.Ground.data }], guard := none }, { dst := some 60, op := Go.Op.move (Go.Operand.tmp 1), type := 277, pos := "walk.go:38", after := #[{ on := 3, ground := Go.Ground.guard }], guard := some (3, true) }, { dst := some 61, op := Go.Op.move (Go.Operand.tmp 16), type := 3, pos := "walk.go:38", after := #[{ on := 3, ground := Go.Ground.guard }], guard := some (3, true) }, { dst := some 62, op := Go.Op.indexAddr 277 (Go.Operand.tmp 60) (Go.Operand.tmp 61), type := 0, pos := "walk.go:38", after := #[{ on := 4, ground := Go.Ground.data }, { on := 5, ground := Go.Ground.data }, { on := 3, ground := Go.Ground.guard }], guard := some (3, true) }, { dst := some 63, op := Go.Op.fieldAddr 279 (Go.Operand.tmp 62) 0, type := 0, pos := "walk.go:38", after := #[{ on := 6, ground := Go.Ground.data }, { on := 3, ground := Go.Ground.guard }], guard := some (3, true) }, { dst := some 64, op := Go.Op.load 9 (Go.Operand.tmp 63), type := 9, pos := "walk.go:38", after := #[{ on := 7, ground := Go.Ground.data }, { on := 3, ground := Go.Ground.guard }], guard := some (3, true) }, { dst := some 65, op := Go.Op.move (Go.Operand.tmp 14), type := 9, pos := "walk.go:38", after := #[{ on := 3, ground := Go.Ground.guard }], guard := some (3, true) }, { dst := some 66, op := Go.Op.move (Go.Operand.tmp 15), type := 3, pos := "walk.go:38", after := #[{ on := 3, ground := Go.Ground.guard }], guard := some (3, true) }, { dst := some 67, op := Go.Op.binOp Go.BinOp.add 3 (Go.Operand.tmp 66) (Go.Operand.const (Go.Value.int Go.IntKind.i64 1)) 3, type := 3, pos := "walk.go:38", after := #[{ on := 10, ground := Go.Ground.data }, { on := 3, ground := Go.Ground.guard }], guard := some (3, true) }, { dst := some 68, op := Go.Op.slice 9 (Go.Operand.tmp 65) none (some (Go.Operand.tmp 67)) none, type := 9, pos := "walk.go:38", after := #[{ on := 9, ground := Go.Ground.data }, { on := 11, ground := Go.Ground.data }, { on := 3, ground := Go.Ground.guard }], guard := some (3, true) }, { dst := some 69, op := Go.Op.call { callee := Go.Callee.value (Go.Operand.func 203), args := #[Go.Operand.tmp 64, Go.Operand.tmp 68], argTypes := #[9, 9] }, type := 4, pos := "walk.go:38", after := #[{ on := 8, ground := Go.Ground.data }, { on := 12, ground := Go.Ground.data }, { on := 3, ground := Go.Ground.chain }, { on := 3, ground := Go.Ground.guard }], guard := some (3, true) }, { dst := some 70, op := Go.Op.pick (Go.Operand.tmp 59) (Go.Operand.tmp 69) (Go.Operand.const (Go.Value.bool false)), type := 4, pos := "walk.go:38", after := #[{ on := 3, ground := Go.Ground.data }, { on := 13, ground := Go.Ground.data }], guard := none }]
theorem sb_288_7_0 : softB op_288_7 #[true, true, true, true, true, true, true, true, true, true, true, true, true, true, true, false, true] (Array.replicate 17 false) 0 = true := by kernel_rfl
theorem sb_288_7_1 : softB op_288_7 #[true, true, true, true, true, true, true, true, true, true, true, true, true, true, true, false, true] ((Array.replicate 17 false).setIfInBounds 0 true) 1 = true := by kernel_rfl
theorem sb_288_7_2 : softB op_288_7 #[true, true, true, true, true, true, true, true, true, true, true, true, true, true, true, false, true] (((Array.replicate 17 false).setIfInBounds 0 true).setIfInBounds 1 true) 2 = true := by kernel_rfl
theorem sb_288_7_3 : softB op_288_7 #[true, true, true, true, true, true, true, true, true, true, true, true, true, true, true, false, true] ((((Array.replicate 17 false).setIfInBounds 0 true).setIfInBounds 1 true).setIfInBounds 2 true) 3 = true := by kernel_rfl
theorem sb_288_7_4 : softB op_288_7 #[true, true, true, true, true, true, true, true, true, true, true, true, true, true, true, false, true] (((((Array.replicate 17 false).setIfInBounds 0 true).setIfInBounds 1 true).setIfInBounds 2 true).setIfInBounds 3 true) 4 = true := by kernel_rfl
theorem sb_288_7_5 : softB op_288_7 #[true, true, true, true, true, true, true, true, true, true, true, true, true, true, true, false, true] ((((((Array.replicate 17 false).setIfInBounds 0 true).setIfInBounds 1 true).setIfInBounds 2 true).setIfInBounds 3 true).setIfInBounds 4 true) 5 = true := by kernel_rfl
theorem sb_288_7_6 : softB op_288_7 #[true, true, true, true, true, true, true, true, true, true, true, true, true, true, true, false, true] (((((((Array.replicate 17 false).setIfInBounds 0 true).setIfInBounds 1 true).setIfInBounds 2 true).setIfInBounds 3 true).setIfInBounds 4 true).setIfInBounds 5 true) 6 = true := by kernel_rfl
theorem sb_288_7_7 : softB op_288_7 #[true, true, true, true, true, true, true, true, true, true, true, true, true, true, true, false, true] ((((((((Array.replicate 17 false).setIfInBounds 0 true).setIfInBounds 1 true).setIfInBounds 2 true).setIfInBounds 3 true).setIfInBounds 4 true).setIfInBounds 5 true).setIfInBounds 6 true) 7 = true := by kernel_rfl
theorem sb_288_7_8 : softB op_288_7 #[true, true, true, true, true, true, true, true, true, true, true, true, true, true, true, false, true] (((((((((Array.replicate 17 false).setIfInBounds 0 true).setIfInBounds 1 true).setIfInBounds 2 true).setIfInBounds 3 true).setIfInBounds 4 true).setIfInBounds 5 true).setIfInBounds 6 true).setIfInBounds 7 true) 8 = true := by kernel_rfl
theorem sb_288_7_9 : softB op_288_7 #[true, true, true, true, true, true, true, true, true, true, true, true, true, true, true, false, true] ((((((((((Array.replicate 17 false).setIfInBounds 0 true).setIfInBounds 1 true).setIfInBounds 2 true).setIfInBounds 3 true).setIfInBounds 4 true).setIfInBounds 5 true).setIfInBounds 6 true).setIfInBounds 7 true).setIfInBounds 8 true) 9 = true := by kernel_rfl
theorem sb_288_7_10 : softB op_288_7 #[true, true, true, true, true, true, true, true, true, true, true, true, true, true, true, false, true] (((((((((((Array.replicate 17 false).setIfInBounds 0 true).setIfInBounds 1 true).setIfInBounds 2 true).setIfInBounds 3 true).setIfInBounds 4 true).setIfInBounds 5 true).setIfInBounds 6 true).setIfInBounds 7 true).setIfInBounds 8 true).setIfInBounds 9 true) 10 = true := by kernel_rfl
theorem sb_288_7_11 : softB op_288_7 #[true, true, true, true, true, true, true, true, true, true, true, true, true, true, true, false, true] ((((((((((((Array.replicate 17 false).setIfInBounds 0 true).setIfInBounds 1 true).setIfInBounds 2 true).setIfInBounds 3 true).setIfInBounds 4 true).setIfInBounds 5 true).setIfInBounds 6 true).setIfInBounds 7 true).setIfInBounds 8 true).setIfInBounds 9 true).setIfInBounds 10 true) 11 = true := by kernel_rfl
theorem sb_288_7_12 : softB op_288_7 #[true, true, true, true, true, true, true, true, true, true, true, true, true, true, true, false, true] (((((((((((((Array.replicate 17 false).setIfInBounds 0 true).setIfInBounds 1 true).setIfInBounds 2 true).setIfInBounds 3 true).setIfInBounds 4 true).setIfInBounds 5 true).setIfInBounds 6 true).setIfInBounds 7 true).setIfInBounds 8 true).setIfInBounds 9 true).setIfInBounds 10 true).setIfInBounds 11 true) 12 = true := by kernel_rfl
theorem sb_288_7_13 : softB op_288_7 #[true, true, true, true, true, true, true, true, true, true, true, true, true, true, true, false, true] ((((((((((((((Array.replicate 17 false).setIfInBounds 0 true).setIfInBounds 1 true).setIfInBounds 2 true).setIfInBounds 3 true).setIfInBounds 4 true).setIfInBounds 5 true).setIfInBounds 6 true).setIfInBounds 7 true).setIfInBounds 8 true).setIfInBounds 9 true).setIfInBounds 10 true).setIfInBounds 11 true).setIfInBounds 12 true) 13 = true := by kernel_rfl
theorem sb_288_7_14 : softB op_288_7 #[true, true, true, true, true, true, true, true, true, true, true, true, true, true, true, false, true] (((((((((((((((Array.replicate 17 false).setIfInBounds 0 true).setIfInBounds 1 true).setIfInBounds 2 true).setIfInBounds 3 true).setIfInBounds 4 true).setIfInBounds 5 true).setIfInBounds 6 true).setIfInBounds 7 true).setIfInBounds 8 true).setIfInBounds 9 true).setIfInBounds 10 true).setIfInBounds 11 true).setIfInBounds 12 true).setIfInBounds 13 true) 14 = true := by kernel_rfl
theorem sb_288_7_15 : hardB op_288_7 ((((((((((((((((Array.replicate 17 false).setIfInBounds 0 true).setIfInBounds 1 true).setIfInBounds 2 true).setIfInBounds 3 true).setIfInBounds 4 true).setIfInBounds 5 true).setIfInBounds 6 true).setIfInBounds 7 true).setIfInBounds 8 true).setIfInBounds 9 true).setIfInBounds 10 true).setIfInBounds 11 true).setIfInBounds 12 true).setIfInBounds 13 true).setIfInBounds 14 true) [15] = true := by kernel_rfl
theorem sb_288_7_16 : softB op_288_7 #[true, true, true, true, true, true, true, true, true, true, true, true, true, true, true, false, true] (((((((((((((((((Array.replicate 17 false).setIfInBounds 0 true).setIfInBounds 1 true).setIfInBounds 2 true).setIfInBounds 3 true).setIfInBounds 4 true).setIfInBounds 5 true).setIfInBounds 6 true).setIfInBounds 7 true).setIfInBounds 8 true).setIfInBounds 9 true).setIfInBounds 10 true).setIfInBounds 11 true).setIfInBounds 12 true).setIfInBounds 13 true).setIfInBounds 14 true).setIfInBounds 15 true) 16 = true := by kernel_rfl
theorem sb_288_7_17 : hardB op_288_7 ((((((((((((((((((Array.replicate 17 false).setIfInBounds 0 true).setIfInBounds 1 true).setIfInBounds 2 true).setIfInBounds 3 true).setIfInBounds 4 true).setIfInBounds 5 true).setIfInBounds 6 true).setIfInBounds 7 true).setIfInBounds 8 true).setIfInBounds 9 true).setIfInBounds 10 true).setIfInBounds 11 true).setIfInBounds 12 true).setIfInBounds 13 true).setIfInBounds 14 true).setIfInBounds 15 true).setIfInBounds 16 true) [] = true := by kernel_rfl
theorem sb_288_10_0 : softB op_288_10 #[true, true, true, true, true, true, true, true, true, true, true, true, true, false, true] (Array.replicate 15 false) 0 = true := by kernel_rfl
theorem sb_288_10_1 : softB op_288_10 #[true, true, true, true, true, true, true, true, true, true, true, true, true, false, true] ((Array.replicate 15 false).setIfInBounds 0 true) 1 = true := by kernel_rfl
theorem sb_288_10_2 : softB op_288_10 #[true, true, true, true, true, true, true, true, true, true, true, true, true, false, true] (((Array.replicate 15 false).setIfInBounds 0 true).setIfInBounds 1 true) 2 = true := by kernel_rfl
theorem sb_288_10_3 : softB op_288_10 #[true, true, true, true, true, true, true, true, true, true, true, true, true, false, true] ((((Array.replicate 15 false).setIfInBounds 0 true).setIfInBounds 1 true).setIfInBounds 2 true) 3 = true := by kernel_rfl
theorem sb_288_10_4 : softB op_288_10 #[true, true, true, true, true, true, true, true, true, true, true, true, true, false, true] (((((Array.replicate 15 false).setIfInBounds 0 true).setIfInBounds 1 true).setIfInBounds 2 true).setIfInBounds 3 true) 4 = true := by kernel_rfl
theorem sb_288_10_5 : softB op_288_10 #[true, true, true, true, true, true, true, true, true, true, true, true, true, false, true] ((((((Array.replicate 15 false).setIfInBounds 0 true).setIfInBounds 1 true).setIfInBounds 2 true).setIfInBounds 3 true).setIfInBounds 4 true) 5 = true := by kernel_rfl
theorem sb_288_10_6 : softB op_288_10 #[true, true, true, true, true, true, true, true, true, true, true, true, true, false, true] (((((((Array.replicate 15 false).setIfInBounds 0 true).setIfInBounds 1 true).setIfInBounds 2 true).setIfInBounds 3 true).setIfInBounds 4 true).setIfInBounds 5 true) 6 = true := by kernel_rfl
theorem sb_288_10_7 : softB op_288_10 #[true, true, true, true, true, true, true, true, true, true, true, true, true, false, true] ((((((((Array.replicate 15 false).setIfInBounds 0 true).setIfInBounds 1 true).setIfInBounds 2 true).setIfInBounds 3 true).setIfInBounds 4 true).setIfInBounds 5 true).setIfInBounds 6 true) 7 = true := by kernel_rfl
theorem sb_288_10_8 : softB op_288_10 #[true, true, true, true, true, true, true, true, true, true, true, true, true, false, true] (((((((((Array.replicate 15 false).setIfInBounds 0 true).setIfInBounds 1 true).setIfInBounds 2 true).setIfInBounds 3 true).setIfInBounds 4 true).setIfInBounds 5 true).setIfInBounds 6 true).setIfInBounds 7 true) 8 = true := by kernel_rfl
theorem sb_288_10_9 : softB op_288_10 #[true, true, true, true, true, true, true, true, true, true, true, true, true, false, true] ((((((((((Array.replicate 15 false).setIfInBounds 0 true).setIfInBounds 1 true).setIfInBounds 2 true).setIfInBounds 3 true).setIfInBounds 4 true).setIfInBounds 5 true).setIfInBounds 6 true).setIfInBounds 7 true).setIfInBounds 8 true) 9 = true := by kernel_rfl
theorem sb_288_10_10 : softB op_288_10 #[true, true, true, true, true, true, true, true, true, true, true, true, true, false, true] (((((((((((Array.replicate 15 false).setIfInBounds 0 true).setIfInBounds 1 true).setIfInBounds 2 true).setIfInBounds 3 true).setIfInBounds 4 true).setIfInBounds 5 true).setIfInBounds 6 true).setIfInBounds 7 true).setIfInBounds 8 true).setIfInBounds 9 true) 10 = true := by kernel_rfl
theorem sb_288_10_11 : softB op_288_10 #[true, true, true, true, true, true, true, true, true, true, true, true, true, false, true] ((((((((((((Array.replicate 15 false).setIfInBounds 0 true).setIfInBounds 1 true).setIfInBounds 2 true).setIfInBounds 3 true).setIfInBounds 4 true).setIfInBounds 5 true).setIfInBounds 6 true).setIfInBounds 7 true).setIfInBounds 8 true).setIfInBounds 9 true).setIfInBounds 10 true) 11 = true := by kernel_rfl
theorem sb_288_10_12 : softB op_288_10 #[true, true, true, true, true, true, true, true, true, true, true, true, true, false, true] (((((((((((((Array.replicate 15 false).setIfInBounds 0 true).setIfInBounds 1 true).setIfInBounds 2 true).setIfInBounds 3 true).setIfInBounds 4 true).setIfInBounds 5 true).setIfInBounds 6 true).setIfInBounds 7 true).setIfInBounds 8 true).setIfInBounds 9 true).setIfInBounds 10 true).setIfInBounds 11 true) 12 = true := by kernel_rfl
theorem sb_288_10_13 : hardB op_288_10 ((((((((((((((Array.replicate 15 false).setIfInBounds 0 true).setIfInBounds 1 true).setIfInBounds 2 true).setIfInBounds 3 true).setIfInBounds 4 true).setIfInBounds 5 true).setIfInBounds 6 true).setIfInBounds 7 true).setIfInBounds 8 true).setIfInBounds 9 true).setIfInBounds 10 true).setIfInBounds 11 true).setIfInBounds 12 true) [13] = true := by kernel_rfl
theorem sb_288_10_14 : softB op_288_10 #[true, true, true, true, true, true, true, true, true, true, true, true, true, false, true] (((((((((((((((Array.replicate 15 false).setIfInBounds 0 true).setIfInBounds 1 true).setIfInBounds 2 true).setIfInBounds 3 true).setIfInBounds 4 true).setIfInBounds 5 true).setIfInBounds 6 true).setIfInBounds 7 true).setIfInBounds 8 true).setIfInBounds 9 true).setIfInBounds 10 true).setIfInBounds 11 true).setIfInBounds 12 true).setIfInBounds 13 true) 14 = true := by kernel_rfl
theorem sb_288_10_15 : hardB op_288_10 ((((((((((((((((Array.replicate 15 false).setIfInBounds 0 true).setIfInBounds 1 true).setIfInBounds 2 true).setIfInBounds 3 true).setIfInBounds 4 true).setIfInBounds 5 true).setIfInBounds 6 true).setIfInBounds 7 true).setIfInBounds 8 true).setIfInBounds 9 true).setIfInBounds 10 true).setIfInBounds 11 true).setIfInBounds 12 true).setIfInBounds 13 true).setIfInBounds 14 true) [] = true := by kernel_rfl
theorem sb_288_10_16 : softB op_288_10 #[true, true, true, true, true, true, true, true, true, true, true, true, true, false, true] ((((((((((((((Array.replicate 15 false).setIfInBounds 0 true).setIfInBounds 1 true).setIfInBounds 2 true).setIfInBounds 3 true).setIfInBounds 4 true).setIfInBounds 5 true).setIfInBounds 6 true).setIfInBounds 7 true).setIfInBounds 8 true).setIfInBounds 9 true).setIfInBounds 10 true).setIfInBounds 11 true).setIfInBounds 12 true) 13 = true := by kernel_rfl
/- (*tree.Trees).build -/
def m288_w2 (n : Nat) (list : (List Entry)) (hi : Int) (x1 : Entry) (c3 : Int) (mm : Nat) : Int → Option (Int) := it1 (fun lp2 c4 =>
ob1 (cond (decide (c4 < hi)) (Option.bind (ixL list c4) fun x4 =>
Option.bind (sSl x1.path 0 (wi (c3 + 1))) fun s2 =>
ob1 (m203 n x4.path s2) fun c7 =>
some (c7)) (some (false))) fun c6 =>
cond c6 (
lp2 (wi (c4 + 1))) (
some c4)) mm
def m288_w1 (n : Nat) (list : (List Entry)) (hi : Int) (skip : Int) (go : Trees → Store → Dev → ((List Entry)) → Int → Int → Int → Option (Int × Int × Trees × Store × Dev)) (mm : Nat) : (List UInt8) → Int → Trees → Store → Dev → Option (Flow (Int × Int × Trees × Store × Dev) ((List UInt8) × Int × Trees × Store × Dev)) := it5 (fun lp1 l2 c1 z1 z2 z3 =>
cond (decide (c1 < hi)) (
Option.bind (ixL list c1) fun x1 =>
ob1 (m314 n x1.path skip) fun c3 =>
cond (decide (c3 < 0)) (
Option.bind (ixL list c1) fun x2 =>
Option.bind (ixL list c1) fun x3 =>
Option.bind (sSl x1.path skip (x1.path.length : Int)) fun s1 =>
ob1 (m315 n l2 (wi (x2.mode * 2)) x3.id s1) fun l4 =>
lp1 l4 (wi (c1 + 1)) z1 z2 z3) (
ob1 (m288_w2 n list hi x1 c3 n (wi (c1 + 1))) fun c5 =>
ob5 (go z1 z2 z3 list c1 c5 (wi (c3 + 1))) fun c8 c9 z11 z12 z13 =>
cond (decide (¬ (c9 = 0))) (
Option.bind (some (0, c9, z11, z12, z13)) fun q1 => some (.ret q1)) (
Option.bind (sSl x1.path skip c3) fun s3 =>
ob1 (m315 n l2 1 c8 s3) fun l5 =>
lp1 l5 c5 z11 z12 z13))) (
some (.nx (l2, c1, z1, z2, z3)))) mm
def m288 : Nat → Trees → Store → Dev → ((List Entry)) → Int → Int → Int → Option (Int × Int × Trees × Store × Dev) := rc7 fun n go t s d list lo hi skip =>
Option.bind (mkL 0 180 (0 : UInt8)) fun l1 =>
flow (m288_w1 n list hi skip go n l1 lo t s d) some (un5 fun l3 c2 z4 z5 z6 =>
ob4 (m274 n z5 z6 2 l3) fun c10 c11 z14 z15 =>
cond (decide (¬ (c11 = 0))) (
some (0, c11, z4, z14, z15)) (
Option.bind (ckA c10 49) fun _ =>
cond (decide ((z4.kind c10) = 0)) (
Option.bind (ckA c10 49) fun _ =>
nm ({ z4 with kind := (upI z4.kind c10 2) } : Trees) fun z16 =>
ob1 (m245 n z16 l3 1) fun z17 =>
some (c10, 0, z17, z14, z15)) (
some (c10, 0, z4, z14, z15))))
theorem t288 {n : Nat} {C : List Chunk} {rc1 : Int} {rc2 : Int} {rz1 : Trees} {rz2 : Store} {rz3 : Dev} {b1 : Nat} {t : Trees} {b2 : Nat} {s : Store} {b3 : Nat} {d : Dev} {v1 : Value} {g1 : List Chunk} {v2 : Value} {g2 : List Chunk} {v3 : Value} {g3 : List Chunk} {v4 : Value} {g4 : List Chunk} {v5 : Value} {list : (List Entry)} {lo : Int} {hi : Int} {skip : Int} (ho1 : Own rByte v1 d.blk g1) (ho2 : Own rByte v2 d.base g2) (ho3 : Own rInt v3 d.at_ g3) (ho4 : Own rByte v4 d.data g4) (hr1 : Rd rEntry C v5 list)  (hm : m288 n t s d list lo hi skip = some (rc1, rc2, rz1, rz2, rz3)) : Trip Tryz.prog 288 #[.pointer (some ⟨b1, 0, none⟩), v5, .int .i64 lo, .int .i64 hi, .int .i64 skip] ([[(b1, .cells (Trees.enc (.pointer (some ⟨b2, 0, none⟩)) t).toArray 169 (0, 0))], [(b2, .cells (Store.enc (.pointer (some ⟨b3, 0, none⟩)) s).toArray 126 (0, 0))], [(b3, .cells (Dev.enc (v1) (v2) (v3) (v4) d).toArray 85 (0, 0))], g1, g2, g3, g4] ++ [C]) (fun u S' => ∃ (ev1 : Value), ∃ (eg1 : List Chunk), ∃ (ev2 : Value), ∃ (eg2 : List Chunk), ∃ (ev3 : Value), ∃ (eg3 : List Chunk), ∃ (ev4 : Value), ∃ (eg4 : List Chunk), .tuple #[.int .i64 rc1, .int .i64 rc2] = u ∧ S' = [[(b1, .cells (Trees.enc (.pointer (some ⟨b2, 0, none⟩)) rz1).toArray 169 (0, 0))], [(b2, .cells (Store.enc (.pointer (some ⟨b3, 0, none⟩)) rz2).toArray 126 (0, 0))], [(b3, .cells (Dev.enc (ev1) (ev2) (ev3) (ev4) rz3).toArray 85 (0, 0))], eg1, eg2, eg3, eg4] ++ [C] ∧ Own rByte ev1 rz3.blk eg1 ∧ Own rByte ev2 rz3.base eg2 ∧ Own rInt ev3 rz3.at_ eg3 ∧ Own rByte ev4 rz3.data eg4) := by
  induction n generalizing C b1 t b2 s b3 d v1 g1 v2 g2 v3 g3 v4 g4 v5 list lo hi skip rc1 rc2 rz1 rz2 rz3 with
  | zero => cases hm
  | succ n ih =>
    replace hm := rc7_s hm
    refine fn_entry (args := [.pointer (some ⟨b1, 0, none⟩), v5, .int .i64 lo, .int .i64 hi, .int .i64 skip]) Tryz.func288 rfl Tryz.ntmps288 rfl (fun w0 => ?_)
    refine c_seq ?_
    refine c_region ?_
    refine o_L (y_assign rfl) rfl rfl ?_
    refine o_L (y_assign rfl) rfl rfl ?_
    refine o_nil0 rfl ?_
    refine c_seq ?_
    refine c_region ?_
    obtain ⟨l1, hx1, hm⟩ := bd hm
    refine o_mkR (R := rByte) (a := 0) sz_81 rfl rfl rfl rfl rfl hx1 rfl (fun v6 g5 ho5 => ?_)
    refine o_L (y_assign rfl) rfl rfl ?_
    refine o_nil0 rfl ?_
    refine c_seq ?_
    refine c_region ?_
    refine o_T (y_move rfl) rfl ?_
    refine o_L (y_assign rfl) rfl rfl ?_
    refine o_nil0 rfl ?_
    refine c_seq ?_
    obtain ⟨f1, F1, hF1, hj1, hF2⟩ := fl2 hm
    refine c_joinP (n := 8) (fun sh G => ∃ (l3 : List UInt8), ∃ (c2 : Int), ∃ (z4 : Trees), ∃ (z5 : Store), ∃ (z6 : Dev), ∃ (v12 : Value), ∃ (g11 : List Chunk), ∃ (v13 : Value), ∃ (g12 : List Chunk), ∃ (v14 : Value), ∃ (g13 : List Chunk), ∃ (v15 : Value), ∃ (g14 : List Chunk), ∃ (v16 : Value), ∃ (g15 : List Chunk), sh = [(12, v12), (13, .int .i64 c2)] ∧ G = [g11, [(b1, .cells (Trees.enc (.pointer (some ⟨b2, 0, none⟩)) z4).toArray 169 (0, 0))], [(b2, .cells (Store.enc (.pointer (some ⟨b3, 0, none⟩)) z5).toArray 126 (0, 0))], [(b3, .cells (Dev.enc (v13) (v14) (v15) (v16) z6).toArray 85 (0, 0))], g12, g13, g14, g15] ∧ F1 (l3, c2, z4, z5, z6) = some (rc1, rc2, rz1, rz2, rz3) ∧ Own rByte v12 l3 g11 ∧ Own rByte v13 z6.blk g12 ∧ Own rByte v14 z6.base g13 ∧ Own rInt v15 z6.at_ g14 ∧ Own rByte v16 z6.data g15) (s_take (s_take (s_take (s_take (s_take (s_take (s_take (s_take (s_take s_nil))))))))) (.s (.s (.s (.s (.s (.s (.s (.s .z)))))))) (fun _ _ h => h) ?_ ?_
    · skip
      refine c_block ?_
      refine c_loopP (n := 8) (fun mm sh G => ∃ (l2 : List UInt8), ∃ (c1 : Int), ∃ (z1 : Trees), ∃ (z2 : Store), ∃ (z3 : Dev), ∃ (v7 : Value), ∃ (g6 : List Chunk), ∃ (v8 : Value), ∃ (g7 : List Chunk), ∃ (v9 : Value), ∃ (g8 : List Chunk), ∃ (v10 : Value), ∃ (g9 : List Chunk), ∃ (v11 : Value), ∃ (g10 : List Chunk), sh = [(12, v7), (13, .int .i64 c1)] ∧ G = [g6, [(b1, .cells (Trees.enc (.pointer (some ⟨b2, 0, none⟩)) z1).toArray 169 (0, 0))], [(b2, .cells (Store.enc (.pointer (some ⟨b3, 0, none⟩)) z2).toArray 126 (0, 0))], [(b3, .cells (Dev.enc (v8) (v9) (v10) (v11) z3).toArray 85 (0, 0))], g7, g8, g9, g10] ∧ m288_w1 n list hi skip (m288 n) mm l2 c1 z1 z2 z3 = some f1 ∧ Own rByte v7 l2 g6 ∧ Own rByte v8 z3.blk g7 ∧ Own rByte v9 z3.base g8 ∧ Own rInt v10 z3.at_ g9 ∧ Own rByte v11 z3.data g10) n (s_take (s_take (s_take (s_take (s_take (s_take (s_take (s_take (s_take s_nil))))))))) (.s (.s (.s (.s (.s (.s (.s (.s .z)))))))) ⟨_, _, ⟨_, _, _, _, _, v6, _, v1, _, v2, _, v3, _, v4, _, rfl, rfl, hj1, ho5, ho1, ho2, ho3, ho4⟩, ⟨rfl, rfl, trivial⟩, _, (s_take (s_take (s_take (s_take (s_take (s_take (s_take (s_take (s_take s_nil)))))))))⟩ ?_
      rintro mm sh G ⟨l2, c1, z1, z2, z3, v7, g6, v8, g7, v9, g8, v10, g9, v11, g10, rfl, rfl, hm, ho6, ho7, ho8, ho9, ho10⟩
      obtain ⟨mm1, rfl, hm⟩ := it5_s hm
      refine c_seq ?_
      refine c_seq ?_
      refine c_region ?_
      refine o_T (y_move rfl) rfl ?_
      refine o_T (y_move rfl) rfl ?_
      refine o_T (y_lss rfl rfl) rfl ?_
      refine o_nil1 25 rfl rfl ?_
      refine c_cond rfl (fun h1 => ?_) (fun h1 => ?_)
      · have hm := cd_t h1 hm
        refine c_skip ?_
        refine c_block ?_
        refine c_seq ?_
        refine c_region ?_
        refine o_T (y_move rfl) rfl ?_
        refine o_T (y_move rfl) rfl ?_
        obtain ⟨x1, hx2, hm⟩ := bd hm
        obtain ⟨b4, w1, cs1, y1, z7, vs1, hc1, ha1, hr2, hy1⟩ := hr1.ix hx2
        obtain rfl : vs1 = Entry.enc x1 := hr2
        refine o_T (hy1 sl_277 rfl rfl rfl) rfl ?_
        refine o_T (y_fa fl_279_0 rfl) rfl ?_
        refine o_ld one_9 rfl (ms (ms (ms (ms (ms (ms (ms (ms (mg hc1))))))))) (At.getA (ha1.comp Entry.a_path)) rfl ?_
        refine o_L (y_assign rfl) rfl rfl ?_
        refine o_nil0 rfl ?_
        refine c_seq ?_
        refine c_region ?_
        refine o_T (y_move rfl) rfl ?_
        refine o_T (y_move rfl) rfl ?_
        obtain ⟨c3, hx3, hm⟩ := bd1 hm
        refine o_callC en_314 rfl s_nil (t314 hx3) rfl (fun u1 S1 hR1 => ?_)
        obtain ⟨rfl, rfl⟩ := hR1
        refine o_rest ?_
        refine o_L (y_assign rfl) rfl rfl ?_
        refine o_nil0 rfl ?_
        refine c_seq ?_
        refine c_region ?_
        refine o_T (y_move rfl) rfl ?_
        refine o_T (y_lss rfl rfl) rfl ?_
        refine o_nil1 35 rfl rfl ?_
        refine c_cond rfl (fun h2 => ?_) (fun h2 => ?_)
        · have hm := cd_t h2 hm
          refine c_seq ?_
          refine c_draw #[true, true, true, true, true, true, true, true, true, true, true, true, true, true, true, false, true] rfl (n := 17) rfl ?_
          refine d_T 0 rfl sb_288_7_0 rfl (y_move rfl) rfl ?_
          refine d_T 1 rfl sb_288_7_1 rfl (y_move rfl) rfl ?_
          refine d_T 2 rfl sb_288_7_2 rfl (y_move rfl) rfl ?_
          obtain ⟨x2, hx4, hm⟩ := bd hm
          obtain ⟨b5, w2, cs2, y2, z8, vs2, hc2, ha2, hr3, hy2⟩ := hr1.ix hx4
          obtain rfl : vs2 = Entry.enc x2 := hr3
          refine d_T 3 rfl sb_288_7_3 rfl (hy2 sl_277 rfl rfl rfl) rfl ?_
          refine d_T 4 rfl sb_288_7_4 rfl (y_fa fl_279_2 rfl) rfl ?_
          refine d_ld 5 rfl sb_288_7_5 one_3 rfl (fun x hx => hx) (ms (ms (ms (ms (ms (ms (ms (ms (mg hc2))))))))) (At.getA (ha2.comp Entry.a_mode)) rfl ?_
          refine d_T 6 rfl sb_288_7_6 rfl (y_mul rfl rfl rfl) rfl ?_
          refine d_T 7 rfl sb_288_7_7 rfl (y_move rfl) rfl ?_
          refine d_T 8 rfl sb_288_7_8 rfl (y_move rfl) rfl ?_
          obtain ⟨x3, hx5, hm⟩ := bd hm
          obtain ⟨b6, w3, cs3, y3, z9, vs3, hc3, ha3, hr4, hy3⟩ := hr1.ix hx5
          obtain rfl : vs3 = Entry.enc x3 := hr4
          refine d_T 9 rfl sb_288_7_9 rfl (hy3 sl_277 rfl rfl rfl) rfl ?_
          refine d_T 10 rfl sb_288_7_10 rfl (y_fa fl_279_1 rfl) rfl ?_
          refine d_ld 11 rfl sb_288_7_11 one_3 rfl (fun x hx => hx) (ms (ms (ms (ms (ms (ms (ms (ms (mg hc3))))))))) (At.getA (ha3.comp Entry.a_id)) rfl ?_
          refine d_T 12 rfl sb_288_7_12 rfl (y_move rfl) rfl ?_
          refine d_T 13 rfl sb_288_7_13 rfl (y_move rfl) rfl ?_
          obtain ⟨s1, hx6, hm⟩ := bd hm
          refine d_T 14 rfl sb_288_7_14 rfl (y_ssl Tryz.underlying9 rfl (biS rfl) biN hx6) rfl ?_
          refine d_hard 15 rfl sb_288_7_15 ?_
          obtain ⟨l4, hx7, hm⟩ := bd1 hm
          refine o_callC en_315 rfl (s_take s_nil) (t315 ho6 hx7) rfl (fun u2 S2 hR2 => ?_)
          obtain ⟨v17, g16, rfl, rfl, ho16⟩ := hR2
          refine o_rest ?_
          refine o_stop (fun h => nomatch h) ?_
          refine d_L 16 rfl sb_288_7_16 rfl (y_assign rfl) rfl rfl ?_
          refine d_nil0 sb_288_7_17 rfl ?_
          refine c_region ?_
          refine o_T (y_move rfl) rfl ?_
          refine o_T (y_add rfl rfl rfl) rfl ?_
          refine o_L (y_assign rfl) rfl rfl ?_
          refine o_nil0 rfl ?_
          exact ⟨mm1, Nat.lt_succ_self _, _, _, ⟨_, _, _, _, _, v17, _, v8, _, v9, _, v10, _, v11, _, rfl, rfl, hm, ho16, ho7, ho8, ho9, ho10⟩, ⟨rfl, rfl, trivial⟩, ⟨rfl, rfl⟩, _, (s_take (s_take (s_take (s_take (s_take (s_take (s_take (s_take (s_take s_nil)))))))))⟩
        · have hm := cd_f h2 hm
          refine c_seq ?_
          refine c_region ?_
          refine o_T (y_move rfl) rfl ?_
          refine o_T (y_add rfl rfl rfl) rfl ?_
          refine o_L (y_assign rfl) rfl rfl ?_
          refine o_nil0 rfl ?_
          refine c_seq ?_
          obtain ⟨c5, hj2, hm⟩ := bd1 hm
          refine c_joinP (n := 0) (fun sh G => sh = [(16, .int .i64 c5)] ∧ G = []) (s_take (s_take (s_take (s_take (s_take (s_take (s_take (s_take (s_take s_nil))))))))) .z (fun _ _ h => h) ?_ ?_
          · skip
            refine c_block ?_
            refine c_loopP (n := 0) (fun mm sh G => ∃ (c4 : Int), sh = [(16, .int .i64 c4)] ∧ G = [] ∧ m288_w2 n list hi x1 c3 mm c4 = some c5) n (s_take (s_take (s_take (s_take (s_take (s_take (s_take (s_take (s_take s_nil))))))))) .z ⟨_, _, ⟨_, rfl, rfl, hj2⟩, ⟨rfl, trivial⟩, _, (s_take (s_take (s_take (s_take (s_take (s_take (s_take (s_take (s_take s_nil)))))))))⟩ ?_
            rintro mm sh G ⟨c4, rfl, rfl, hm⟩
            obtain ⟨mm2, rfl, hm⟩ := it1_s hm
            refine c_seq ?_
            refine c_seq ?_
            obtain ⟨c6, hj3, hm⟩ := bd1 hm
            refine c_joinP (n := 0) (fun sh G => sh = [(70, .bool c6)] ∧ G = []) Sel.all' .z (fun _ _ h => h) ?_ ?_
            · have hm := hj3
              refine c_draw #[true, true, true, true, true, true, true, true, true, true, true, true, true, false, true] rfl (n := 15) rfl ?_
              refine d_T 0 rfl sb_288_10_0 rfl (y_move rfl) rfl ?_
              refine d_T 1 rfl sb_288_10_1 rfl (y_move rfl) rfl ?_
              refine d_T 2 rfl sb_288_10_2 rfl (y_lss rfl rfl) rfl ?_
              refine d_T 3 rfl sb_288_10_3 rfl (y_move rfl) rfl ?_
              refine d_split 59 rfl (fun h3 => ?_) (fun h3 => ?_)
              · have hm := cd_t h3 hm
                refine d_Tg 4 rfl rfl rfl rfl sb_288_10_4 rfl (y_move rfl) rfl ?_
                refine d_Tg 5 rfl rfl rfl rfl sb_288_10_5 rfl (y_move rfl) rfl ?_
                obtain ⟨x4, hx8, hm⟩ := bd hm
                obtain ⟨b7, w4, cs4, y4, z10, vs4, hc4, ha4, hr5, hy4⟩ := hr1.ix hx8
                obtain rfl : vs4 = Entry.enc x4 := hr5
                refine d_Tg 6 rfl rfl rfl rfl sb_288_10_6 rfl (hy4 sl_277 rfl rfl rfl) rfl ?_
                refine d_Tg 7 rfl rfl rfl rfl sb_288_10_7 rfl (y_fa fl_279_0 rfl) rfl ?_
                refine d_ldt 8 rfl rfl rfl rfl sb_288_10_8 one_9 rfl (fun x hx => hx) (ms (ms (ms (ms (ms (ms (ms (ms (mg hc4))))))))) (At.getA (ha4.comp Entry.a_path)) rfl ?_
                refine d_Tg 9 rfl rfl rfl rfl sb_288_10_9 rfl (y_move rfl) rfl ?_
                refine d_Tg 10 rfl rfl rfl rfl sb_288_10_10 rfl (y_move rfl) rfl ?_
                refine d_Tg 11 rfl rfl rfl rfl sb_288_10_11 rfl (y_add rfl rfl rfl) rfl ?_
                obtain ⟨s2, hx9, hm⟩ := bd hm
                refine d_Tg 12 rfl rfl rfl rfl sb_288_10_12 rfl (y_ssl Tryz.underlying9 rfl biN (biS rfl) hx9) rfl ?_
                refine d_hard 13 rfl sb_288_10_13 ?_
                refine o_take rfl rfl rfl ?_
                obtain ⟨c7, hx10, hm⟩ := bd1 hm
                refine o_callC en_203 rfl s_nil (t203 hx10) rfl (fun u3 S3 hR3 => ?_)
                obtain ⟨rfl, rfl⟩ := hR3
                refine o_rest ?_
                refine o_stop (fun h => nomatch h) ?_
                refine d_T 14 rfl sb_288_10_14 rfl (y_pickT rfl rfl) rfl ?_
                refine d_nil1 70 sb_288_10_15 rfl rfl ?_
                obtain rfl := p1 hm
                exact ⟨_, _, ⟨rfl, rfl⟩, ⟨rfl, trivial⟩, ⟨rfl, rfl⟩, _, (s_take (s_take (s_take (s_take (s_take (s_take (s_take (s_take (s_take s_nil)))))))))⟩
              · have hm := cd_f h3 hm
                refine d_pass 4 rfl rfl rfl rfl rfl sb_288_10_4 (fun x hx => hx) rfl ?_
                refine d_pass 5 rfl rfl rfl rfl rfl sb_288_10_5 (fun x hx => hx) rfl ?_
                refine d_pass 6 rfl rfl rfl rfl rfl sb_288_10_6 (fun x hx => hx) rfl ?_
                refine d_pass 7 rfl rfl rfl rfl rfl sb_288_10_7 (fun x hx => hx) rfl ?_
                refine d_pass 8 rfl rfl rfl rfl rfl sb_288_10_8 (fun x hx => hx) rfl ?_
                refine d_pass 9 rfl rfl rfl rfl rfl sb_288_10_9 (fun x hx => hx) rfl ?_
                refine d_pass 10 rfl rfl rfl rfl rfl sb_288_10_10 (fun x hx => hx) rfl ?_
                refine d_pass 11 rfl rfl rfl rfl rfl sb_288_10_11 (fun x hx => hx) rfl ?_
                refine d_pass 12 rfl rfl rfl rfl rfl sb_288_10_12 (fun x hx => hx) rfl ?_
                refine d_pass 13 rfl rfl rfl rfl rfl sb_288_10_16 (fun x hx => hx) rfl ?_
                refine d_T 14 rfl sb_288_10_14 rfl (y_pickF rfl rfl) rfl ?_
                refine d_nil1 70 sb_288_10_15 rfl rfl ?_
                obtain rfl := p1 hm
                exact ⟨_, _, ⟨rfl, rfl⟩, ⟨rfl, trivial⟩, ⟨rfl, rfl⟩, _, (s_take (s_take (s_take (s_take (s_take (s_take (s_take (s_take (s_take s_nil)))))))))⟩
            · rintro sh G ⟨rfl, rfl⟩
              refine c_cond rfl (fun h4 => ?_) (fun h4 => ?_)
              · have hm := cd_t h4 hm
                refine c_skip ?_
                refine c_block ?_
                refine c_region ?_
                refine o_T (y_move rfl) rfl ?_
                refine o_T (y_add rfl rfl rfl) rfl ?_
                refine o_L (y_assign rfl) rfl rfl ?_
                refine o_nil0 rfl ?_
                exact ⟨mm2, Nat.lt_succ_self _, _, _, ⟨_, rfl, rfl, hm⟩, ⟨rfl, trivial⟩, ⟨rfl, rfl⟩, _, (s_take (s_take (s_take (s_take (s_take (s_take (s_take (s_take (s_take s_nil)))))))))⟩
              · have hm := cd_f h4 hm
                refine c_exit ?_
                obtain rfl := p1 hm
                exact ⟨_, _, ⟨rfl, rfl⟩, ⟨rfl, trivial⟩, ⟨rfl, rfl⟩, _, (s_take (s_take (s_take (s_take (s_take (s_take (s_take (s_take (s_take s_nil)))))))))⟩
          · rintro sh G ⟨rfl, rfl⟩
            refine c_seq ?_
            refine c_region ?_
            refine o_T (y_move rfl) rfl ?_
            refine o_T (y_move rfl) rfl ?_
            refine o_T (y_move rfl) rfl ?_
            refine o_T (y_move rfl) rfl ?_
            refine o_T (y_move rfl) rfl ?_
            refine o_T (y_add rfl rfl rfl) rfl ?_
            obtain ⟨c8, c9, z11, z12, z13, hx11, hm⟩ := bd5 hm
            refine o_callC en_288 rfl (s_skip (s_take (s_take (s_take (s_take (s_take (s_take (s_take s_nil)))))))) (ih ho7 ho8 ho9 ho10 (hr1.mono (fun _ hz => (ms (mg hz)))) hx11) rfl (fun u4 S4 hR4 => ?_)
            obtain ⟨v18, g17, v19, g18, v20, g19, v21, g20, rfl, rfl, ho17, ho18, ho19, ho20⟩ := hR4
            refine o_rest ?_
            refine o_T (y_move rfl) rfl ?_
            refine o_T (y_extract rfl rfl) rfl ?_
            refine o_T (y_extract rfl rfl) rfl ?_
            refine o_L (y_assign rfl) rfl rfl ?_
            refine o_L (y_assign rfl) rfl rfl ?_
            refine o_nil0 rfl ?_
            refine c_seq ?_
            refine c_seq ?_
            refine c_region ?_
            refine o_T (y_move rfl) rfl ?_
            refine o_T (y_neq rfl rfl) rfl ?_
            refine o_nil1 84 rfl rfl ?_
            refine c_cond rfl (fun h5 => ?_) (fun h5 => ?_)
            · have hm := cd_t h5 hm
              refine c_seq ?_
              refine c_region ?_
              refine o_T (y_move rfl) rfl ?_
              refine o_L (y_assign rfl) rfl rfl ?_
              refine o_L (y_assign rfl) rfl rfl ?_
              refine o_nil0 rfl ?_
              refine c_ret ?_
              obtain ⟨q1, hq1, hm⟩ := bd hm
              have hm := fl_ret hm hF2
              have hm := hq1.trans hm
              obtain ⟨rfl, rfl, rfl, rfl, rfl⟩ := pr5 hm
              refine fun aX wX heX hsX => ret2 Tryz.results288 heX rfl rfl (s_take (s_take (s_take (s_take (s_take (s_take (s_take (s_skip (s_take s_nil))))))))) ?_
              exact ⟨v18, _, v19, _, v20, _, v21, _, rfl, rfl, ho17, ho18, ho19, ho20⟩
            · have hm := cd_f h5 hm
              refine c_skip ?_
              refine c_seq ?_
              refine c_region ?_
              refine o_T (y_move rfl) rfl ?_
              refine o_T (y_move rfl) rfl ?_
              refine o_T (y_move rfl) rfl ?_
              refine o_T (y_move rfl) rfl ?_
              refine o_T (y_move rfl) rfl ?_
              obtain ⟨s3, hx12, hm⟩ := bd hm
              refine o_T (y_ssl Tryz.underlying9 rfl (biS rfl) (biS rfl) hx12) rfl ?_
              obtain ⟨l5, hx13, hm⟩ := bd1 hm
              refine o_callC en_315 rfl (s_skip (s_skip (s_skip (s_skip (s_skip (s_skip (s_skip (s_take s_nil)))))))) (t315 ho6 hx13) rfl (fun u5 S5 hR5 => ?_)
              obtain ⟨v22, g21, rfl, rfl, ho21⟩ := hR5
              refine o_rest ?_
              refine o_L (y_assign rfl) rfl rfl ?_
              refine o_nil0 rfl ?_
              refine c_region ?_
              refine o_T (y_move rfl) rfl ?_
              refine o_L (y_assign rfl) rfl rfl ?_
              refine o_nil0 rfl ?_
              exact ⟨mm1, Nat.lt_succ_self _, _, _, ⟨_, _, _, _, _, v22, _, v18, _, v19, _, v20, _, v21, _, rfl, rfl, hm, ho21, ho17, ho18, ho19, ho20⟩, ⟨rfl, rfl, trivial⟩, ⟨rfl, rfl⟩, _, (s_take (s_take (s_take (s_take (s_take (s_take (s_take (s_take (s_take s_nil)))))))))⟩
      · have hm := cd_f h1 hm
        refine c_exit ?_
        have hm := fl_nx hm hF2
        exact ⟨_, _, ⟨_, _, _, _, _, v7, _, v8, _, v9, _, v10, _, v11, _, rfl, rfl, hm, ho6, ho7, ho8, ho9, ho10⟩, ⟨rfl, rfl, trivial⟩, ⟨rfl, rfl⟩, _, (s_take (s_take (s_take (s_take (s_take (s_take (s_take (s_take (s_take s_nil)))))))))⟩
    · rintro sh G ⟨l3, c2, z4, z5, z6, v12, g11, v13, g12, v14, g13, v15, g14, v16, g15, rfl, rfl, hm, ho11, ho12, ho13, ho14, ho15⟩
      subst hF1
      refine c_seq ?_
      refine c_region ?_
      refine o_T (y_move rfl) rfl ?_
      refine o_T (y_nilck rfl) rfl ?_
      refine o_T (y_fa fl_169_0 rfl) rfl ?_
      refine o_ld one_28 rfl (ms m0) (At.got (At.refl.comp Trees.a_o)) rfl ?_
      refine o_T (y_move rfl) rfl ?_
      obtain ⟨c10, c11, z14, z15, hx14, hm⟩ := bd4 hm
      refine o_callC en_274 rfl (s_skip (s_skip (s_take (s_take (s_take (s_take (s_take (s_take s_nil)))))))) (t274 ho12 ho13 ho14 ho15 (ho11.rd.mono (fun _ hz => (mg hz))) hx14) rfl (fun u6 S6 hR6 => ?_)
      obtain ⟨v23, g22, v24, g23, v25, g24, v26, g25, rfl, rfl, ho22, ho23, ho24, ho25⟩ := hR6
      refine o_rest ?_
      refine o_T (y_move rfl) rfl ?_
      refine o_T (y_extract rfl rfl) rfl ?_
      refine o_T (y_extract rfl rfl) rfl ?_
      refine o_L (y_assign rfl) rfl rfl ?_
      refine o_L (y_assign rfl) rfl rfl ?_
      refine o_nil0 rfl ?_
      refine c_seq ?_
      refine c_seq ?_
      refine c_region ?_
      refine o_T (y_move rfl) rfl ?_
      refine o_T (y_neq rfl rfl) rfl ?_
      refine o_nil1 104 rfl rfl ?_
      refine c_cond rfl (fun h6 => ?_) (fun h6 => ?_)
      · have hm := cd_t h6 hm
        refine c_seq ?_
        refine c_region ?_
        refine o_T (y_move rfl) rfl ?_
        refine o_L (y_assign rfl) rfl rfl ?_
        refine o_L (y_assign rfl) rfl rfl ?_
        refine o_nil0 rfl ?_
        refine c_ret ?_
        obtain ⟨rfl, rfl, rfl, rfl, rfl⟩ := pr5 hm
        refine fun aX wX heX hsX => ret2 Tryz.results288 heX rfl rfl (s_get (ks (ks (ks (ks (ks (ks (ks k0))))))) (s_take (s_take (s_take (s_take (s_take (s_take (s_skip (s_take s_nil))))))))) ?_
        exact ⟨v23, _, v24, _, v25, _, v26, _, rfl, rfl, ho22, ho23, ho24, ho25⟩
      · have hm := cd_f h6 hm
        refine c_skip ?_
        refine c_seq ?_
        refine c_seq ?_
        refine c_region ?_
        refine o_T (y_move rfl) rfl ?_
        refine o_T (y_move rfl) rfl ?_
        refine o_T (y_nilck rfl) rfl ?_
        refine o_T (y_fa fl_169_1 rfl) rfl ?_
        obtain ⟨_, hx15, hm⟩ := bd hm
        have hx15 := ckA_some hx15
        refine o_T (y_ia ar_167 rfl rfl hx15.1 hx15.2) rfl ?_
        refine o_ld one_3 rfl (ms (ms (ms (ms (ms (ms (ms m0))))))) (At.got ((At.refl.comp Trees.a_kind).comp (encN_a encI_len _ _ hx15.1 _ hx15.2))) rfl ?_
        refine o_T (y_eql rfl rfl) rfl ?_
        refine o_nil1 112 rfl rfl ?_
        refine c_cond rfl (fun h7 => ?_) (fun h7 => ?_)
        · have hm := cd_t h7 hm
          refine c_seq ?_
          refine c_region ?_
          refine o_T (y_move rfl) rfl ?_
          refine o_T (y_move rfl) rfl ?_
          refine o_T (y_nilck rfl) rfl ?_
          refine o_T (y_fa fl_169_1 rfl) rfl ?_
          obtain ⟨_, hx16, hm⟩ := bd hm
          have hx16 := ckA_some hx16
          refine o_T (y_ia ar_167 rfl rfl hx16.1 hx16.2) rfl ?_
          obtain ⟨z16, hn1, hm⟩ := nm_s hm
          refine o_stN one_3 rfl rfl rfl ((Upd.z Trees.u_kind).comp (encN_u encI_len _ _ _ hx16.1 _ hx16.2)) (rs (rs (rs (rs (rs (rs (rs r0))))))) (show (Trees.enc (.pointer (some ⟨b2, 0, none⟩)) z16) = _ from by subst hn1; rfl) ?_
          refine o_nil0 rfl ?_
          refine c_region ?_
          refine o_T (y_move rfl) rfl ?_
          refine o_T (y_move rfl) rfl ?_
          obtain ⟨z17, hx17, hm⟩ := bd1 hm
          refine o_callC en_245 rfl (s_skip (s_skip (s_skip (s_skip (s_skip (s_skip (s_skip (s_take s_nil)))))))) (t245 (ho11.rd.mono (fun _ hz => (ms (ms (ms (ms (ms (ms (mg hz))))))))) hx17) rfl (fun u7 S7 hR7 => ?_)
          obtain ⟨rfl, rfl⟩ := hR7
          refine o_rest ?_
          refine o_nil0 rfl ?_
          refine c_seq ?_
          refine c_region ?_
          refine o_T (y_move rfl) rfl ?_
          refine o_L (y_assign rfl) rfl rfl ?_
          refine o_L (y_assign rfl) rfl rfl ?_
          refine o_nil0 rfl ?_
          refine c_ret ?_
          obtain ⟨rfl, rfl, rfl, rfl, rfl⟩ := pr5 hm
          refine fun aX wX heX hsX => ret2 Tryz.results288 heX rfl rfl (s_take (s_take (s_take (s_take (s_take (s_take (s_take (s_skip (s_take s_nil))))))))) ?_
          exact ⟨v23, _, v24, _, v25, _, v26, _, rfl, rfl, ho22, ho23, ho24, ho25⟩
        · have hm := cd_f h7 hm
          refine c_skip ?_
          refine c_seq ?_
          refine c_region ?_
          refine o_T (y_move rfl) rfl ?_
          refine o_L (y_assign rfl) rfl rfl ?_
          refine o_L (y_assign rfl) rfl rfl ?_
          refine o_nil0 rfl ?_
          refine c_ret ?_
          obtain ⟨rfl, rfl, rfl, rfl, rfl⟩ := pr5 hm
          refine fun aX wX heX hsX => ret2 Tryz.results288 heX rfl rfl (s_get (ks (ks (ks (ks (ks (ks (ks k0))))))) (s_take (s_take (s_take (s_take (s_take (s_take (s_skip (s_take s_nil))))))))) ?_
          exact ⟨v23, _, v24, _, v25, _, v26, _, rfl, rfl, ho22, ho23, ho24, ho25⟩
end Go.Proofs.Qxb6500350aGreat
