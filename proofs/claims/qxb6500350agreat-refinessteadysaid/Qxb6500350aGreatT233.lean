/- MADE BY PROGRAM (tools350/mir.py): mirror and walk. -/
import Derived.Test.Qxb6500350aGreatF2
import Derived.Test.Qxb6500350aGreatT185
import Derived.Test.Qxb6500350aGreatT257
import Derived.Test.Qxb6500350aGreatT282
set_option linter.unusedVariables false
set_option linter.unusedSimpArgs false
set_option maxRecDepth 20000
set_option maxHeartbeats 4000000
namespace Go.Proofs.Qxb6500350aGreat
open Go.Eng

def op_233_15 : Array Go.Oper := #[{ dst := some 54, op := Go.Op.move (Go.Operand.tmp 8), type := 185, pos := "text.go:190", after := #[], guard := none }, { dst := some 55, op := Go.Op.move (Go.Operand.tmp 15), type := 3, pos := "text.go:190", after := #[], guard := none }, { dst := some 56, op := Go.Op.move (Go.Operand.tmp 18), type := 3, pos := "text.go:190", after := #[], guard := none }, { dst := some 57, op := Go.Op.slice 185 (Go.Operand.tmp 54) (some (Go.Operand.tmp 55)) (some (Go.Operand.tmp 56)) none, type := 185, pos := "text.go:190", after := #[{ on := 0, ground := Go.Ground.data }, { on := 1, ground := Go.Ground.data }, { on := 2, ground := Go.Ground.data }], guard := none }, { dst := some 58, op := Go.Op.move (Go.Operand.tmp 9), type := 185, pos := "text.go:190", after := #[], guard := none }, { dst := some 59, op := Go.Op.move (Go.Operand.tmp 16), type := 3, pos := "text.go:190", after := #[], guard := none }, { dst := some 60, op := Go.Op.move (Go.Operand.tmp 11), type := 65, pos := "text.go:190", after := #[], guard := none }, { dst := some 61, op := Go.Op.move (Go.Operand.tmp 18), type := 3, pos := "text.go:190", after := #[], guard := none }, { dst := some 62, op := Go.Op.indexAddr 65 (Go.Operand.tmp 60) (Go.Operand.tmp 61), type := 0, pos := "text.go:190", after := #[{ on := 6, ground := Go.Ground.data }, { on := 7, ground := Go.Ground.data }], guard := none }, { dst := some 63, op := Go.Op.load 3 (Go.Operand.tmp 62), type := 3, pos := "text.go:190", after := #[{ on := 8, ground := Go.Ground.data }], guard := none }, { dst := some 64, op := Go.Op.slice 185 (Go.Operand.tmp 58) (some (Go.Operand.tmp 59)) (some (Go.Operand.tmp 63)) none, type := 185, pos := "text.go:190", after := #[{ on := 4, ground := Go.Ground.data }, { on := 5, ground := Go.Ground.data }, { on := 9, ground := Go.Ground.data }], guard := none }, { dst := some 65, op := Go.Op.move (Go.Operand.tmp 10), type := 185, pos := "text.go:190", after := #[], guard := none }, { dst := some 66, op := Go.Op.move (Go.Operand.tmp 17), type := 3, pos := "text.go:190", after := #[], guard := none }, { dst := some 67, op := Go.Op.move (Go.Operand.tmp 12), type := 65, pos := "text.go:190", after := #[], guard := none }, { dst := some 68, op := Go.Op.move (Go.Operand.tmp 18), type := 3, pos := "text.go:190", after := #[], guard := none }, { dst := some 69, op := Go.Op.indexAddr 65 (Go.Operand.tmp 67) (Go.Operand.tmp 68), type := 0, pos := "text.go:190", after := #[{ on := 13, ground := Go.Ground.data }, { on := 14, ground := Go.Ground.data }], guard := none }, { dst := some 70, op := Go.Op.load 3 (Go.Operand.tmp 69), type := 3, pos := "text.go:190", after := #[{ on := 15, ground := Go.Ground.data }], guard := none }, { dst := some 71, op := Go.Op.slice 185 (Go.Operand.tmp 65) (some (Go.Operand.tmp 66)) (some (Go.Operand.tmp 70)) none, type := 185, pos := "text.go:190", after := #[{ on := 11, ground := Go.Ground.data }, { on := 12, ground := Go.Ground.data }, { on := 16, ground := Go.Ground.data }], guard := none }, { dst := some 72, op := Go.Op.call { callee := Go.Callee.value (Go.Operand.func 282), args := #[Go.Operand.tmp 57, Go.Operand.tmp 64, Go.Operand.tmp 71], argTypes := #[185, 185, 185] }, type := 245, pos := "text.go:190", after := #[{ on := 3, ground := Go.Ground.data }, { on := 10, ground := Go.Ground.data }, { on := 17, ground := Go.Ground.data }], guard := none }, { dst := some 53, op := Go.Op.move (Go.Operand.tmp 72), type := 245, pos := "text.go:190", after := #[{ on := 18, ground := Go.Ground.data }], guard := none }, { dst := some 73, op := Go.Op.extract (Go.Operand.tmp 53) 0, type := 9, pos := "text.go:190", after := #[{ on := 19, ground := Go.Ground.data }], guard := none }, { dst := some 74, op := Go.Op.extract (Go.Operand.tmp 53) 1, type := 3, pos := "text.go:190", after := #[{ on := 19, ground := Go.Ground.data }, { on := 22, ground := Go.Ground.gcOnly Go.Departure.lateStores }], guard := none }, { dst := some 19, op := Go.Op.assign (Go.Operand.tmp 73), type := 9, pos := "text.go:190", after := #[{ on := 20, ground := Go.Ground.data }, { on := 18, ground := Go.Ground.chain }, { on := 0, ground := Go.Ground.phase }, { on := 1, ground := Go.Ground.phase }, { on := 2, ground := Go.Ground.phase }, { on := 3, ground := Go.Ground.phase }, { on := 4, ground := Go.Ground.phase }, { on := 5, ground := Go.Ground.phase }, { on := 6, ground := Go.Ground.phase }, { on := 7, ground := Go.Ground.phase }, { on := 8, ground := Go.Ground.phase }, { on := 9, ground := Go.Ground.phase }, { on := 10, ground := Go.Ground.phase }, { on := 11, ground := Go.Ground.phase }, { on := 12, ground := Go.Ground.phase }, { on := 13, ground := Go.Ground.phase }, { on := 14, ground := Go.Ground.phase }, { on := 15, ground := Go.Ground.phase }, { on := 16, ground := Go.Ground.phase }, { on := 17, ground := Go.Ground.phase }, { on := 18, ground := Go.Ground.phase }, { on := 19, ground := Go.Ground.phase }, { on := 20, ground := Go.Ground.phase }, { on := 21, ground := Go.Ground.textOnly Go.Departure.lateStores }], guard := none }, { dst := some 20, op := Go.Op.assign (Go.Operand.tmp 74), type := 3, pos := "text.go:190", after := #[{ on := 21, ground := Go.Ground.data }, { on := 22, ground := Go.Ground.chain }, { on := 0, ground := Go.Ground.phase }, { on := 1, ground := Go.Ground.phase }, { on := 2, ground := Go.Ground.phase }, { on := 3, ground := Go.Ground.phase }, { on := 4, ground := Go.Ground.phase }, { on := 5, ground := Go.Ground.phase }, { on := 6, ground := Go.Ground.phase }, { on := 7, ground := Go.Ground.phase }, { on := 8, ground := Go.Ground.phase }, { on := 9, ground := Go.Ground.phase }, { on := 10, ground := Go.Ground.phase }, { on := 11, ground := Go.Ground.phase }, { on := 12, ground := Go.Ground.phase }, { on := 13, ground := Go.Ground.phase }, { on := 14, ground := Go.Ground.phase }, { on := 15, ground := Go.Ground.phase }, { on := 16, ground := Go.Ground.phase }, { on := 17, ground := Go.Ground.phase }, { on := 18, ground := Go.Ground.phase }, { on := 19, ground := Go.Ground.phase }, { on := 20, ground := Go.Ground.phase }, { on := 21, ground := Go.Ground.phase }, { on := 22, ground := Go.Ground.phase }], guard := none }]
def op_233_21 : Array Go.Oper := #[{ dst := some 99, op := Go.Op.move (Go.Operand.tmp 8), type := 185, pos := "text.go:198", after := #[], guard := none }, { dst := some 100, op := Go.Op.move (Go.Operand.tmp 15), type := 3, pos := "text.go:198", after := #[], guard := none }, { dst := some 101, op := Go.Op.slice 185 (Go.Operand.tmp 99) (some (Go.Operand.tmp 100)) none none, type := 185, pos := "text.go:198", after := #[{ on := 0, ground := Go.Ground.data }, { on := 1, ground := Go.Ground.data }], guard := none }, { dst := some 102, op := Go.Op.move (Go.Operand.tmp 9), type := 185, pos := "text.go:198", after := #[], guard := none }, { dst := some 103, op := Go.Op.move (Go.Operand.tmp 16), type := 3, pos := "text.go:198", after := #[], guard := none }, { dst := some 104, op := Go.Op.slice 185 (Go.Operand.tmp 102) (some (Go.Operand.tmp 103)) none none, type := 185, pos := "text.go:198", after := #[{ on := 3, ground := Go.Ground.data }, { on := 4, ground := Go.Ground.data }], guard := none }, { dst := some 105, op := Go.Op.move (Go.Operand.tmp 10), type := 185, pos := "text.go:198", after := #[], guard := none }, { dst := some 106, op := Go.Op.move (Go.Operand.tmp 17), type := 3, pos := "text.go:198", after := #[], guard := none }, { dst := some 107, op := Go.Op.slice 185 (Go.Operand.tmp 105) (some (Go.Operand.tmp 106)) none none, type := 185, pos := "text.go:198", after := #[{ on := 6, ground := Go.Ground.data }, { on := 7, ground := Go.Ground.data }], guard := none }, { dst := some 108, op := Go.Op.call { callee := Go.Callee.value (Go.Operand.func 282), args := #[Go.Operand.tmp 101, Go.Operand.tmp 104, Go.Operand.tmp 107], argTypes := #[185, 185, 185] }, type := 245, pos := "text.go:198", after := #[{ on := 2, ground := Go.Ground.data }, { on := 5, ground := Go.Ground.data }, { on := 8, ground := Go.Ground.data }], guard := none }, { dst := some 98, op := Go.Op.move (Go.Operand.tmp 108), type := 245, pos := "text.go:198", after := #[{ on := 9, ground := Go.Ground.data }], guard := none }, { dst := some 109, op := Go.Op.extract (Go.Operand.tmp 98) 0, type := 9, pos := "text.go:198", after := #[{ on := 10, ground := Go.Ground.data }], guard := none }, { dst := some 110, op := Go.Op.extract (Go.Operand.tmp 98) 1, type := 3, pos := "text.go:198", after := #[{ on := 10, ground := Go.Ground.data }, { on := 13, ground := Go.Ground.gcOnly Go.Departure.lateStores }], guard := none }, { dst := some 21, op := Go.Op.assign (Go.Operand.tmp 109), type := 9, pos := "text.go:198", after := #[{ on := 11, ground := Go.Ground.data }, { on := 9, ground := Go.Ground.chain }, { on := 0, ground := Go.Ground.phase }, { on := 1, ground := Go.Ground.phase }, { on := 2, ground := Go.Ground.phase }, { on := 3, ground := Go.Ground.phase }, { on := 4, ground := Go.Ground.phase }, { on := 5, ground := Go.Ground.phase }, { on := 6, ground := Go.Ground.phase }, { on := 7, ground := Go.Ground.phase }, { on := 8, ground := Go.Ground.phase }, { on := 9, ground := Go.Ground.phase }, { on := 10, ground := Go.Ground.phase }, { on := 11, ground := Go.Ground.phase }, { on := 12, ground := Go.Ground.textOnly Go.Departure.lateStores }], guard := none }, { dst := some 22, op := Go.Op.assign (Go.Operand.tmp 110), type := 3, pos := "text.go:198", after := #[{ on := 12, ground := Go.Ground.data }, { on := 13, ground := Go.Ground.chain }, { on := 0, ground := Go.Ground.phase }, { on := 1, ground := Go.Ground.phase }, { on := 2, ground := Go.Ground.phase }, { on := 3, ground := Go.Ground.phase }, { on := 4, ground := Go.Ground.phase }, { on := 5, ground := Go.Ground.phase }, { on := 6, ground := Go.Ground.phase }, { on := 7, ground := Go.Ground.phase }, { on := 8, ground := Go.Ground.phase }, { on := 9, ground := Go.Ground.phase }, { on := 10, ground := Go.Ground.phase }, { on := 11, ground := Go.Ground.phase }, { on := 12, ground := Go.Ground.phase }, { on := 13, ground := Go.Ground.phase }], guard := none }]
theorem sb_233_15_0 : softB op_233_15 #[true, true, true, true, true, true, true, true, true, true, true, true, true, true, true, true, true, true, false, true, true, true, true, true] (Array.replicate 24 false) 0 = true := by kernel_rfl
theorem sb_233_15_1 : softB op_233_15 #[true, true, true, true, true, true, true, true, true, true, true, true, true, true, true, true, true, true, false, true, true, true, true, true] ((Array.replicate 24 false).setIfInBounds 0 true) 1 = true := by kernel_rfl
theorem sb_233_15_2 : softB op_233_15 #[true, true, true, true, true, true, true, true, true, true, true, true, true, true, true, true, true, true, false, true, true, true, true, true] (((Array.replicate 24 false).setIfInBounds 0 true).setIfInBounds 1 true) 2 = true := by kernel_rfl
theorem sb_233_15_3 : softB op_233_15 #[true, true, true, true, true, true, true, true, true, true, true, true, true, true, true, true, true, true, false, true, true, true, true, true] ((((Array.replicate 24 false).setIfInBounds 0 true).setIfInBounds 1 true).setIfInBounds 2 true) 3 = true := by kernel_rfl
theorem sb_233_15_4 : softB op_233_15 #[true, true, true, true, true, true, true, true, true, true, true, true, true, true, true, true, true, true, false, true, true, true, true, true] (((((Array.replicate 24 false).setIfInBounds 0 true).setIfInBounds 1 true).setIfInBounds 2 true).setIfInBounds 3 true) 4 = true := by kernel_rfl
theorem sb_233_15_5 : softB op_233_15 #[true, true, true, true, true, true, true, true, true, true, true, true, true, true, true, true, true, true, false, true, true, true, true, true] ((((((Array.replicate 24 false).setIfInBounds 0 true).setIfInBounds 1 true).setIfInBounds 2 true).setIfInBounds 3 true).setIfInBounds 4 true) 5 = true := by kernel_rfl
theorem sb_233_15_6 : softB op_233_15 #[true, true, true, true, true, true, true, true, true, true, true, true, true, true, true, true, true, true, false, true, true, true, true, true] (((((((Array.replicate 24 false).setIfInBounds 0 true).setIfInBounds 1 true).setIfInBounds 2 true).setIfInBounds 3 true).setIfInBounds 4 true).setIfInBounds 5 true) 6 = true := by kernel_rfl
theorem sb_233_15_7 : softB op_233_15 #[true, true, true, true, true, true, true, true, true, true, true, true, true, true, true, true, true, true, false, true, true, true, true, true] ((((((((Array.replicate 24 false).setIfInBounds 0 true).setIfInBounds 1 true).setIfInBounds 2 true).setIfInBounds 3 true).setIfInBounds 4 true).setIfInBounds 5 true).setIfInBounds 6 true) 7 = true := by kernel_rfl
theorem sb_233_15_8 : softB op_233_15 #[true, true, true, true, true, true, true, true, true, true, true, true, true, true, true, true, true, true, false, true, true, true, true, true] (((((((((Array.replicate 24 false).setIfInBounds 0 true).setIfInBounds 1 true).setIfInBounds 2 true).setIfInBounds 3 true).setIfInBounds 4 true).setIfInBounds 5 true).setIfInBounds 6 true).setIfInBounds 7 true) 8 = true := by kernel_rfl
theorem sb_233_15_9 : softB op_233_15 #[true, true, true, true, true, true, true, true, true, true, true, true, true, true, true, true, true, true, false, true, true, true, true, true] ((((((((((Array.replicate 24 false).setIfInBounds 0 true).setIfInBounds 1 true).setIfInBounds 2 true).setIfInBounds 3 true).setIfInBounds 4 true).setIfInBounds 5 true).setIfInBounds 6 true).setIfInBounds 7 true).setIfInBounds 8 true) 9 = true := by kernel_rfl
theorem sb_233_15_10 : softB op_233_15 #[true, true, true, true, true, true, true, true, true, true, true, true, true, true, true, true, true, true, false, true, true, true, true, true] (((((((((((Array.replicate 24 false).setIfInBounds 0 true).setIfInBounds 1 true).setIfInBounds 2 true).setIfInBounds 3 true).setIfInBounds 4 true).setIfInBounds 5 true).setIfInBounds 6 true).setIfInBounds 7 true).setIfInBounds 8 true).setIfInBounds 9 true) 10 = true := by kernel_rfl
theorem sb_233_15_11 : softB op_233_15 #[true, true, true, true, true, true, true, true, true, true, true, true, true, true, true, true, true, true, false, true, true, true, true, true] ((((((((((((Array.replicate 24 false).setIfInBounds 0 true).setIfInBounds 1 true).setIfInBounds 2 true).setIfInBounds 3 true).setIfInBounds 4 true).setIfInBounds 5 true).setIfInBounds 6 true).setIfInBounds 7 true).setIfInBounds 8 true).setIfInBounds 9 true).setIfInBounds 10 true) 11 = true := by kernel_rfl
theorem sb_233_15_12 : softB op_233_15 #[true, true, true, true, true, true, true, true, true, true, true, true, true, true, true, true, true, true, false, true, true, true, true, true] (((((((((((((Array.replicate 24 false).setIfInBounds 0 true).setIfInBounds 1 true).setIfInBounds 2 true).setIfInBounds 3 true).setIfInBounds 4 true).setIfInBounds 5 true).setIfInBounds 6 true).setIfInBounds 7 true).setIfInBounds 8 true).setIfInBounds 9 true).setIfInBounds 10 true).setIfInBounds 11 true) 12 = true := by kernel_rfl
theorem sb_233_15_13 : softB op_233_15 #[true, true, true, true, true, true, true, true, true, true, true, true, true, true, true, true, true, true, false, true, true, true, true, true] ((((((((((((((Array.replicate 24 false).setIfInBounds 0 true).setIfInBounds 1 true).setIfInBounds 2 true).setIfInBounds 3 true).setIfInBounds 4 true).setIfInBounds 5 true).setIfInBounds 6 true).setIfInBounds 7 true).setIfInBounds 8 true).setIfInBounds 9 true).setIfInBounds 10 true).setIfInBounds 11 true).setIfInBounds 12 true) 13 = true := by kernel_rfl
theorem sb_233_15_14 : softB op_233_15 #[true, true, true, true, true, true, true, true, true, true, true, true, true, true, true, true, true, true, false, true, true, true, true, true] (((((((((((((((Array.replicate 24 false).setIfInBounds 0 true).setIfInBounds 1 true).setIfInBounds 2 true).setIfInBounds 3 true).setIfInBounds 4 true).setIfInBounds 5 true).setIfInBounds 6 true).setIfInBounds 7 true).setIfInBounds 8 true).setIfInBounds 9 true).setIfInBounds 10 true).setIfInBounds 11 true).setIfInBounds 12 true).setIfInBounds 13 true) 14 = true := by kernel_rfl
theorem sb_233_15_15 : softB op_233_15 #[true, true, true, true, true, true, true, true, true, true, true, true, true, true, true, true, true, true, false, true, true, true, true, true] ((((((((((((((((Array.replicate 24 false).setIfInBounds 0 true).setIfInBounds 1 true).setIfInBounds 2 true).setIfInBounds 3 true).setIfInBounds 4 true).setIfInBounds 5 true).setIfInBounds 6 true).setIfInBounds 7 true).setIfInBounds 8 true).setIfInBounds 9 true).setIfInBounds 10 true).setIfInBounds 11 true).setIfInBounds 12 true).setIfInBounds 13 true).setIfInBounds 14 true) 15 = true := by kernel_rfl
theorem sb_233_15_16 : softB op_233_15 #[true, true, true, true, true, true, true, true, true, true, true, true, true, true, true, true, true, true, false, true, true, true, true, true] (((((((((((((((((Array.replicate 24 false).setIfInBounds 0 true).setIfInBounds 1 true).setIfInBounds 2 true).setIfInBounds 3 true).setIfInBounds 4 true).setIfInBounds 5 true).setIfInBounds 6 true).setIfInBounds 7 true).setIfInBounds 8 true).setIfInBounds 9 true).setIfInBounds 10 true).setIfInBounds 11 true).setIfInBounds 12 true).setIfInBounds 13 true).setIfInBounds 14 true).setIfInBounds 15 true) 16 = true := by kernel_rfl
theorem sb_233_15_17 : softB op_233_15 #[true, true, true, true, true, true, true, true, true, true, true, true, true, true, true, true, true, true, false, true, true, true, true, true] ((((((((((((((((((Array.replicate 24 false).setIfInBounds 0 true).setIfInBounds 1 true).setIfInBounds 2 true).setIfInBounds 3 true).setIfInBounds 4 true).setIfInBounds 5 true).setIfInBounds 6 true).setIfInBounds 7 true).setIfInBounds 8 true).setIfInBounds 9 true).setIfInBounds 10 true).setIfInBounds 11 true).setIfInBounds 12 true).setIfInBounds 13 true).setIfInBounds 14 true).setIfInBounds 15 true).setIfInBounds 16 true) 17 = true := by kernel_rfl
theorem sb_233_15_18 : hardB op_233_15 (((((((((((((((((((Array.replicate 24 false).setIfInBounds 0 true).setIfInBounds 1 true).setIfInBounds 2 true).setIfInBounds 3 true).setIfInBounds 4 true).setIfInBounds 5 true).setIfInBounds 6 true).setIfInBounds 7 true).setIfInBounds 8 true).setIfInBounds 9 true).setIfInBounds 10 true).setIfInBounds 11 true).setIfInBounds 12 true).setIfInBounds 13 true).setIfInBounds 14 true).setIfInBounds 15 true).setIfInBounds 16 true).setIfInBounds 17 true) [18] = true := by kernel_rfl
theorem sb_233_15_19 : softB op_233_15 #[true, true, true, true, true, true, true, true, true, true, true, true, true, true, true, true, true, true, false, true, true, true, true, true] ((((((((((((((((((((Array.replicate 24 false).setIfInBounds 0 true).setIfInBounds 1 true).setIfInBounds 2 true).setIfInBounds 3 true).setIfInBounds 4 true).setIfInBounds 5 true).setIfInBounds 6 true).setIfInBounds 7 true).setIfInBounds 8 true).setIfInBounds 9 true).setIfInBounds 10 true).setIfInBounds 11 true).setIfInBounds 12 true).setIfInBounds 13 true).setIfInBounds 14 true).setIfInBounds 15 true).setIfInBounds 16 true).setIfInBounds 17 true).setIfInBounds 18 true) 19 = true := by kernel_rfl
theorem sb_233_15_20 : softB op_233_15 #[true, true, true, true, true, true, true, true, true, true, true, true, true, true, true, true, true, true, false, true, true, true, true, true] (((((((((((((((((((((Array.replicate 24 false).setIfInBounds 0 true).setIfInBounds 1 true).setIfInBounds 2 true).setIfInBounds 3 true).setIfInBounds 4 true).setIfInBounds 5 true).setIfInBounds 6 true).setIfInBounds 7 true).setIfInBounds 8 true).setIfInBounds 9 true).setIfInBounds 10 true).setIfInBounds 11 true).setIfInBounds 12 true).setIfInBounds 13 true).setIfInBounds 14 true).setIfInBounds 15 true).setIfInBounds 16 true).setIfInBounds 17 true).setIfInBounds 18 true).setIfInBounds 19 true) 20 = true := by kernel_rfl
theorem sb_233_15_21 : softB op_233_15 #[true, true, true, true, true, true, true, true, true, true, true, true, true, true, true, true, true, true, false, true, true, true, true, true] ((((((((((((((((((((((Array.replicate 24 false).setIfInBounds 0 true).setIfInBounds 1 true).setIfInBounds 2 true).setIfInBounds 3 true).setIfInBounds 4 true).setIfInBounds 5 true).setIfInBounds 6 true).setIfInBounds 7 true).setIfInBounds 8 true).setIfInBounds 9 true).setIfInBounds 10 true).setIfInBounds 11 true).setIfInBounds 12 true).setIfInBounds 13 true).setIfInBounds 14 true).setIfInBounds 15 true).setIfInBounds 16 true).setIfInBounds 17 true).setIfInBounds 18 true).setIfInBounds 19 true).setIfInBounds 20 true) 21 = true := by kernel_rfl
theorem sb_233_15_22 : softB op_233_15 #[true, true, true, true, true, true, true, true, true, true, true, true, true, true, true, true, true, true, false, true, true, true, true, true] (((((((((((((((((((((((Array.replicate 24 false).setIfInBounds 0 true).setIfInBounds 1 true).setIfInBounds 2 true).setIfInBounds 3 true).setIfInBounds 4 true).setIfInBounds 5 true).setIfInBounds 6 true).setIfInBounds 7 true).setIfInBounds 8 true).setIfInBounds 9 true).setIfInBounds 10 true).setIfInBounds 11 true).setIfInBounds 12 true).setIfInBounds 13 true).setIfInBounds 14 true).setIfInBounds 15 true).setIfInBounds 16 true).setIfInBounds 17 true).setIfInBounds 18 true).setIfInBounds 19 true).setIfInBounds 20 true).setIfInBounds 21 true) 22 = true := by kernel_rfl
theorem sb_233_15_23 : softB op_233_15 #[true, true, true, true, true, true, true, true, true, true, true, true, true, true, true, true, true, true, false, true, true, true, true, true] ((((((((((((((((((((((((Array.replicate 24 false).setIfInBounds 0 true).setIfInBounds 1 true).setIfInBounds 2 true).setIfInBounds 3 true).setIfInBounds 4 true).setIfInBounds 5 true).setIfInBounds 6 true).setIfInBounds 7 true).setIfInBounds 8 true).setIfInBounds 9 true).setIfInBounds 10 true).setIfInBounds 11 true).setIfInBounds 12 true).setIfInBounds 13 true).setIfInBounds 14 true).setIfInBounds 15 true).setIfInBounds 16 true).setIfInBounds 17 true).setIfInBounds 18 true).setIfInBounds 19 true).setIfInBounds 20 true).setIfInBounds 21 true).setIfInBounds 22 true) 23 = true := by kernel_rfl
theorem sb_233_15_24 : hardB op_233_15 (((((((((((((((((((((((((Array.replicate 24 false).setIfInBounds 0 true).setIfInBounds 1 true).setIfInBounds 2 true).setIfInBounds 3 true).setIfInBounds 4 true).setIfInBounds 5 true).setIfInBounds 6 true).setIfInBounds 7 true).setIfInBounds 8 true).setIfInBounds 9 true).setIfInBounds 10 true).setIfInBounds 11 true).setIfInBounds 12 true).setIfInBounds 13 true).setIfInBounds 14 true).setIfInBounds 15 true).setIfInBounds 16 true).setIfInBounds 17 true).setIfInBounds 18 true).setIfInBounds 19 true).setIfInBounds 20 true).setIfInBounds 21 true).setIfInBounds 22 true).setIfInBounds 23 true) [] = true := by kernel_rfl
theorem sb_233_21_0 : softB op_233_21 #[true, true, true, true, true, true, true, true, true, false, true, true, true, true, true] (Array.replicate 15 false) 0 = true := by kernel_rfl
theorem sb_233_21_1 : softB op_233_21 #[true, true, true, true, true, true, true, true, true, false, true, true, true, true, true] ((Array.replicate 15 false).setIfInBounds 0 true) 1 = true := by kernel_rfl
theorem sb_233_21_2 : softB op_233_21 #[true, true, true, true, true, true, true, true, true, false, true, true, true, true, true] (((Array.replicate 15 false).setIfInBounds 0 true).setIfInBounds 1 true) 2 = true := by kernel_rfl
theorem sb_233_21_3 : softB op_233_21 #[true, true, true, true, true, true, true, true, true, false, true, true, true, true, true] ((((Array.replicate 15 false).setIfInBounds 0 true).setIfInBounds 1 true).setIfInBounds 2 true) 3 = true := by kernel_rfl
theorem sb_233_21_4 : softB op_233_21 #[true, true, true, true, true, true, true, true, true, false, true, true, true, true, true] (((((Array.replicate 15 false).setIfInBounds 0 true).setIfInBounds 1 true).setIfInBounds 2 true).setIfInBounds 3 true) 4 = true := by kernel_rfl
theorem sb_233_21_5 : softB op_233_21 #[true, true, true, true, true, true, true, true, true, false, true, true, true, true, true] ((((((Array.replicate 15 false).setIfInBounds 0 true).setIfInBounds 1 true).setIfInBounds 2 true).setIfInBounds 3 true).setIfInBounds 4 true) 5 = true := by kernel_rfl
theorem sb_233_21_6 : softB op_233_21 #[true, true, true, true, true, true, true, true, true, false, true, true, true, true, true] (((((((Array.replicate 15 false).setIfInBounds 0 true).setIfInBounds 1 true).setIfInBounds 2 true).setIfInBounds 3 true).setIfInBounds 4 true).setIfInBounds 5 true) 6 = true := by kernel_rfl
theorem sb_233_21_7 : softB op_233_21 #[true, true, true, true, true, true, true, true, true, false, true, true, true, true, true] ((((((((Array.replicate 15 false).setIfInBounds 0 true).setIfInBounds 1 true).setIfInBounds 2 true).setIfInBounds 3 true).setIfInBounds 4 true).setIfInBounds 5 true).setIfInBounds 6 true) 7 = true := by kernel_rfl
theorem sb_233_21_8 : softB op_233_21 #[true, true, true, true, true, true, true, true, true, false, true, true, true, true, true] (((((((((Array.replicate 15 false).setIfInBounds 0 true).setIfInBounds 1 true).setIfInBounds 2 true).setIfInBounds 3 true).setIfInBounds 4 true).setIfInBounds 5 true).setIfInBounds 6 true).setIfInBounds 7 true) 8 = true := by kernel_rfl
theorem sb_233_21_9 : hardB op_233_21 ((((((((((Array.replicate 15 false).setIfInBounds 0 true).setIfInBounds 1 true).setIfInBounds 2 true).setIfInBounds 3 true).setIfInBounds 4 true).setIfInBounds 5 true).setIfInBounds 6 true).setIfInBounds 7 true).setIfInBounds 8 true) [9] = true := by kernel_rfl
theorem sb_233_21_10 : softB op_233_21 #[true, true, true, true, true, true, true, true, true, false, true, true, true, true, true] (((((((((((Array.replicate 15 false).setIfInBounds 0 true).setIfInBounds 1 true).setIfInBounds 2 true).setIfInBounds 3 true).setIfInBounds 4 true).setIfInBounds 5 true).setIfInBounds 6 true).setIfInBounds 7 true).setIfInBounds 8 true).setIfInBounds 9 true) 10 = true := by kernel_rfl
theorem sb_233_21_11 : softB op_233_21 #[true, true, true, true, true, true, true, true, true, false, true, true, true, true, true] ((((((((((((Array.replicate 15 false).setIfInBounds 0 true).setIfInBounds 1 true).setIfInBounds 2 true).setIfInBounds 3 true).setIfInBounds 4 true).setIfInBounds 5 true).setIfInBounds 6 true).setIfInBounds 7 true).setIfInBounds 8 true).setIfInBounds 9 true).setIfInBounds 10 true) 11 = true := by kernel_rfl
theorem sb_233_21_12 : softB op_233_21 #[true, true, true, true, true, true, true, true, true, false, true, true, true, true, true] (((((((((((((Array.replicate 15 false).setIfInBounds 0 true).setIfInBounds 1 true).setIfInBounds 2 true).setIfInBounds 3 true).setIfInBounds 4 true).setIfInBounds 5 true).setIfInBounds 6 true).setIfInBounds 7 true).setIfInBounds 8 true).setIfInBounds 9 true).setIfInBounds 10 true).setIfInBounds 11 true) 12 = true := by kernel_rfl
theorem sb_233_21_13 : softB op_233_21 #[true, true, true, true, true, true, true, true, true, false, true, true, true, true, true] ((((((((((((((Array.replicate 15 false).setIfInBounds 0 true).setIfInBounds 1 true).setIfInBounds 2 true).setIfInBounds 3 true).setIfInBounds 4 true).setIfInBounds 5 true).setIfInBounds 6 true).setIfInBounds 7 true).setIfInBounds 8 true).setIfInBounds 9 true).setIfInBounds 10 true).setIfInBounds 11 true).setIfInBounds 12 true) 13 = true := by kernel_rfl
theorem sb_233_21_14 : softB op_233_21 #[true, true, true, true, true, true, true, true, true, false, true, true, true, true, true] (((((((((((((((Array.replicate 15 false).setIfInBounds 0 true).setIfInBounds 1 true).setIfInBounds 2 true).setIfInBounds 3 true).setIfInBounds 4 true).setIfInBounds 5 true).setIfInBounds 6 true).setIfInBounds 7 true).setIfInBounds 8 true).setIfInBounds 9 true).setIfInBounds 10 true).setIfInBounds 11 true).setIfInBounds 12 true).setIfInBounds 13 true) 14 = true := by kernel_rfl
theorem sb_233_21_15 : hardB op_233_21 ((((((((((((((((Array.replicate 15 false).setIfInBounds 0 true).setIfInBounds 1 true).setIfInBounds 2 true).setIfInBounds 3 true).setIfInBounds 4 true).setIfInBounds 5 true).setIfInBounds 6 true).setIfInBounds 7 true).setIfInBounds 8 true).setIfInBounds 9 true).setIfInBounds 10 true).setIfInBounds 11 true).setIfInBounds 12 true).setIfInBounds 13 true).setIfInBounds 14 true) [] = true := by kernel_rfl
/- api.Merge3 -/
def m233_w1 (n : Nat) (l1 : List Str) (l2 : List Str) (l3 : List Str) (l4 : List Int) (l5 : List Int) (mm : Nat) : Str → Int → Int → Int → Int → Int → Option (Str × Int × Int × Int × Int × Int) := it6 (fun lp1 c1 c2 c3 c4 c5 c6 =>
cond (decide (c6 < (l1.length : Int))) (
ob1 (Option.bind (ixL l4 c6) fun x1 =>
cond (decide ((0 : Int) ≤ x1)) (Option.bind (ixL l5 c6) fun x2 =>
some ((decide ((0 : Int) ≤ x2)))) (some (false))) fun c13 =>
cond c13 (
Option.bind (slL l1 c3 c6) fun l6 =>
Option.bind (ixL l4 c6) fun x3 =>
Option.bind (slL l2 c4 x3) fun l7 =>
Option.bind (ixL l5 c6) fun x4 =>
Option.bind (slL l3 c5 x4) fun l8 =>
ob2 (m282 n l6 l7 l8) fun c14 c15 =>
Option.bind (sAdd c1 c14) fun s1 =>
Option.bind (ixL l1 c6) fun x5 =>
Option.bind (sAdd s1 x5) fun s2 =>
Option.bind (ixL l4 c6) fun x6 =>
Option.bind (ixL l5 c6) fun x7 =>
lp1 s2 (wi (c2 + c15)) (wi (c6 + 1)) (wi (x6 + 1)) (wi (x7 + 1)) (wi (c6 + 1))) (
lp1 c1 c2 c3 c4 c5 (wi (c6 + 1)))) (
some (c1, c2, c3, c4, c5, c6))) mm
def m233 (n : Nat) (base : Str) (ours : Str) (theirs : Str) : Option (Str × Int) :=
ob1 (m185 n base) fun l1 =>
ob1 (m185 n ours) fun l2 =>
ob1 (m185 n theirs) fun l3 =>
ob1 (m257 n l1 l2) fun l4 =>
ob1 (m257 n l1 l3) fun l5 =>
ob6 (m233_w1 n l1 l2 l3 l4 l5 n [] 0 0 0 0 0) fun c7 c8 c9 c10 c11 c12 =>
Option.bind (slL l1 c9 (l1.length : Int)) fun l9 =>
Option.bind (slL l2 c10 (l2.length : Int)) fun l10 =>
Option.bind (slL l3 c11 (l3.length : Int)) fun l11 =>
ob2 (m282 n l9 l10 l11) fun c16 c17 =>
Option.bind (sAdd c7 c16) fun s3 =>
some (s3, (wi (c8 + c17)))
theorem t233 {n : Nat} {C : List Chunk} {rc1 : Str} {rc2 : Int} {base : Str} {ours : Str} {theirs : Str}   (hm : m233 n base ours theirs = some (rc1, rc2)) : Trip Tryz.prog 233 #[.string ⟨(base : Str).toArray⟩, .string ⟨(ours : Str).toArray⟩, .string ⟨(theirs : Str).toArray⟩] ([] ++ [C]) (fun u S' => .tuple #[.string ⟨(rc1 : Str).toArray⟩, .int .i64 rc2] = u ∧ S' = [] ++ [C]) := by
  refine fn_entry (args := [.string ⟨(base : Str).toArray⟩, .string ⟨(ours : Str).toArray⟩, .string ⟨(theirs : Str).toArray⟩]) Tryz.func233 rfl Tryz.ntmps233 rfl (fun w0 => ?_)
  refine c_seq ?_
  refine c_region ?_
  refine o_L (y_assign rfl) rfl rfl ?_
  refine o_L (y_assign rfl) rfl rfl ?_
  refine o_nil0 rfl ?_
  refine c_seq ?_
  refine c_region ?_
  refine o_T (y_move rfl) rfl ?_
  obtain ⟨l1, hx1, hm⟩ := bd1 hm
  refine o_callC en_185 rfl s_nil (t185 hx1) rfl (fun u1 S1 hR1 => ?_)
  obtain ⟨v1, g1, rfl, rfl, ho1⟩ := hR1
  refine o_rest ?_
  refine o_L (y_assign rfl) rfl rfl ?_
  refine o_nil0 rfl ?_
  refine c_seq ?_
  refine c_region ?_
  refine o_T (y_move rfl) rfl ?_
  obtain ⟨l2, hx2, hm⟩ := bd1 hm
  refine o_callC en_185 rfl s_nil (t185 hx2) rfl (fun u2 S2 hR2 => ?_)
  obtain ⟨v2, g2, rfl, rfl, ho2⟩ := hR2
  refine o_rest ?_
  refine o_L (y_assign rfl) rfl rfl ?_
  refine o_nil0 rfl ?_
  refine c_seq ?_
  refine c_region ?_
  refine o_T (y_move rfl) rfl ?_
  obtain ⟨l3, hx3, hm⟩ := bd1 hm
  refine o_callC en_185 rfl s_nil (t185 hx3) rfl (fun u3 S3 hR3 => ?_)
  obtain ⟨v3, g3, rfl, rfl, ho3⟩ := hR3
  refine o_rest ?_
  refine o_L (y_assign rfl) rfl rfl ?_
  refine o_nil0 rfl ?_
  refine c_seq ?_
  refine c_region ?_
  refine o_T (y_move rfl) rfl ?_
  refine o_T (y_move rfl) rfl ?_
  obtain ⟨l4, hx4, hm⟩ := bd1 hm
  refine o_callC en_257 rfl s_nil (t257 (ho1.rd.mono (fun _ hz => (ms (ms (mg hz))))) (ho2.rd.mono (fun _ hz => (ms (mg hz)))) hx4) rfl (fun u4 S4 hR4 => ?_)
  obtain ⟨v4, g4, rfl, rfl, ho4⟩ := hR4
  refine o_rest ?_
  refine o_L (y_assign rfl) rfl rfl ?_
  refine o_nil0 rfl ?_
  refine c_seq ?_
  refine c_region ?_
  refine o_T (y_move rfl) rfl ?_
  refine o_T (y_move rfl) rfl ?_
  obtain ⟨l5, hx5, hm⟩ := bd1 hm
  refine o_callC en_257 rfl s_nil (t257 (ho1.rd.mono (fun _ hz => (ms (ms (ms (mg hz)))))) (ho3.rd.mono (fun _ hz => (ms (mg hz)))) hx5) rfl (fun u5 S5 hR5 => ?_)
  obtain ⟨v5, g5, rfl, rfl, ho5⟩ := hR5
  refine o_rest ?_
  refine o_L (y_assign rfl) rfl rfl ?_
  refine o_nil0 rfl ?_
  refine c_seq ?_
  refine c_region ?_
  refine o_L (y_assign rfl) rfl rfl ?_
  refine o_nil0 rfl ?_
  refine c_seq ?_
  refine c_region ?_
  refine o_L (y_assign rfl) rfl rfl ?_
  refine o_nil0 rfl ?_
  refine c_seq ?_
  refine c_region ?_
  refine o_L (y_assign rfl) rfl rfl ?_
  refine o_nil0 rfl ?_
  refine c_seq ?_
  refine c_region ?_
  refine o_L (y_assign rfl) rfl rfl ?_
  refine o_nil0 rfl ?_
  refine c_seq ?_
  refine c_region ?_
  refine o_L (y_assign rfl) rfl rfl ?_
  refine o_nil0 rfl ?_
  refine c_seq ?_
  refine c_seq ?_
  refine c_region ?_
  refine o_L (y_assign rfl) rfl rfl ?_
  refine o_nil0 rfl ?_
  obtain ⟨c7, c8, c9, c10, c11, c12, hj1, hm⟩ := bd6 hm
  refine c_joinP (n := 0) (fun sh G => sh = [(13, .string ⟨(c7 : Str).toArray⟩), (14, .int .i64 c8), (15, .int .i64 c9), (16, .int .i64 c10), (17, .int .i64 c11), (18, .int .i64 c12)] ∧ G = []) (s_take (s_take (s_take (s_take (s_take (s_take s_nil)))))) .z (fun _ _ h => h) ?_ ?_
  · skip
    refine c_block ?_
    refine c_loopP (n := 0) (fun mm sh G => ∃ (c1 : Str), ∃ (c2 : Int), ∃ (c3 : Int), ∃ (c4 : Int), ∃ (c5 : Int), ∃ (c6 : Int), sh = [(13, .string ⟨(c1 : Str).toArray⟩), (14, .int .i64 c2), (15, .int .i64 c3), (16, .int .i64 c4), (17, .int .i64 c5), (18, .int .i64 c6)] ∧ G = [] ∧ m233_w1 n l1 l2 l3 l4 l5 mm c1 c2 c3 c4 c5 c6 = some (c7, c8, c9, c10, c11, c12)) n (s_take (s_take (s_take (s_take (s_take (s_take s_nil)))))) .z ⟨_, _, ⟨_, _, _, _, _, _, rfl, rfl, hj1⟩, ⟨rfl, rfl, rfl, rfl, rfl, rfl, trivial⟩, _, (s_take (s_take (s_take (s_take (s_take (s_take s_nil))))))⟩ ?_
    rintro mm sh G ⟨c1, c2, c3, c4, c5, c6, rfl, rfl, hm⟩
    obtain ⟨mm1, rfl, hm⟩ := it6_s hm
    refine c_seq ?_
    refine c_seq ?_
    refine c_region ?_
    refine o_T (y_move rfl) rfl ?_
    refine o_T (y_move rfl) rfl ?_
    refine o_T (y_lenR ho1.rd Tryz.underlying185 rfl) rfl ?_
    refine o_T (y_lss rfl rfl) rfl ?_
    refine o_nil1 38 rfl rfl ?_
    refine c_cond rfl (fun h1 => ?_) (fun h1 => ?_)
    · have hm := cd_t h1 hm
      refine c_skip ?_
      refine c_seq ?_
      refine c_block ?_
      refine c_seq ?_
      obtain ⟨c13, hj2, hm⟩ := bd1 hm
      refine c_joinP (n := 0) (fun sh G => sh = [(52, .bool c13)] ∧ G = []) Sel.all' .z (fun _ _ h => h) ?_ ?_
      · have hm := hj2
        refine c_region ?_
        refine o_T (y_move rfl) rfl ?_
        refine o_T (y_move rfl) rfl ?_
        obtain ⟨x1, hx6, hm⟩ := bd hm
        obtain ⟨b1, w1, cs1, y1, z1, vs1, hc1, ha1, hr1, hy1⟩ := ho4.rd.ix hx6
        obtain rfl : vs1 = (encI x1) := hr1
        refine o_T (hy1 sl_65 rfl rfl rfl) rfl ?_
        refine o_ld one_3 rfl (ms (mg hc1)) (At.getA (ha1)) rfl ?_
        refine o_T (y_geq rfl rfl) rfl ?_
        refine o_T (y_move rfl) rfl ?_
        refine o_split 46 rfl (fun h2 => ?_) (fun h2 => ?_)
        · have hm := cd_t h2 hm
          refine o_take rfl rfl rfl ?_
          refine o_T (y_move rfl) rfl ?_
          refine o_take rfl rfl rfl ?_
          refine o_T (y_move rfl) rfl ?_
          refine o_take rfl rfl rfl ?_
          obtain ⟨x2, hx7, hm⟩ := bd hm
          obtain ⟨b2, w2, cs2, y2, z2, vs2, hc2, ha2, hr2, hy2⟩ := ho5.rd.ix hx7
          obtain rfl : vs2 = (encI x2) := hr2
          refine o_T (hy2 sl_65 rfl rfl rfl) rfl ?_
          refine o_take rfl rfl rfl ?_
          refine o_ld one_3 rfl (mg hc2) (At.getA (ha2)) rfl ?_
          refine o_take rfl rfl rfl ?_
          refine o_T (y_geq rfl rfl) rfl ?_
          refine o_T (y_pickT rfl rfl) rfl ?_
          refine o_nil1 52 rfl rfl ?_
          obtain rfl := p1 hm
          exact ⟨_, _, ⟨rfl, rfl⟩, ⟨rfl, trivial⟩, ⟨rfl, rfl⟩, _, (s_take (s_take (s_take (s_take (s_take (s_take s_nil))))))⟩
        · have hm := cd_f h2 hm
          refine o_pass rfl rfl rfl rfl rfl ?_
          refine o_pass rfl rfl rfl rfl rfl ?_
          refine o_pass rfl rfl rfl rfl rfl ?_
          refine o_pass rfl rfl rfl rfl rfl ?_
          refine o_pass rfl rfl rfl rfl rfl ?_
          refine o_T (y_pickF rfl rfl) rfl ?_
          refine o_nil1 52 rfl rfl ?_
          obtain rfl := p1 hm
          exact ⟨_, _, ⟨rfl, rfl⟩, ⟨rfl, trivial⟩, ⟨rfl, rfl⟩, _, (s_take (s_take (s_take (s_take (s_take (s_take s_nil))))))⟩
      · rintro sh G ⟨rfl, rfl⟩
        refine c_cond rfl (fun h3 => ?_) (fun h3 => ?_)
        · have hm := cd_t h3 hm
          refine c_seq ?_
          refine c_draw #[true, true, true, true, true, true, true, true, true, true, true, true, true, true, true, true, true, true, false, true, true, true, true, true] rfl (n := 24) rfl ?_
          refine d_T 0 rfl sb_233_15_0 rfl (y_move rfl) rfl ?_
          refine d_T 1 rfl sb_233_15_1 rfl (y_move rfl) rfl ?_
          refine d_T 2 rfl sb_233_15_2 rfl (y_move rfl) rfl ?_
          obtain ⟨l6, hx8, hm⟩ := bd hm
          obtain ⟨v6, hr3, hy3⟩ := ho1.rd.sl hx8
          refine d_T 3 rfl sb_233_15_3 rfl (hy3 sl_185 rfl rfl (biS rfl) (biS rfl)) rfl ?_
          refine d_T 4 rfl sb_233_15_4 rfl (y_move rfl) rfl ?_
          refine d_T 5 rfl sb_233_15_5 rfl (y_move rfl) rfl ?_
          refine d_T 6 rfl sb_233_15_6 rfl (y_move rfl) rfl ?_
          refine d_T 7 rfl sb_233_15_7 rfl (y_move rfl) rfl ?_
          obtain ⟨x3, hx9, hm⟩ := bd hm
          obtain ⟨b3, w3, cs3, y3, z3, vs3, hc3, ha3, hr4, hy4⟩ := ho4.rd.ix hx9
          obtain rfl : vs3 = (encI x3) := hr4
          refine d_T 8 rfl sb_233_15_8 rfl (hy4 sl_65 rfl rfl rfl) rfl ?_
          refine d_ld 9 rfl sb_233_15_9 one_3 rfl (fun x hx => hx) (ms (mg hc3)) (At.getA (ha3)) rfl ?_
          obtain ⟨l7, hx10, hm⟩ := bd hm
          obtain ⟨v7, hr5, hy5⟩ := ho2.rd.sl hx10
          refine d_T 10 rfl sb_233_15_10 rfl (hy5 sl_185 rfl rfl (biS rfl) (biS rfl)) rfl ?_
          refine d_T 11 rfl sb_233_15_11 rfl (y_move rfl) rfl ?_
          refine d_T 12 rfl sb_233_15_12 rfl (y_move rfl) rfl ?_
          refine d_T 13 rfl sb_233_15_13 rfl (y_move rfl) rfl ?_
          refine d_T 14 rfl sb_233_15_14 rfl (y_move rfl) rfl ?_
          obtain ⟨x4, hx11, hm⟩ := bd hm
          obtain ⟨b4, w4, cs4, y4, z4, vs4, hc4, ha4, hr6, hy6⟩ := ho5.rd.ix hx11
          obtain rfl : vs4 = (encI x4) := hr6
          refine d_T 15 rfl sb_233_15_15 rfl (hy6 sl_65 rfl rfl rfl) rfl ?_
          refine d_ld 16 rfl sb_233_15_16 one_3 rfl (fun x hx => hx) (mg hc4) (At.getA (ha4)) rfl ?_
          obtain ⟨l8, hx12, hm⟩ := bd hm
          obtain ⟨v8, hr7, hy7⟩ := ho3.rd.sl hx12
          refine d_T 17 rfl sb_233_15_17 rfl (hy7 sl_185 rfl rfl (biS rfl) (biS rfl)) rfl ?_
          refine d_hard 18 rfl sb_233_15_18 ?_
          obtain ⟨c14, c15, hx13, hm⟩ := bd2 hm
          refine o_callC en_282 rfl s_nil (t282 (hr3.mono (fun _ hz => (ms (ms (ms (ms (mg hz))))))) (hr5.mono (fun _ hz => (ms (ms (ms (mg hz)))))) (hr7.mono (fun _ hz => (ms (ms (mg hz))))) hx13) rfl (fun u6 S6 hR6 => ?_)
          obtain ⟨rfl, rfl⟩ := hR6
          refine o_rest ?_
          refine o_stop (fun h => nomatch h) ?_
          refine d_T 19 rfl sb_233_15_19 rfl (y_move rfl) rfl ?_
          refine d_T 20 rfl sb_233_15_20 rfl (y_extract rfl rfl) rfl ?_
          refine d_T 21 rfl sb_233_15_21 rfl (y_extract rfl rfl) rfl ?_
          refine d_L 22 rfl sb_233_15_22 rfl (y_assign rfl) rfl rfl ?_
          refine d_L 23 rfl sb_233_15_23 rfl (y_assign rfl) rfl rfl ?_
          refine d_nil0 sb_233_15_24 rfl ?_
          refine c_seq ?_
          refine c_region ?_
          refine o_T (y_move rfl) rfl ?_
          refine o_T (y_move rfl) rfl ?_
          obtain ⟨s1, hx14, hm⟩ := bd hm
          refine o_T (y_sadd rfl rfl hx14) rfl ?_
          refine o_T (y_move rfl) rfl ?_
          refine o_T (y_move rfl) rfl ?_
          obtain ⟨x5, hx15, hm⟩ := bd hm
          obtain ⟨b5, w5, cs5, y5, z5, vs5, hc5, ha5, hr8, hy8⟩ := ho1.rd.ix hx15
          obtain rfl : vs5 = (encS x5) := hr8
          refine o_T (hy8 sl_185 rfl rfl rfl) rfl ?_
          refine o_ld one_9 rfl (ms (ms (ms (ms (mg hc5))))) (At.getA (ha5)) rfl ?_
          obtain ⟨s2, hx16, hm⟩ := bd hm
          refine o_T (y_sadd rfl rfl hx16) rfl ?_
          refine o_L (y_assign rfl) rfl rfl ?_
          refine o_nil0 rfl ?_
          refine c_seq ?_
          refine c_region ?_
          refine o_T (y_move rfl) rfl ?_
          refine o_T (y_move rfl) rfl ?_
          refine o_T (y_add rfl rfl rfl) rfl ?_
          refine o_L (y_assign rfl) rfl rfl ?_
          refine o_nil0 rfl ?_
          refine c_seq ?_
          refine c_region ?_
          refine o_T (y_move rfl) rfl ?_
          refine o_T (y_add rfl rfl rfl) rfl ?_
          refine o_L (y_assign rfl) rfl rfl ?_
          refine o_nil0 rfl ?_
          refine c_seq ?_
          refine c_region ?_
          refine o_T (y_move rfl) rfl ?_
          refine o_T (y_move rfl) rfl ?_
          obtain ⟨x6, hx17, hm⟩ := bd hm
          obtain ⟨b6, w6, cs6, y6, z6, vs6, hc6, ha6, hr9, hy9⟩ := ho4.rd.ix hx17
          obtain rfl : vs6 = (encI x6) := hr9
          refine o_T (hy9 sl_65 rfl rfl rfl) rfl ?_
          refine o_ld one_3 rfl (ms (mg hc6)) (At.getA (ha6)) rfl ?_
          refine o_T (y_add rfl rfl rfl) rfl ?_
          refine o_L (y_assign rfl) rfl rfl ?_
          refine o_nil0 rfl ?_
          refine c_region ?_
          refine o_T (y_move rfl) rfl ?_
          refine o_T (y_move rfl) rfl ?_
          obtain ⟨x7, hx18, hm⟩ := bd hm
          obtain ⟨b7, w7, cs7, y7, z7, vs7, hc7, ha7, hr10, hy10⟩ := ho5.rd.ix hx18
          obtain rfl : vs7 = (encI x7) := hr10
          refine o_T (hy10 sl_65 rfl rfl rfl) rfl ?_
          refine o_ld one_3 rfl (mg hc7) (At.getA (ha7)) rfl ?_
          refine o_T (y_add rfl rfl rfl) rfl ?_
          refine o_L (y_assign rfl) rfl rfl ?_
          refine o_nil0 rfl ?_
          refine c_region ?_
          refine o_T (y_move rfl) rfl ?_
          refine o_T (y_add rfl rfl rfl) rfl ?_
          refine o_L (y_assign rfl) rfl rfl ?_
          refine o_nil0 rfl ?_
          exact ⟨mm1, Nat.lt_succ_self _, _, _, ⟨_, _, _, _, _, _, rfl, rfl, hm⟩, ⟨rfl, rfl, rfl, rfl, rfl, rfl, trivial⟩, ⟨rfl, rfl⟩, _, (s_take (s_take (s_take (s_take (s_take (s_take s_nil))))))⟩
        · have hm := cd_f h3 hm
          refine c_skip ?_
          refine c_region ?_
          refine o_T (y_move rfl) rfl ?_
          refine o_T (y_add rfl rfl rfl) rfl ?_
          refine o_L (y_assign rfl) rfl rfl ?_
          refine o_nil0 rfl ?_
          exact ⟨mm1, Nat.lt_succ_self _, _, _, ⟨_, _, _, _, _, _, rfl, rfl, hm⟩, ⟨rfl, rfl, rfl, rfl, rfl, rfl, trivial⟩, ⟨rfl, rfl⟩, _, (s_take (s_take (s_take (s_take (s_take (s_take s_nil))))))⟩
    · have hm := cd_f h1 hm
      refine c_exit ?_
      obtain ⟨rfl, rfl, rfl, rfl, rfl, rfl⟩ := pr6 hm
      exact ⟨_, _, ⟨rfl, rfl⟩, ⟨rfl, rfl, rfl, rfl, rfl, rfl, trivial⟩, ⟨rfl, rfl⟩, _, (s_take (s_take (s_take (s_take (s_take (s_take s_nil))))))⟩
  · rintro sh G ⟨rfl, rfl⟩
    refine c_seq ?_
    refine c_draw #[true, true, true, true, true, true, true, true, true, false, true, true, true, true, true] rfl (n := 15) rfl ?_
    refine d_T 0 rfl sb_233_21_0 rfl (y_move rfl) rfl ?_
    refine d_T 1 rfl sb_233_21_1 rfl (y_move rfl) rfl ?_
    obtain ⟨l9, hx19, hm⟩ := bd hm
    obtain ⟨v9, hr11, hy11⟩ := ho1.rd.sl hx19
    refine d_T 2 rfl sb_233_21_2 rfl (hy11 sl_185 rfl rfl (biS rfl) biN) rfl ?_
    refine d_T 3 rfl sb_233_21_3 rfl (y_move rfl) rfl ?_
    refine d_T 4 rfl sb_233_21_4 rfl (y_move rfl) rfl ?_
    obtain ⟨l10, hx20, hm⟩ := bd hm
    obtain ⟨v10, hr12, hy12⟩ := ho2.rd.sl hx20
    refine d_T 5 rfl sb_233_21_5 rfl (hy12 sl_185 rfl rfl (biS rfl) biN) rfl ?_
    refine d_T 6 rfl sb_233_21_6 rfl (y_move rfl) rfl ?_
    refine d_T 7 rfl sb_233_21_7 rfl (y_move rfl) rfl ?_
    obtain ⟨l11, hx21, hm⟩ := bd hm
    obtain ⟨v11, hr13, hy13⟩ := ho3.rd.sl hx21
    refine d_T 8 rfl sb_233_21_8 rfl (hy13 sl_185 rfl rfl (biS rfl) biN) rfl ?_
    refine d_hard 9 rfl sb_233_21_9 ?_
    obtain ⟨c16, c17, hx22, hm⟩ := bd2 hm
    refine o_callC en_282 rfl s_nil (t282 (hr11.mono (fun _ hz => (ms (ms (ms (ms (mg hz))))))) (hr12.mono (fun _ hz => (ms (ms (ms (mg hz)))))) (hr13.mono (fun _ hz => (ms (ms (mg hz))))) hx22) rfl (fun u7 S7 hR7 => ?_)
    obtain ⟨rfl, rfl⟩ := hR7
    refine o_rest ?_
    refine o_stop (fun h => nomatch h) ?_
    refine d_T 10 rfl sb_233_21_10 rfl (y_move rfl) rfl ?_
    refine d_T 11 rfl sb_233_21_11 rfl (y_extract rfl rfl) rfl ?_
    refine d_T 12 rfl sb_233_21_12 rfl (y_extract rfl rfl) rfl ?_
    refine d_L 13 rfl sb_233_21_13 rfl (y_assign rfl) rfl rfl ?_
    refine d_L 14 rfl sb_233_21_14 rfl (y_assign rfl) rfl rfl ?_
    refine d_nil0 sb_233_21_15 rfl ?_
    refine c_seq ?_
    refine c_region ?_
    refine o_T (y_move rfl) rfl ?_
    refine o_T (y_move rfl) rfl ?_
    obtain ⟨s3, hx23, hm⟩ := bd hm
    refine o_T (y_sadd rfl rfl hx23) rfl ?_
    refine o_T (y_move rfl) rfl ?_
    refine o_T (y_move rfl) rfl ?_
    refine o_T (y_add rfl rfl rfl) rfl ?_
    refine o_L (y_assign rfl) rfl rfl ?_
    refine o_L (y_assign rfl) rfl rfl ?_
    refine o_nil0 rfl ?_
    refine c_ret ?_
    obtain ⟨rfl, rfl⟩ := pr2 hm
    refine fun aX wX heX hsX => ret2 Tryz.results233 heX rfl rfl (s_skip (s_skip (s_skip (s_skip (s_skip (s_take s_nil)))))) ?_
    exact ⟨rfl, rfl⟩
end Go.Proofs.Qxb6500350aGreat
