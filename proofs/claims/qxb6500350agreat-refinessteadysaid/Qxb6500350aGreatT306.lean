/- MADE BY PROGRAM (tools350/mir.py): mirror and walk. -/
import Derived.Test.Qxb6500350aGreatF2
import Derived.Test.Qxb6500350aGreatT194
import Derived.Test.Qxb6500350aGreatT195
set_option linter.unusedVariables false
set_option linter.unusedSimpArgs false
set_option maxRecDepth 20000
set_option maxHeartbeats 4000000
namespace Go.Proofs.Qxb6500350aGreat
open Go.Eng

def op_306_9 : Array Go.Oper := #[{ dst := some 42, op := Go.Op.move (Go.Operand.tmp 0), type := 29, pos := "walk.go:90", after := #[], guard := none }, { dst := some 43, op := Go.Op.move (Go.Operand.tmp 14), type := 209, pos := "walk.go:90", after := #[], guard := none }, { dst := some 44, op := Go.Op.move (Go.Operand.tmp 15), type := 3, pos := "walk.go:90", after := #[], guard := none }, { dst := some 45, op := Go.Op.indexAddr 209 (Go.Operand.tmp 43) (Go.Operand.tmp 44), type := 0, pos := "walk.go:90", after := #[{ on := 1, ground := Go.Ground.data }, { on := 2, ground := Go.Ground.data }], guard := none }, { dst := some 46, op := Go.Op.fieldAddr 213 (Go.Operand.tmp 45) 2, type := 0, pos := "walk.go:90", after := #[{ on := 3, ground := Go.Ground.data }], guard := none }, { dst := some 47, op := Go.Op.load 3 (Go.Operand.tmp 46), type := 3, pos := "walk.go:90", after := #[{ on := 4, ground := Go.Ground.data }], guard := none }, { dst := some 48, op := Go.Op.move (Go.Operand.tmp 2), type := 9, pos := "walk.go:90", after := #[], guard := none }, { dst := some 49, op := Go.Op.move (Go.Operand.tmp 14), type := 209, pos := "walk.go:90", after := #[], guard := none }, { dst := some 50, op := Go.Op.move (Go.Operand.tmp 15), type := 3, pos := "walk.go:90", after := #[], guard := none }, { dst := some 51, op := Go.Op.indexAddr 209 (Go.Operand.tmp 49) (Go.Operand.tmp 50), type := 0, pos := "walk.go:90", after := #[{ on := 7, ground := Go.Ground.data }, { on := 8, ground := Go.Ground.data }], guard := none }, { dst := some 52, op := Go.Op.fieldAddr 213 (Go.Operand.tmp 51) 3, type := 0, pos := "walk.go:90", after := #[{ on := 9, ground := Go.Ground.data }], guard := none }, { dst := some 53, op := Go.Op.load 9 (Go.Operand.tmp 52), type := 9, pos := "walk.go:90", after := #[{ on := 10, ground := Go.Ground.data }], guard := none }, { dst := some 54, op := Go.Op.binOp Go.BinOp.add 9 (Go.Operand.tmp 48) (Go.Operand.tmp 53) 9, type := 9, pos := "walk.go:90", after := #[{ on := 6, ground := Go.Ground.data }, { on := 11, ground := Go.Ground.data }], guard := none }, { dst := some 55, op := Go.Op.binOp Go.BinOp.add 9 (Go.Operand.tmp 54) (Go.Operand.const (Go.Value.string { data := #[47] })) 9, type := 9, pos := "walk.go:90", after := #[{ on := 12, ground := Go.Ground.data }], guard := none }, { dst := some 56, op := Go.Op.move (Go.Operand.tmp 3), type := 3, pos := "walk.go:90", after := #[], guard := none }, { dst := some 57, op := Go.Op.binOp Go.BinOp.sub 3 (Go.Operand.tmp 56) (Go.Operand.const (Go.Value.int Go.IntKind.i64 1)) 3, type := 3, pos := "walk.go:90", after := #[{ on := 14, ground := Go.Ground.data }], guard := none }, { dst := some 58, op := Go.Op.move (Go.Operand.tmp 4), type := 277, pos := "walk.go:90", after := #[], guard := none }, { dst := some 59, op := Go.Op.call { callee := Go.Callee.value (Go.Operand.func 306), args := #[Go.Operand.tmp 42, Go.Operand.tmp 47, Go.Operand.tmp 55, Go.Operand.tmp 57, Go.Operand.tmp 58], argTypes := #[29, 3, 9, 3, 277] }, type := 277, pos := "walk.go:90", after := #[{ on := 0, ground := Go.Ground.data }, { on := 5, ground := Go.Ground.data }, { on := 13, ground := Go.Ground.data }, { on := 15, ground := Go.Ground.data }, { on := 16, ground := Go.Ground.data }], guard := none }, { dst := some 4, op := Go.Op.assign (Go.Operand.tmp 59), type := 277, pos := "walk.go:90", after := #[{ on := 17, ground := Go.Ground.data }, { on := 17, ground := Go.Ground.chain }, { on := 0, ground := Go.Ground.phase }, { on := 1, ground := Go.Ground.phase }, { on := 2, ground := Go.Ground.phase }, { on := 3, ground := Go.Ground.phase }, { on := 4, ground := Go.Ground.phase }, { on := 5, ground := Go.Ground.phase }, { on := 6, ground := Go.Ground.phase }, { on := 7, ground := Go.Ground.phase }, { on := 8, ground := Go.Ground.phase }, { on := 9, ground := Go.Ground.phase }, { on := 10, ground := Go.Ground.phase }, { on := 11, ground := Go.Ground.phase }, { on := 12, ground := Go.Ground.phase }, { on := 13, ground := Go.Ground.phase }, { on := 14, ground := Go.Ground.phase }, { on := 15, ground := Go.Ground.phase }, { on := 16, ground := Go.Ground.phase }, { on := 17, ground := Go.Ground.phase }], guard := none }]
def op_306_10 : Array Go.Oper := #[{ dst := some 60, op := Go.Op.move (Go.Operand.tmp 4), type := 277, pos := "walk.go:92", after := #[], guard := none }, { dst := some 61, op := Go.Op.move (Go.Operand.tmp 2), type := 9, pos := "walk.go:92", after := #[], guard := none }, { dst := some 62, op := Go.Op.move (Go.Operand.tmp 14), type := 209, pos := "walk.go:92", after := #[], guard := none }, { dst := some 63, op := Go.Op.move (Go.Operand.tmp 15), type := 3, pos := "walk.go:92", after := #[], guard := none }, { dst := some 64, op := Go.Op.indexAddr 209 (Go.Operand.tmp 62) (Go.Operand.tmp 63), type := 0, pos := "walk.go:92", after := #[{ on := 2, ground := Go.Ground.data }, { on := 3, ground := Go.Ground.data }], guard := none }, { dst := some 65, op := Go.Op.fieldAddr 213 (Go.Operand.tmp 64) 3, type := 0, pos := "walk.go:92", after := #[{ on := 4, ground := Go.Ground.data }], guard := none }, { dst := some 66, op := Go.Op.load 9 (Go.Operand.tmp 65), type := 9, pos := "walk.go:92", after := #[{ on := 5, ground := Go.Ground.data }], guard := none }, { dst := some 67, op := Go.Op.binOp Go.BinOp.add 9 (Go.Operand.tmp 61) (Go.Operand.tmp 66) 9, type := 9, pos := "walk.go:92", after := #[{ on := 1, ground := Go.Ground.data }, { on := 6, ground := Go.Ground.data }], guard := none }, { dst := some 68, op := Go.Op.move (Go.Operand.tmp 14), type := 209, pos := "walk.go:92", after := #[], guard := none }, { dst := some 69, op := Go.Op.move (Go.Operand.tmp 15), type := 3, pos := "walk.go:92", after := #[], guard := none }, { dst := some 70, op := Go.Op.indexAddr 209 (Go.Operand.tmp 68) (Go.Operand.tmp 69), type := 0, pos := "walk.go:92", after := #[{ on := 8, ground := Go.Ground.data }, { on := 9, ground := Go.Ground.data }], guard := none }, { dst := some 71, op := Go.Op.fieldAddr 213 (Go.Operand.tmp 70) 2, type := 0, pos := "walk.go:92", after := #[{ on := 10, ground := Go.Ground.data }], guard := none }, { dst := some 72, op := Go.Op.load 3 (Go.Operand.tmp 71), type := 3, pos := "walk.go:92", after := #[{ on := 11, ground := Go.Ground.data }], guard := none }, { dst := some 73, op := Go.Op.move (Go.Operand.tmp 14), type := 209, pos := "walk.go:92", after := #[], guard := none }, { dst := some 74, op := Go.Op.move (Go.Operand.tmp 15), type := 3, pos := "walk.go:92", after := #[], guard := none }, { dst := some 75, op := Go.Op.indexAddr 209 (Go.Operand.tmp 73) (Go.Operand.tmp 74), type := 0, pos := "walk.go:92", after := #[{ on := 13, ground := Go.Ground.data }, { on := 14, ground := Go.Ground.data }], guard := none }, { dst := some 76, op := Go.Op.fieldAddr 213 (Go.Operand.tmp 75) 1, type := 0, pos := "walk.go:92", after := #[{ on := 15, ground := Go.Ground.data }], guard := none }, { dst := some 77, op := Go.Op.load 3 (Go.Operand.tmp 76), type := 3, pos := "walk.go:92", after := #[{ on := 16, ground := Go.Ground.data }], guard := none }, { dst := some 78, op := Go.Op.build 279 #[(0, Go.Operand.tmp 67), (1, Go.Operand.tmp 72), (2, Go.Operand.tmp 77)], type := 279, pos := "walk.go:92", after := #[{ on := 7, ground := Go.Ground.data }, { on := 12, ground := Go.Ground.data }, { on := 17, ground := Go.Ground.data }], guard := none }, { dst := some 79, op := Go.Op.buildSlice 277 1 #[(0, Go.Operand.tmp 78)], type := 277, pos := "walk.go:92", after := #[{ on := 18, ground := Go.Ground.data }], guard := none }, { dst := some 80, op := Go.Op.call { callee := Go.Callee.builtin Go.Builtin.append, args := #[Go.Operand.tmp 60, Go.Operand.tmp 79], argTypes := #[277, 277] }, type := 277, pos := "walk.go:92", after := #[{ on := 0, ground := Go.Ground.data }, { on := 19, ground := Go.Ground.data }], guard := none }, { dst := some 4, op := Go.Op.assign (Go.Operand.tmp 80), type := 277, pos := "walk.go:92", after := #[{ on := 20, ground := Go.Ground.data }, { on := 20, ground := Go.Ground.chain }, { on := 0, ground := Go.Ground.phase }, { on := 1, ground := Go.Ground.phase }, { on := 2, ground := Go.Ground.phase }, { on := 3, ground := Go.Ground.phase }, { on := 4, ground := Go.Ground.phase }, { on := 5, ground := Go.Ground.phase }, { on := 6, ground := Go.Ground.phase }, { on := 7, ground := Go.Ground.phase }, { on := 8, ground := Go.Ground.phase }, { on := 9, ground := Go.Ground.phase }, { on := 10, ground := Go.Ground.phase }, { on := 11, ground := Go.Ground.phase }, { on := 12, ground := Go.Ground.phase }, { on := 13, ground := Go.Ground.phase }, { on := 14, ground := Go.Ground.phase }, { on := 15, ground := Go.Ground.phase }, { on := 16, ground := Go.Ground.phase }, { on := 17, ground := Go.Ground.phase }, { on := 18, ground := Go.Ground.phase }, { on := 19, ground := Go.Ground.phase }, { on := 20, ground := Go.Ground.phase }], guard := none }]
theorem sb_306_9_0 : softB op_306_9 #[true, true, true, true, true, true, true, true, true, true, true, true, true, true, true, true, true, false, true] (Array.replicate 19 false) 0 = true := by kernel_rfl
theorem sb_306_9_1 : softB op_306_9 #[true, true, true, true, true, true, true, true, true, true, true, true, true, true, true, true, true, false, true] ((Array.replicate 19 false).setIfInBounds 0 true) 1 = true := by kernel_rfl
theorem sb_306_9_2 : softB op_306_9 #[true, true, true, true, true, true, true, true, true, true, true, true, true, true, true, true, true, false, true] (((Array.replicate 19 false).setIfInBounds 0 true).setIfInBounds 1 true) 2 = true := by kernel_rfl
theorem sb_306_9_3 : softB op_306_9 #[true, true, true, true, true, true, true, true, true, true, true, true, true, true, true, true, true, false, true] ((((Array.replicate 19 false).setIfInBounds 0 true).setIfInBounds 1 true).setIfInBounds 2 true) 3 = true := by kernel_rfl
theorem sb_306_9_4 : softB op_306_9 #[true, true, true, true, true, true, true, true, true, true, true, true, true, true, true, true, true, false, true] (((((Array.replicate 19 false).setIfInBounds 0 true).setIfInBounds 1 true).setIfInBounds 2 true).setIfInBounds 3 true) 4 = true := by kernel_rfl
theorem sb_306_9_5 : softB op_306_9 #[true, true, true, true, true, true, true, true, true, true, true, true, true, true, true, true, true, false, true] ((((((Array.replicate 19 false).setIfInBounds 0 true).setIfInBounds 1 true).setIfInBounds 2 true).setIfInBounds 3 true).setIfInBounds 4 true) 5 = true := by kernel_rfl
theorem sb_306_9_6 : softB op_306_9 #[true, true, true, true, true, true, true, true, true, true, true, true, true, true, true, true, true, false, true] (((((((Array.replicate 19 false).setIfInBounds 0 true).setIfInBounds 1 true).setIfInBounds 2 true).setIfInBounds 3 true).setIfInBounds 4 true).setIfInBounds 5 true) 6 = true := by kernel_rfl
theorem sb_306_9_7 : softB op_306_9 #[true, true, true, true, true, true, true, true, true, true, true, true, true, true, true, true, true, false, true] ((((((((Array.replicate 19 false).setIfInBounds 0 true).setIfInBounds 1 true).setIfInBounds 2 true).setIfInBounds 3 true).setIfInBounds 4 true).setIfInBounds 5 true).setIfInBounds 6 true) 7 = true := by kernel_rfl
theorem sb_306_9_8 : softB op_306_9 #[true, true, true, true, true, true, true, true, true, true, true, true, true, true, true, true, true, false, true] (((((((((Array.replicate 19 false).setIfInBounds 0 true).setIfInBounds 1 true).setIfInBounds 2 true).setIfInBounds 3 true).setIfInBounds 4 true).setIfInBounds 5 true).setIfInBounds 6 true).setIfInBounds 7 true) 8 = true := by kernel_rfl
theorem sb_306_9_9 : softB op_306_9 #[true, true, true, true, true, true, true, true, true, true, true, true, true, true, true, true, true, false, true] ((((((((((Array.replicate 19 false).setIfInBounds 0 true).setIfInBounds 1 true).setIfInBounds 2 true).setIfInBounds 3 true).setIfInBounds 4 true).setIfInBounds 5 true).setIfInBounds 6 true).setIfInBounds 7 true).setIfInBounds 8 true) 9 = true := by kernel_rfl
theorem sb_306_9_10 : softB op_306_9 #[true, true, true, true, true, true, true, true, true, true, true, true, true, true, true, true, true, false, true] (((((((((((Array.replicate 19 false).setIfInBounds 0 true).setIfInBounds 1 true).setIfInBounds 2 true).setIfInBounds 3 true).setIfInBounds 4 true).setIfInBounds 5 true).setIfInBounds 6 true).setIfInBounds 7 true).setIfInBounds 8 true).setIfInBounds 9 true) 10 = true := by kernel_rfl
theorem sb_306_9_11 : softB op_306_9 #[true, true, true, true, true, true, true, true, true, true, true, true, true, true, true, true, true, false, true] ((((((((((((Array.replicate 19 false).setIfInBounds 0 true).setIfInBounds 1 true).setIfInBounds 2 true).setIfInBounds 3 true).setIfInBounds 4 true).setIfInBounds 5 true).setIfInBounds 6 true).setIfInBounds 7 true).setIfInBounds 8 true).setIfInBounds 9 true).setIfInBounds 10 true) 11 = true := by kernel_rfl
theorem sb_306_9_12 : softB op_306_9 #[true, true, true, true, true, true, true, true, true, true, true, true, true, true, true, true, true, false, true] (((((((((((((Array.replicate 19 false).setIfInBounds 0 true).setIfInBounds 1 true).setIfInBounds 2 true).setIfInBounds 3 true).setIfInBounds 4 true).setIfInBounds 5 true).setIfInBounds 6 true).setIfInBounds 7 true).setIfInBounds 8 true).setIfInBounds 9 true).setIfInBounds 10 true).setIfInBounds 11 true) 12 = true := by kernel_rfl
theorem sb_306_9_13 : softB op_306_9 #[true, true, true, true, true, true, true, true, true, true, true, true, true, true, true, true, true, false, true] ((((((((((((((Array.replicate 19 false).setIfInBounds 0 true).setIfInBounds 1 true).setIfInBounds 2 true).setIfInBounds 3 true).setIfInBounds 4 true).setIfInBounds 5 true).setIfInBounds 6 true).setIfInBounds 7 true).setIfInBounds 8 true).setIfInBounds 9 true).setIfInBounds 10 true).setIfInBounds 11 true).setIfInBounds 12 true) 13 = true := by kernel_rfl
theorem sb_306_9_14 : softB op_306_9 #[true, true, true, true, true, true, true, true, true, true, true, true, true, true, true, true, true, false, true] (((((((((((((((Array.replicate 19 false).setIfInBounds 0 true).setIfInBounds 1 true).setIfInBounds 2 true).setIfInBounds 3 true).setIfInBounds 4 true).setIfInBounds 5 true).setIfInBounds 6 true).setIfInBounds 7 true).setIfInBounds 8 true).setIfInBounds 9 true).setIfInBounds 10 true).setIfInBounds 11 true).setIfInBounds 12 true).setIfInBounds 13 true) 14 = true := by kernel_rfl
theorem sb_306_9_15 : softB op_306_9 #[true, true, true, true, true, true, true, true, true, true, true, true, true, true, true, true, true, false, true] ((((((((((((((((Array.replicate 19 false).setIfInBounds 0 true).setIfInBounds 1 true).setIfInBounds 2 true).setIfInBounds 3 true).setIfInBounds 4 true).setIfInBounds 5 true).setIfInBounds 6 true).setIfInBounds 7 true).setIfInBounds 8 true).setIfInBounds 9 true).setIfInBounds 10 true).setIfInBounds 11 true).setIfInBounds 12 true).setIfInBounds 13 true).setIfInBounds 14 true) 15 = true := by kernel_rfl
theorem sb_306_9_16 : softB op_306_9 #[true, true, true, true, true, true, true, true, true, true, true, true, true, true, true, true, true, false, true] (((((((((((((((((Array.replicate 19 false).setIfInBounds 0 true).setIfInBounds 1 true).setIfInBounds 2 true).setIfInBounds 3 true).setIfInBounds 4 true).setIfInBounds 5 true).setIfInBounds 6 true).setIfInBounds 7 true).setIfInBounds 8 true).setIfInBounds 9 true).setIfInBounds 10 true).setIfInBounds 11 true).setIfInBounds 12 true).setIfInBounds 13 true).setIfInBounds 14 true).setIfInBounds 15 true) 16 = true := by kernel_rfl
theorem sb_306_9_17 : hardB op_306_9 ((((((((((((((((((Array.replicate 19 false).setIfInBounds 0 true).setIfInBounds 1 true).setIfInBounds 2 true).setIfInBounds 3 true).setIfInBounds 4 true).setIfInBounds 5 true).setIfInBounds 6 true).setIfInBounds 7 true).setIfInBounds 8 true).setIfInBounds 9 true).setIfInBounds 10 true).setIfInBounds 11 true).setIfInBounds 12 true).setIfInBounds 13 true).setIfInBounds 14 true).setIfInBounds 15 true).setIfInBounds 16 true) [17] = true := by kernel_rfl
theorem sb_306_9_18 : softB op_306_9 #[true, true, true, true, true, true, true, true, true, true, true, true, true, true, true, true, true, false, true] (((((((((((((((((((Array.replicate 19 false).setIfInBounds 0 true).setIfInBounds 1 true).setIfInBounds 2 true).setIfInBounds 3 true).setIfInBounds 4 true).setIfInBounds 5 true).setIfInBounds 6 true).setIfInBounds 7 true).setIfInBounds 8 true).setIfInBounds 9 true).setIfInBounds 10 true).setIfInBounds 11 true).setIfInBounds 12 true).setIfInBounds 13 true).setIfInBounds 14 true).setIfInBounds 15 true).setIfInBounds 16 true).setIfInBounds 17 true) 18 = true := by kernel_rfl
theorem sb_306_9_19 : hardB op_306_9 ((((((((((((((((((((Array.replicate 19 false).setIfInBounds 0 true).setIfInBounds 1 true).setIfInBounds 2 true).setIfInBounds 3 true).setIfInBounds 4 true).setIfInBounds 5 true).setIfInBounds 6 true).setIfInBounds 7 true).setIfInBounds 8 true).setIfInBounds 9 true).setIfInBounds 10 true).setIfInBounds 11 true).setIfInBounds 12 true).setIfInBounds 13 true).setIfInBounds 14 true).setIfInBounds 15 true).setIfInBounds 16 true).setIfInBounds 17 true).setIfInBounds 18 true) [] = true := by kernel_rfl
theorem sb_306_10_0 : softB op_306_10 #[true, true, true, true, true, true, true, true, true, true, true, true, true, true, true, true, true, true, true, true, false, true] (Array.replicate 22 false) 0 = true := by kernel_rfl
theorem sb_306_10_1 : softB op_306_10 #[true, true, true, true, true, true, true, true, true, true, true, true, true, true, true, true, true, true, true, true, false, true] ((Array.replicate 22 false).setIfInBounds 0 true) 1 = true := by kernel_rfl
theorem sb_306_10_2 : softB op_306_10 #[true, true, true, true, true, true, true, true, true, true, true, true, true, true, true, true, true, true, true, true, false, true] (((Array.replicate 22 false).setIfInBounds 0 true).setIfInBounds 1 true) 2 = true := by kernel_rfl
theorem sb_306_10_3 : softB op_306_10 #[true, true, true, true, true, true, true, true, true, true, true, true, true, true, true, true, true, true, true, true, false, true] ((((Array.replicate 22 false).setIfInBounds 0 true).setIfInBounds 1 true).setIfInBounds 2 true) 3 = true := by kernel_rfl
theorem sb_306_10_4 : softB op_306_10 #[true, true, true, true, true, true, true, true, true, true, true, true, true, true, true, true, true, true, true, true, false, true] (((((Array.replicate 22 false).setIfInBounds 0 true).setIfInBounds 1 true).setIfInBounds 2 true).setIfInBounds 3 true) 4 = true := by kernel_rfl
theorem sb_306_10_5 : softB op_306_10 #[true, true, true, true, true, true, true, true, true, true, true, true, true, true, true, true, true, true, true, true, false, true] ((((((Array.replicate 22 false).setIfInBounds 0 true).setIfInBounds 1 true).setIfInBounds 2 true).setIfInBounds 3 true).setIfInBounds 4 true) 5 = true := by kernel_rfl
theorem sb_306_10_6 : softB op_306_10 #[true, true, true, true, true, true, true, true, true, true, true, true, true, true, true, true, true, true, true, true, false, true] (((((((Array.replicate 22 false).setIfInBounds 0 true).setIfInBounds 1 true).setIfInBounds 2 true).setIfInBounds 3 true).setIfInBounds 4 true).setIfInBounds 5 true) 6 = true := by kernel_rfl
theorem sb_306_10_7 : softB op_306_10 #[true, true, true, true, true, true, true, true, true, true, true, true, true, true, true, true, true, true, true, true, false, true] ((((((((Array.replicate 22 false).setIfInBounds 0 true).setIfInBounds 1 true).setIfInBounds 2 true).setIfInBounds 3 true).setIfInBounds 4 true).setIfInBounds 5 true).setIfInBounds 6 true) 7 = true := by kernel_rfl
theorem sb_306_10_8 : softB op_306_10 #[true, true, true, true, true, true, true, true, true, true, true, true, true, true, true, true, true, true, true, true, false, true] (((((((((Array.replicate 22 false).setIfInBounds 0 true).setIfInBounds 1 true).setIfInBounds 2 true).setIfInBounds 3 true).setIfInBounds 4 true).setIfInBounds 5 true).setIfInBounds 6 true).setIfInBounds 7 true) 8 = true := by kernel_rfl
theorem sb_306_10_9 : softB op_306_10 #[true, true, true, true, true, true, true, true, true, true, true, true, true, true, true, true, true, true, true, true, false, true] ((((((((((Array.replicate 22 false).setIfInBounds 0 true).setIfInBounds 1 true).setIfInBounds 2 true).setIfInBounds 3 true).setIfInBounds 4 true).setIfInBounds 5 true).setIfInBounds 6 true).setIfInBounds 7 true).setIfInBounds 8 true) 9 = true := by kernel_rfl
theorem sb_306_10_10 : softB op_306_10 #[true, true, true, true, true, true, true, true, true, true, true, true, true, true, true, true, true, true, true, true, false, true] (((((((((((Array.replicate 22 false).setIfInBounds 0 true).setIfInBounds 1 true).setIfInBounds 2 true).setIfInBounds 3 true).setIfInBounds 4 true).setIfInBounds 5 true).setIfInBounds 6 true).setIfInBounds 7 true).setIfInBounds 8 true).setIfInBounds 9 true) 10 = true := by kernel_rfl
theorem sb_306_10_11 : softB op_306_10 #[true, true, true, true, true, true, true, true, true, true, true, true, true, true, true, true, true, true, true, true, false, true] ((((((((((((Array.replicate 22 false).setIfInBounds 0 true).setIfInBounds 1 true).setIfInBounds 2 true).setIfInBounds 3 true).setIfInBounds 4 true).setIfInBounds 5 true).setIfInBounds 6 true).setIfInBounds 7 true).setIfInBounds 8 true).setIfInBounds 9 true).setIfInBounds 10 true) 11 = true := by kernel_rfl
theorem sb_306_10_12 : softB op_306_10 #[true, true, true, true, true, true, true, true, true, true, true, true, true, true, true, true, true, true, true, true, false, true] (((((((((((((Array.replicate 22 false).setIfInBounds 0 true).setIfInBounds 1 true).setIfInBounds 2 true).setIfInBounds 3 true).setIfInBounds 4 true).setIfInBounds 5 true).setIfInBounds 6 true).setIfInBounds 7 true).setIfInBounds 8 true).setIfInBounds 9 true).setIfInBounds 10 true).setIfInBounds 11 true) 12 = true := by kernel_rfl
theorem sb_306_10_13 : softB op_306_10 #[true, true, true, true, true, true, true, true, true, true, true, true, true, true, true, true, true, true, true, true, false, true] ((((((((((((((Array.replicate 22 false).setIfInBounds 0 true).setIfInBounds 1 true).setIfInBounds 2 true).setIfInBounds 3 true).setIfInBounds 4 true).setIfInBounds 5 true).setIfInBounds 6 true).setIfInBounds 7 true).setIfInBounds 8 true).setIfInBounds 9 true).setIfInBounds 10 true).setIfInBounds 11 true).setIfInBounds 12 true) 13 = true := by kernel_rfl
theorem sb_306_10_14 : softB op_306_10 #[true, true, true, true, true, true, true, true, true, true, true, true, true, true, true, true, true, true, true, true, false, true] (((((((((((((((Array.replicate 22 false).setIfInBounds 0 true).setIfInBounds 1 true).setIfInBounds 2 true).setIfInBounds 3 true).setIfInBounds 4 true).setIfInBounds 5 true).setIfInBounds 6 true).setIfInBounds 7 true).setIfInBounds 8 true).setIfInBounds 9 true).setIfInBounds 10 true).setIfInBounds 11 true).setIfInBounds 12 true).setIfInBounds 13 true) 14 = true := by kernel_rfl
theorem sb_306_10_15 : softB op_306_10 #[true, true, true, true, true, true, true, true, true, true, true, true, true, true, true, true, true, true, true, true, false, true] ((((((((((((((((Array.replicate 22 false).setIfInBounds 0 true).setIfInBounds 1 true).setIfInBounds 2 true).setIfInBounds 3 true).setIfInBounds 4 true).setIfInBounds 5 true).setIfInBounds 6 true).setIfInBounds 7 true).setIfInBounds 8 true).setIfInBounds 9 true).setIfInBounds 10 true).setIfInBounds 11 true).setIfInBounds 12 true).setIfInBounds 13 true).setIfInBounds 14 true) 15 = true := by kernel_rfl
theorem sb_306_10_16 : softB op_306_10 #[true, true, true, true, true, true, true, true, true, true, true, true, true, true, true, true, true, true, true, true, false, true] (((((((((((((((((Array.replicate 22 false).setIfInBounds 0 true).setIfInBounds 1 true).setIfInBounds 2 true).setIfInBounds 3 true).setIfInBounds 4 true).setIfInBounds 5 true).setIfInBounds 6 true).setIfInBounds 7 true).setIfInBounds 8 true).setIfInBounds 9 true).setIfInBounds 10 true).setIfInBounds 11 true).setIfInBounds 12 true).setIfInBounds 13 true).setIfInBounds 14 true).setIfInBounds 15 true) 16 = true := by kernel_rfl
theorem sb_306_10_17 : softB op_306_10 #[true, true, true, true, true, true, true, true, true, true, true, true, true, true, true, true, true, true, true, true, false, true] ((((((((((((((((((Array.replicate 22 false).setIfInBounds 0 true).setIfInBounds 1 true).setIfInBounds 2 true).setIfInBounds 3 true).setIfInBounds 4 true).setIfInBounds 5 true).setIfInBounds 6 true).setIfInBounds 7 true).setIfInBounds 8 true).setIfInBounds 9 true).setIfInBounds 10 true).setIfInBounds 11 true).setIfInBounds 12 true).setIfInBounds 13 true).setIfInBounds 14 true).setIfInBounds 15 true).setIfInBounds 16 true) 17 = true := by kernel_rfl
theorem sb_306_10_18 : softB op_306_10 #[true, true, true, true, true, true, true, true, true, true, true, true, true, true, true, true, true, true, true, true, false, true] (((((((((((((((((((Array.replicate 22 false).setIfInBounds 0 true).setIfInBounds 1 true).setIfInBounds 2 true).setIfInBounds 3 true).setIfInBounds 4 true).setIfInBounds 5 true).setIfInBounds 6 true).setIfInBounds 7 true).setIfInBounds 8 true).setIfInBounds 9 true).setIfInBounds 10 true).setIfInBounds 11 true).setIfInBounds 12 true).setIfInBounds 13 true).setIfInBounds 14 true).setIfInBounds 15 true).setIfInBounds 16 true).setIfInBounds 17 true) 18 = true := by kernel_rfl
theorem sb_306_10_19 : hardB op_306_10 ((((((((((((((((((((Array.replicate 22 false).setIfInBounds 0 true).setIfInBounds 1 true).setIfInBounds 2 true).setIfInBounds 3 true).setIfInBounds 4 true).setIfInBounds 5 true).setIfInBounds 6 true).setIfInBounds 7 true).setIfInBounds 8 true).setIfInBounds 9 true).setIfInBounds 10 true).setIfInBounds 11 true).setIfInBounds 12 true).setIfInBounds 13 true).setIfInBounds 14 true).setIfInBounds 15 true).setIfInBounds 16 true).setIfInBounds 17 true).setIfInBounds 18 true) [19] = true := by kernel_rfl
theorem sb_306_10_20 : hardB op_306_10 (((((((((((((((((((((Array.replicate 22 false).setIfInBounds 0 true).setIfInBounds 1 true).setIfInBounds 2 true).setIfInBounds 3 true).setIfInBounds 4 true).setIfInBounds 5 true).setIfInBounds 6 true).setIfInBounds 7 true).setIfInBounds 8 true).setIfInBounds 9 true).setIfInBounds 10 true).setIfInBounds 11 true).setIfInBounds 12 true).setIfInBounds 13 true).setIfInBounds 14 true).setIfInBounds 15 true).setIfInBounds 16 true).setIfInBounds 17 true).setIfInBounds 18 true).setIfInBounds 19 true) [20] = true := by kernel_rfl
theorem sb_306_10_21 : softB op_306_10 #[true, true, true, true, true, true, true, true, true, true, true, true, true, true, true, true, true, true, true, true, false, true] ((((((((((((((((((((((Array.replicate 22 false).setIfInBounds 0 true).setIfInBounds 1 true).setIfInBounds 2 true).setIfInBounds 3 true).setIfInBounds 4 true).setIfInBounds 5 true).setIfInBounds 6 true).setIfInBounds 7 true).setIfInBounds 8 true).setIfInBounds 9 true).setIfInBounds 10 true).setIfInBounds 11 true).setIfInBounds 12 true).setIfInBounds 13 true).setIfInBounds 14 true).setIfInBounds 15 true).setIfInBounds 16 true).setIfInBounds 17 true).setIfInBounds 18 true).setIfInBounds 19 true).setIfInBounds 20 true) 21 = true := by kernel_rfl
theorem sb_306_10_22 : hardB op_306_10 (((((((((((((((((((((((Array.replicate 22 false).setIfInBounds 0 true).setIfInBounds 1 true).setIfInBounds 2 true).setIfInBounds 3 true).setIfInBounds 4 true).setIfInBounds 5 true).setIfInBounds 6 true).setIfInBounds 7 true).setIfInBounds 8 true).setIfInBounds 9 true).setIfInBounds 10 true).setIfInBounds 11 true).setIfInBounds 12 true).setIfInBounds 13 true).setIfInBounds 14 true).setIfInBounds 15 true).setIfInBounds 16 true).setIfInBounds 17 true).setIfInBounds 18 true).setIfInBounds 19 true).setIfInBounds 20 true).setIfInBounds 21 true) [] = true := by kernel_rfl
/- (*tree.Trees).flat -/
def m306_w1 (n : Nat) (t : Trees) (s : Store) (d : Dev) (id : Int) (pre : Str) (depth : Int) (l2 : List Line) (go : Trees → Store → Dev → Int → Str → Int → ((List Entry)) → Option ((List Entry))) (mm : Nat) : (List Entry) → Int → Option ((List Entry) × Int) := it2 (fun lp1 l3 c3 =>
cond (decide (c3 < (l2.length : Int))) (
Option.bind (ixL l2 c3) fun x1 =>
cond x1.dir (
Option.bind (ixL l2 c3) fun x2 =>
Option.bind (ixL l2 c3) fun x3 =>
Option.bind (sAdd pre x3.name) fun s1 =>
Option.bind (sAdd s1 [47]) fun s2 =>
ob1 (go t s d x2.id s2 (wi (depth - 1)) l3) fun l5 =>
lp1 l5 (wi (c3 + 1))) (
Option.bind (ixL l2 c3) fun x4 =>
Option.bind (sAdd pre x4.name) fun s3 =>
Option.bind (ixL l2 c3) fun x5 =>
Option.bind (ixL l2 c3) fun x6 =>
Option.bind (apd l3 ({ path := s3, id := x5.id, mode := x6.mode } : Entry)) fun l6 =>
lp1 l6 (wi (c3 + 1)))) (
some (l3, c3))) mm
def m306 : Nat → Trees → Store → Dev → Int → Str → Int → ((List Entry)) → Option ((List Entry)) := rc7 fun n go t s d id pre depth out =>
cond (decide (depth ≤ 0)) (
some out) (
ob3 (m194 n s d id) fun c1 l1 c2 =>
ob1 (m195 n l1) fun l2 =>
ob2 (m306_w1 n t s d id pre depth l2 go n out 0) fun l4 c4 =>
some l4)
theorem t306 {n : Nat} {C : List Chunk} {rl1 : List Entry} {b1 : Nat} {t : Trees} {b2 : Nat} {s : Store} {b3 : Nat} {d : Dev} {v1 : Value} {g1 : List Chunk} {v2 : Value} {g2 : List Chunk} {v3 : Value} {g3 : List Chunk} {v4 : Value} {g4 : List Chunk} {id : Int} {pre : Str} {depth : Int} {v5 : Value} {out : (List Entry)} {g5 : List Chunk} (ho1 : Own rByte v1 d.blk g1) (ho2 : Own rByte v2 d.base g2) (ho3 : Own rInt v3 d.at_ g3) (ho4 : Own rByte v4 d.data g4) (ho5 : Own rEntry v5 out g5)  (hm : m306 n t s d id pre depth out = some rl1) : Trip Tryz.prog 306 #[.pointer (some ⟨b1, 0, none⟩), .int .i64 id, .string ⟨(pre : Str).toArray⟩, .int .i64 depth, v5] ([[(b1, .cells (Trees.enc (.pointer (some ⟨b2, 0, none⟩)) t).toArray 169 (0, 0))], [(b2, .cells (Store.enc (.pointer (some ⟨b3, 0, none⟩)) s).toArray 126 (0, 0))], [(b3, .cells (Dev.enc (v1) (v2) (v3) (v4) d).toArray 85 (0, 0))], g1, g2, g3, g4, g5] ++ [C]) (fun u S' => ∃ (ev1 : Value), ∃ (eg1 : List Chunk), ev1 = u ∧ S' = [[(b1, .cells (Trees.enc (.pointer (some ⟨b2, 0, none⟩)) t).toArray 169 (0, 0))], [(b2, .cells (Store.enc (.pointer (some ⟨b3, 0, none⟩)) s).toArray 126 (0, 0))], [(b3, .cells (Dev.enc (v1) (v2) (v3) (v4) d).toArray 85 (0, 0))], g1, g2, g3, g4, eg1] ++ [C] ∧ Own rEntry ev1 rl1 eg1) := by
  induction n generalizing C b1 t b2 s b3 d v1 g1 v2 g2 v3 g3 v4 g4 id pre depth v5 out g5 rl1 with
  | zero => cases hm
  | succ n ih =>
    replace hm := rc7_s hm
    refine fn_entry (args := [.pointer (some ⟨b1, 0, none⟩), .int .i64 id, .string ⟨(pre : Str).toArray⟩, .int .i64 depth, v5]) Tryz.func306 rfl Tryz.ntmps306 rfl (fun w0 => ?_)
    refine c_seq ?_
    refine c_region ?_
    have ho6 : Own rEntry (.slice none 0 0) [] [] := Own.nil
    refine o_emp ?_
    refine o_L (y_assign rfl) rfl rfl ?_
    refine o_nil0 rfl ?_
    refine c_seq ?_
    refine c_seq ?_
    refine c_region ?_
    refine o_T (y_move rfl) rfl ?_
    refine o_T (y_leq rfl rfl) rfl ?_
    refine o_nil1 17 rfl rfl ?_
    refine c_cond rfl (fun h1 => ?_) (fun h1 => ?_)
    · have hm := cd_t h1 hm
      refine c_seq ?_
      refine c_region ?_
      refine o_T (y_move rfl) rfl ?_
      refine o_L (y_assign rfl) rfl rfl ?_
      refine o_nil0 rfl ?_
      refine c_ret ?_
      obtain rfl := p1 hm
      refine fun aX wX heX hsX => ret1 Tryz.results306 heX rfl (s_skip (s_take (s_take (s_take (s_take (s_take (s_take (s_take (s_take (s_take s_nil)))))))))) ?_
      exact ⟨v5, _, rfl, rfl, ho5⟩
    · have hm := cd_f h1 hm
      refine c_skip ?_
      refine c_seq ?_
      refine c_region ?_
      refine o_T (y_move rfl) rfl ?_
      refine o_T (y_nilck rfl) rfl ?_
      refine o_T (y_fa fl_169_0 rfl) rfl ?_
      refine o_ld one_28 rfl (ms m0) (At.got (At.refl.comp Trees.a_o)) rfl ?_
      refine o_T (y_move rfl) rfl ?_
      obtain ⟨c1, l1, c2, hx1, hm⟩ := bd3 hm
      refine o_callC en_194 rfl (s_skip (s_skip (s_take (s_take (s_take (s_take (s_take (s_take s_nil)))))))) (t194 ho1 ho2 ho3 ho4 hx1) rfl (fun u1 S1 hR1 => ?_)
      obtain ⟨v6, g6, rfl, rfl, ho7⟩ := hR1
      refine o_rest ?_
      refine o_T (y_move rfl) rfl ?_
      refine o_T (y_extract rfl rfl) rfl ?_
      refine o_T (y_extract rfl rfl) rfl ?_
      refine o_T (y_extract rfl rfl) rfl ?_
      refine o_L (y_assign rfl) rfl rfl ?_
      refine o_L (y_assign rfl) rfl rfl ?_
      refine o_L (y_assign rfl) rfl rfl ?_
      refine o_nil0 rfl ?_
      refine c_seq ?_
      refine c_region ?_
      refine o_T (y_move rfl) rfl ?_
      obtain ⟨l2, hx2, hm⟩ := bd1 hm
      refine o_callC en_195 rfl s_nil (t195 (ho7.rd.mono (fun _ hz => (ms (ms (ms (ms (ms (ms (mg hz))))))))) hx2) rfl (fun u2 S2 hR2 => ?_)
      obtain ⟨v7, g7, rfl, rfl, ho8⟩ := hR2
      refine o_rest ?_
      refine o_L (y_assign rfl) rfl rfl ?_
      refine o_nil0 rfl ?_
      refine c_seq ?_
      refine c_seq ?_
      refine c_region ?_
      refine o_L (y_assign rfl) rfl rfl ?_
      refine o_nil0 rfl ?_
      obtain ⟨l4, c4, hj1, hm⟩ := bd2 hm
      refine c_joinP (n := 1) (fun sh G => ∃ (v9 : Value), ∃ (g9 : List Chunk), sh = [(4, v9), (15, .int .i64 c4)] ∧ G = [g9] ∧ Own rEntry v9 l4 g9) (s_get (ks (ks (ks (ks (ks (ks (ks (ks (ks (ks k0)))))))))) (s_take (s_take (s_take (s_take (s_take (s_take (s_take (s_skip (s_skip (s_take (s_take s_nil)))))))))))) (.s .z) (fun _ _ h => h) ?_ ?_
      · skip
        refine c_block ?_
        refine c_loopP (n := 1) (fun mm sh G => ∃ (l3 : List Entry), ∃ (c3 : Int), ∃ (v8 : Value), ∃ (g8 : List Chunk), sh = [(4, v8), (15, .int .i64 c3)] ∧ G = [g8] ∧ m306_w1 n t s d id pre depth l2 (m306 n) mm l3 c3 = some (l4, c4) ∧ Own rEntry v8 l3 g8) n (s_get (ks (ks (ks (ks (ks (ks (ks (ks (ks (ks k0)))))))))) (s_take (s_take (s_take (s_take (s_take (s_take (s_take (s_skip (s_skip (s_take (s_take s_nil)))))))))))) (.s .z) ⟨_, _, ⟨_, _, v5, _, rfl, rfl, hj1, ho5⟩, ⟨rfl, rfl, trivial⟩, _, (s_get (ks (ks (ks (ks (ks (ks (ks (ks (ks (ks k0)))))))))) (s_take (s_take (s_take (s_take (s_take (s_take (s_take (s_skip (s_skip (s_take (s_take s_nil))))))))))))⟩ ?_
        rintro mm sh G ⟨l3, c3, v8, g8, rfl, rfl, hm, ho9⟩
        obtain ⟨mm1, rfl, hm⟩ := it2_s hm
        refine c_seq ?_
        refine c_seq ?_
        refine c_region ?_
        refine o_T (y_move rfl) rfl ?_
        refine o_T (y_move rfl) rfl ?_
        refine o_T (y_lenR ho8.rd Tryz.underlying209 rfl) rfl ?_
        refine o_T (y_lss rfl rfl) rfl ?_
        refine o_nil1 34 rfl rfl ?_
        refine c_cond rfl (fun h2 => ?_) (fun h2 => ?_)
        · have hm := cd_t h2 hm
          refine c_skip ?_
          refine c_seq ?_
          refine c_block ?_
          refine c_seq ?_
          refine c_region ?_
          refine o_T (y_move rfl) rfl ?_
          refine o_T (y_move rfl) rfl ?_
          obtain ⟨x1, hx3, hm⟩ := bd hm
          obtain ⟨b4, w1, cs1, y1, z1, vs1, hc1, ha1, hr1, hy1⟩ := ho8.rd.ix hx3
          obtain rfl : vs1 = Line.enc x1 := hr1
          refine o_T (hy1 sl_209 rfl rfl rfl) rfl ?_
          refine o_T (y_fa fl_213_0 rfl) rfl ?_
          refine o_ld one_4 rfl (ms (mg hc1)) (At.getA (ha1.comp Line.a_dir)) rfl ?_
          refine o_nil1 41 rfl rfl ?_
          refine c_cond rfl (fun h3 => ?_) (fun h3 => ?_)
          · have hm := cd_t h3 hm
            refine c_draw #[true, true, true, true, true, true, true, true, true, true, true, true, true, true, true, true, true, false, true] rfl (n := 19) rfl ?_
            refine d_T 0 rfl sb_306_9_0 rfl (y_move rfl) rfl ?_
            refine d_T 1 rfl sb_306_9_1 rfl (y_move rfl) rfl ?_
            refine d_T 2 rfl sb_306_9_2 rfl (y_move rfl) rfl ?_
            obtain ⟨x2, hx4, hm⟩ := bd hm
            obtain ⟨b5, w2, cs2, y2, z2, vs2, hc2, ha2, hr2, hy2⟩ := ho8.rd.ix hx4
            obtain rfl : vs2 = Line.enc x2 := hr2
            refine d_T 3 rfl sb_306_9_3 rfl (hy2 sl_209 rfl rfl rfl) rfl ?_
            refine d_T 4 rfl sb_306_9_4 rfl (y_fa fl_213_2 rfl) rfl ?_
            refine d_ld 5 rfl sb_306_9_5 one_3 rfl (fun x hx => hx) (ms (mg hc2)) (At.getA (ha2.comp Line.a_id)) rfl ?_
            refine d_T 6 rfl sb_306_9_6 rfl (y_move rfl) rfl ?_
            refine d_T 7 rfl sb_306_9_7 rfl (y_move rfl) rfl ?_
            refine d_T 8 rfl sb_306_9_8 rfl (y_move rfl) rfl ?_
            obtain ⟨x3, hx5, hm⟩ := bd hm
            obtain ⟨b6, w3, cs3, y3, z3, vs3, hc3, ha3, hr3, hy3⟩ := ho8.rd.ix hx5
            obtain rfl : vs3 = Line.enc x3 := hr3
            refine d_T 9 rfl sb_306_9_9 rfl (hy3 sl_209 rfl rfl rfl) rfl ?_
            refine d_T 10 rfl sb_306_9_10 rfl (y_fa fl_213_3 rfl) rfl ?_
            refine d_ld 11 rfl sb_306_9_11 one_9 rfl (fun x hx => hx) (ms (mg hc3)) (At.getA (ha3.comp Line.a_name)) rfl ?_
            obtain ⟨s1, hx6, hm⟩ := bd hm
            refine d_T 12 rfl sb_306_9_12 rfl (y_sadd rfl rfl hx6) rfl ?_
            obtain ⟨s2, hx7, hm⟩ := bd hm
            refine d_T 13 rfl sb_306_9_13 rfl (y_sadd rfl rfl hx7) rfl ?_
            refine d_T 14 rfl sb_306_9_14 rfl (y_move rfl) rfl ?_
            refine d_T 15 rfl sb_306_9_15 rfl (y_sub rfl rfl rfl) rfl ?_
            refine d_T 16 rfl sb_306_9_16 rfl (y_move rfl) rfl ?_
            refine d_hard 17 rfl sb_306_9_17 ?_
            obtain ⟨l5, hx8, hm⟩ := bd1 hm
            refine o_callC en_306 rfl (s_get (ks (ks (ks (ks (ks (ks (ks (ks k0)))))))) (s_get (ks (ks k0)) (s_get (ks (ks k0)) (s_get (ks (ks k0)) (s_get (ks (ks k0)) (s_get (ks (ks k0)) (s_get (ks (ks k0)) (s_take s_nil)))))))) (ih ho1 ho2 ho3 ho4 ho9 hx8) rfl (fun u3 S3 hR3 => ?_)
            obtain ⟨v10, g10, rfl, rfl, ho11⟩ := hR3
            refine o_rest ?_
            refine o_stop (fun h => nomatch h) ?_
            refine d_L 18 rfl sb_306_9_18 rfl (y_assign rfl) rfl rfl ?_
            refine d_nil0 sb_306_9_19 rfl ?_
            refine c_region ?_
            refine o_T (y_move rfl) rfl ?_
            refine o_T (y_add rfl rfl rfl) rfl ?_
            refine o_L (y_assign rfl) rfl rfl ?_
            refine o_nil0 rfl ?_
            exact ⟨mm1, Nat.lt_succ_self _, _, _, ⟨_, _, v10, _, rfl, rfl, hm, ho11⟩, ⟨rfl, rfl, trivial⟩, ⟨rfl, rfl⟩, _, (s_get (ks (ks (ks (ks (ks (ks (ks k0))))))) (s_get (ks (ks (ks (ks (ks (ks (ks k0))))))) (s_get (ks k0) (s_get (ks k0) (s_get (ks k0) (s_get (ks k0) (s_get (ks k0) (s_get (ks k0) (s_take (s_take s_nil))))))))))⟩
          · have hm := cd_f h3 hm
            refine c_draw #[true, true, true, true, true, true, true, true, true, true, true, true, true, true, true, true, true, true, true, true, false, true] rfl (n := 22) rfl ?_
            refine d_T 0 rfl sb_306_10_0 rfl (y_move rfl) rfl ?_
            refine d_T 1 rfl sb_306_10_1 rfl (y_move rfl) rfl ?_
            refine d_T 2 rfl sb_306_10_2 rfl (y_move rfl) rfl ?_
            refine d_T 3 rfl sb_306_10_3 rfl (y_move rfl) rfl ?_
            obtain ⟨x4, hx9, hm⟩ := bd hm
            obtain ⟨b7, w4, cs4, y4, z4, vs4, hc4, ha4, hr4, hy4⟩ := ho8.rd.ix hx9
            obtain rfl : vs4 = Line.enc x4 := hr4
            refine d_T 4 rfl sb_306_10_4 rfl (hy4 sl_209 rfl rfl rfl) rfl ?_
            refine d_T 5 rfl sb_306_10_5 rfl (y_fa fl_213_3 rfl) rfl ?_
            refine d_ld 6 rfl sb_306_10_6 one_9 rfl (fun x hx => hx) (ms (mg hc4)) (At.getA (ha4.comp Line.a_name)) rfl ?_
            obtain ⟨s3, hx10, hm⟩ := bd hm
            refine d_T 7 rfl sb_306_10_7 rfl (y_sadd rfl rfl hx10) rfl ?_
            refine d_T 8 rfl sb_306_10_8 rfl (y_move rfl) rfl ?_
            refine d_T 9 rfl sb_306_10_9 rfl (y_move rfl) rfl ?_
            obtain ⟨x5, hx11, hm⟩ := bd hm
            obtain ⟨b8, w5, cs5, y5, z5, vs5, hc5, ha5, hr5, hy5⟩ := ho8.rd.ix hx11
            obtain rfl : vs5 = Line.enc x5 := hr5
            refine d_T 10 rfl sb_306_10_10 rfl (hy5 sl_209 rfl rfl rfl) rfl ?_
            refine d_T 11 rfl sb_306_10_11 rfl (y_fa fl_213_2 rfl) rfl ?_
            refine d_ld 12 rfl sb_306_10_12 one_3 rfl (fun x hx => hx) (ms (mg hc5)) (At.getA (ha5.comp Line.a_id)) rfl ?_
            refine d_T 13 rfl sb_306_10_13 rfl (y_move rfl) rfl ?_
            refine d_T 14 rfl sb_306_10_14 rfl (y_move rfl) rfl ?_
            obtain ⟨x6, hx12, hm⟩ := bd hm
            obtain ⟨b9, w6, cs6, y6, z6, vs6, hc6, ha6, hr6, hy6⟩ := ho8.rd.ix hx12
            obtain rfl : vs6 = Line.enc x6 := hr6
            refine d_T 15 rfl sb_306_10_15 rfl (hy6 sl_209 rfl rfl rfl) rfl ?_
            refine d_T 16 rfl sb_306_10_16 rfl (y_fa fl_213_1 rfl) rfl ?_
            refine d_ld 17 rfl sb_306_10_17 one_3 rfl (fun x hx => hx) (ms (mg hc6)) (At.getA (ha6.comp Line.a_mode)) rfl ?_
            refine d_T 18 rfl sb_306_10_18 rfl (y_build st_279 rfl (fbU rfl Entry.u_path rfl rfl (fbU rfl Entry.u_id rfl rfl (fbU rfl Entry.u_mode rfl rfl fbU0)))) rfl ?_
            refine d_hard 19 rfl sb_306_10_19 ?_
            refine o_bs1 sz_277 rfl rfl rfl rfl rfl rfl (fun b10 => ?_)
            refine o_stop (fun _ => (fun x hx => (ms hx))) ?_
            refine d_hard 20 rfl sb_306_10_20 ?_
            obtain ⟨l6, hx13, hm⟩ := bd hm
            refine o_appR (R := rEntry) (a := ({ path := s3, id := x5.id, mode := x6.mode } : Entry)) sz_277 rfl rfl rfl rfl ho9 rfl hx13 (Sel.e (s_get (ks k0) (s_take s_nil))) rfl (fun v11 g11 ho12 => ?_)
            refine o_stop (fun h => nomatch h) ?_
            refine d_L 21 rfl sb_306_10_21 rfl (y_assign rfl) rfl rfl ?_
            refine d_nil0 sb_306_10_22 rfl ?_
            refine c_region ?_
            refine o_T (y_move rfl) rfl ?_
            refine o_T (y_add rfl rfl rfl) rfl ?_
            refine o_L (y_assign rfl) rfl rfl ?_
            refine o_nil0 rfl ?_
            exact ⟨mm1, Nat.lt_succ_self _, _, _, ⟨_, _, v11, _, rfl, rfl, hm, ho12⟩, ⟨rfl, rfl, trivial⟩, ⟨rfl, rfl⟩, _, (s_take (s_take (s_take (s_take (s_take (s_take (s_take (s_take (s_take (s_take s_nil))))))))))⟩
        · have hm := cd_f h2 hm
          refine c_exit ?_
          obtain ⟨rfl, rfl⟩ := pr2 hm
          exact ⟨_, _, ⟨v8, _, rfl, rfl, ho9⟩, ⟨rfl, rfl, trivial⟩, ⟨rfl, rfl⟩, _, (s_take (s_take (s_take (s_take (s_take (s_take (s_take (s_take (s_take (s_take s_nil))))))))))⟩
      · rintro sh G ⟨v9, g9, rfl, rfl, ho10⟩
        refine c_seq ?_
        refine c_region ?_
        refine o_T (y_move rfl) rfl ?_
        refine o_L (y_assign rfl) rfl rfl ?_
        refine o_nil0 rfl ?_
        refine c_ret ?_
        obtain rfl := p1 hm
        refine fun aX wX heX hsX => ret1 Tryz.results306 heX rfl (s_get (ks (ks (ks (ks (ks (ks (ks (ks k0)))))))) (s_get (ks (ks k0)) (s_get (ks (ks k0)) (s_get (ks (ks k0)) (s_get (ks (ks k0)) (s_get (ks (ks k0)) (s_get (ks (ks k0)) (s_take (s_skip (s_take s_nil)))))))))) ?_
        exact ⟨v9, _, rfl, rfl, ho10⟩
end Go.Proofs.Qxb6500350aGreat
