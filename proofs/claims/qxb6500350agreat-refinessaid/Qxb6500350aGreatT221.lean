/- MADE BY PROGRAM (tools350/mir.py): mirror and walk. -/
import Derived.Test.Qxb6500350aGreatF2
import Derived.Test.Qxb6500350aGreatT279
import Derived.Test.Qxb6500350aGreatT219
set_option linter.unusedVariables false
set_option linter.unusedSimpArgs false
set_option maxRecDepth 20000
set_option maxHeartbeats 4000000
namespace Go.Proofs.Qxb6500350aGreat
open Go.Eng

def op_221_6 : Array Go.Oper := #[{ dst := some 28, op := Go.Op.move (Go.Operand.tmp 0), type := 30, pos := "commit.go:25", after := #[], guard := none }, { dst := some 29, op := Go.Op.nilCheck (Go.Operand.tmp 28), type := 0, pos := "commit.go:25", after := #[{ on := 0, ground := Go.Ground.data }], guard := none }, { dst := some 30, op := Go.Op.fieldAddr 179 (Go.Operand.tmp 29) 0, type := 0, pos := "commit.go:25", after := #[{ on := 1, ground := Go.Ground.data }], guard := none }, { dst := some 31, op := Go.Op.load 29 (Go.Operand.tmp 30), type := 29, pos := "commit.go:25", after := #[{ on := 2, ground := Go.Ground.data }], guard := none }, { dst := some 32, op := Go.Op.move (Go.Operand.tmp 5), type := 277, pos := "commit.go:25", after := #[], guard := none }, { dst := some 33, op := Go.Op.move (Go.Operand.tmp 8), type := 3, pos := "commit.go:25", after := #[], guard := none }, { dst := some 34, op := Go.Op.indexAddr 277 (Go.Operand.tmp 32) (Go.Operand.tmp 33), type := 0, pos := "commit.go:25", after := #[{ on := 4, ground := Go.Ground.data }, { on := 5, ground := Go.Ground.data }], guard := none }, { dst := some 35, op := Go.Op.fieldAddr 279 (Go.Operand.tmp 34) 1, type := 0, pos := "commit.go:25", after := #[{ on := 6, ground := Go.Ground.data }], guard := none }, { dst := some 36, op := Go.Op.load 3 (Go.Operand.tmp 35), type := 3, pos := "commit.go:25", after := #[{ on := 7, ground := Go.Ground.data }], guard := none }, { dst := some 37, op := Go.Op.call { callee := Go.Callee.value (Go.Operand.func 219), args := #[Go.Operand.tmp 31, Go.Operand.tmp 36], argTypes := #[29, 3] }, type := 207, pos := "commit.go:25", after := #[{ on := 3, ground := Go.Ground.data }, { on := 8, ground := Go.Ground.data }], guard := none }, { dst := some 27, op := Go.Op.move (Go.Operand.tmp 37), type := 207, pos := "commit.go:25", after := #[{ on := 9, ground := Go.Ground.data }], guard := none }, { dst := some 38, op := Go.Op.extract (Go.Operand.tmp 27) 0, type := 3, pos := "commit.go:25", after := #[{ on := 10, ground := Go.Ground.data }], guard := none }, { dst := some 39, op := Go.Op.extract (Go.Operand.tmp 27) 1, type := 81, pos := "commit.go:25", after := #[{ on := 10, ground := Go.Ground.data }, { on := 14, ground := Go.Ground.gcOnly Go.Departure.lateStores }], guard := none }, { dst := some 40, op := Go.Op.extract (Go.Operand.tmp 27) 2, type := 73, pos := "commit.go:25", after := #[{ on := 10, ground := Go.Ground.data }, { on := 15, ground := Go.Ground.gcOnly Go.Departure.lateStores }], guard := none }, { dst := some 9, op := Go.Op.assign (Go.Operand.tmp 38), type := 3, pos := "commit.go:25", after := #[{ on := 11, ground := Go.Ground.data }, { on := 9, ground := Go.Ground.chain }, { on := 0, ground := Go.Ground.phase }, { on := 1, ground := Go.Ground.phase }, { on := 2, ground := Go.Ground.phase }, { on := 3, ground := Go.Ground.phase }, { on := 4, ground := Go.Ground.phase }, { on := 5, ground := Go.Ground.phase }, { on := 6, ground := Go.Ground.phase }, { on := 7, ground := Go.Ground.phase }, { on := 8, ground := Go.Ground.phase }, { on := 9, ground := Go.Ground.phase }, { on := 10, ground := Go.Ground.phase }, { on := 11, ground := Go.Ground.phase }, { on := 12, ground := Go.Ground.textOnly Go.Departure.lateStores }, { on := 13, ground := Go.Ground.textOnly Go.Departure.lateStores }], guard := none }, { dst := some 10, op := Go.Op.assign (Go.Operand.tmp 39), type := 81, pos := "commit.go:25", after := #[{ on := 12, ground := Go.Ground.data }, { on := 14, ground := Go.Ground.chain }, { on := 0, ground := Go.Ground.phase }, { on := 1, ground := Go.Ground.phase }, { on := 2, ground := Go.Ground.phase }, { on := 3, ground := Go.Ground.phase }, { on := 4, ground := Go.Ground.phase }, { on := 5, ground := Go.Ground.phase }, { on := 6, ground := Go.Ground.phase }, { on := 7, ground := Go.Ground.phase }, { on := 8, ground := Go.Ground.phase }, { on := 9, ground := Go.Ground.phase }, { on := 10, ground := Go.Ground.phase }, { on := 11, ground := Go.Ground.phase }, { on := 12, ground := Go.Ground.phase }, { on := 13, ground := Go.Ground.textOnly Go.Departure.lateStores }, { on := 14, ground := Go.Ground.phase }], guard := none }, { dst := some 11, op := Go.Op.assign (Go.Operand.tmp 40), type := 73, pos := "commit.go:25", after := #[{ on := 13, ground := Go.Ground.data }, { on := 15, ground := Go.Ground.chain }, { on := 0, ground := Go.Ground.phase }, { on := 1, ground := Go.Ground.phase }, { on := 2, ground := Go.Ground.phase }, { on := 3, ground := Go.Ground.phase }, { on := 4, ground := Go.Ground.phase }, { on := 5, ground := Go.Ground.phase }, { on := 6, ground := Go.Ground.phase }, { on := 7, ground := Go.Ground.phase }, { on := 8, ground := Go.Ground.phase }, { on := 9, ground := Go.Ground.phase }, { on := 10, ground := Go.Ground.phase }, { on := 11, ground := Go.Ground.phase }, { on := 12, ground := Go.Ground.phase }, { on := 13, ground := Go.Ground.phase }, { on := 14, ground := Go.Ground.phase }, { on := 15, ground := Go.Ground.phase }], guard := none }]
def op_221_7 : Array Go.Oper := #[{ dst := some 41, op := Go.Op.move (Go.Operand.tmp 7), type := 57, pos := "commit.go:26", after := #[], guard := none }, { dst := some 42, op := Go.Op.move (Go.Operand.tmp 5), type := 277, pos := "commit.go:26", after := #[], guard := none }, { dst := some 43, op := Go.Op.move (Go.Operand.tmp 8), type := 3, pos := "commit.go:26", after := #[], guard := none }, { dst := some 44, op := Go.Op.indexAddr 277 (Go.Operand.tmp 42) (Go.Operand.tmp 43), type := 0, pos := "commit.go:26", after := #[{ on := 1, ground := Go.Ground.data }, { on := 2, ground := Go.Ground.data }], guard := none }, { dst := some 45, op := Go.Op.fieldAddr 279 (Go.Operand.tmp 44) 0, type := 0, pos := "commit.go:26", after := #[{ on := 3, ground := Go.Ground.data }], guard := none }, { dst := some 46, op := Go.Op.load 9 (Go.Operand.tmp 45), type := 9, pos := "commit.go:26", after := #[{ on := 4, ground := Go.Ground.data }], guard := none }, { dst := some 47, op := Go.Op.move (Go.Operand.tmp 10), type := 81, pos := "commit.go:26", after := #[], guard := none }, { dst := some 48, op := Go.Op.convert 81 9 (Go.Operand.tmp 47), type := 9, pos := "commit.go:26", after := #[{ on := 6, ground := Go.Ground.data }], guard := none }, { dst := some 49, op := Go.Op.move (Go.Operand.tmp 5), type := 277, pos := "commit.go:26", after := #[], guard := none }, { dst := some 50, op := Go.Op.move (Go.Operand.tmp 8), type := 3, pos := "commit.go:26", after := #[], guard := none }, { dst := some 51, op := Go.Op.indexAddr 277 (Go.Operand.tmp 49) (Go.Operand.tmp 50), type := 0, pos := "commit.go:26", after := #[{ on := 8, ground := Go.Ground.data }, { on := 9, ground := Go.Ground.data }], guard := none }, { dst := some 52, op := Go.Op.fieldAddr 279 (Go.Operand.tmp 51) 2, type := 0, pos := "commit.go:26", after := #[{ on := 10, ground := Go.Ground.data }], guard := none }, { dst := some 53, op := Go.Op.load 3 (Go.Operand.tmp 52), type := 3, pos := "commit.go:26", after := #[{ on := 11, ground := Go.Ground.data }], guard := none }, { dst := some 54, op := Go.Op.build 71 #[(0, Go.Operand.tmp 46), (1, Go.Operand.tmp 48), (2, Go.Operand.tmp 53)], type := 71, pos := "commit.go:26", after := #[{ on := 5, ground := Go.Ground.data }, { on := 7, ground := Go.Ground.data }, { on := 12, ground := Go.Ground.data }], guard := none }, { dst := some 55, op := Go.Op.buildSlice 57 1 #[(0, Go.Operand.tmp 54)], type := 57, pos := "commit.go:26", after := #[{ on := 13, ground := Go.Ground.data }], guard := none }, { dst := some 56, op := Go.Op.call { callee := Go.Callee.builtin Go.Builtin.append, args := #[Go.Operand.tmp 41, Go.Operand.tmp 55], argTypes := #[57, 57] }, type := 57, pos := "commit.go:26", after := #[{ on := 0, ground := Go.Ground.data }, { on := 14, ground := Go.Ground.data }], guard := none }, { dst := some 7, op := Go.Op.assign (Go.Operand.tmp 56), type := 57, pos := "commit.go:26", after := #[{ on := 15, ground := Go.Ground.data }, { on := 15, ground := Go.Ground.chain }, { on := 0, ground := Go.Ground.phase }, { on := 1, ground := Go.Ground.phase }, { on := 2, ground := Go.Ground.phase }, { on := 3, ground := Go.Ground.phase }, { on := 4, ground := Go.Ground.phase }, { on := 5, ground := Go.Ground.phase }, { on := 6, ground := Go.Ground.phase }, { on := 7, ground := Go.Ground.phase }, { on := 8, ground := Go.Ground.phase }, { on := 9, ground := Go.Ground.phase }, { on := 10, ground := Go.Ground.phase }, { on := 11, ground := Go.Ground.phase }, { on := 12, ground := Go.Ground.phase }, { on := 13, ground := Go.Ground.phase }, { on := 14, ground := Go.Ground.phase }, { on := 15, ground := Go.Ground.phase }], guard := none }]
theorem sb_221_6_0 : softB op_221_6 #[true, true, true, true, true, true, true, true, true, false, true, true, true, true, true, true, true] (Array.replicate 17 false) 0 = true := by kernel_rfl
theorem sb_221_6_1 : softB op_221_6 #[true, true, true, true, true, true, true, true, true, false, true, true, true, true, true, true, true] ((Array.replicate 17 false).setIfInBounds 0 true) 1 = true := by kernel_rfl
theorem sb_221_6_2 : softB op_221_6 #[true, true, true, true, true, true, true, true, true, false, true, true, true, true, true, true, true] (((Array.replicate 17 false).setIfInBounds 0 true).setIfInBounds 1 true) 2 = true := by kernel_rfl
theorem sb_221_6_3 : softB op_221_6 #[true, true, true, true, true, true, true, true, true, false, true, true, true, true, true, true, true] ((((Array.replicate 17 false).setIfInBounds 0 true).setIfInBounds 1 true).setIfInBounds 2 true) 3 = true := by kernel_rfl
theorem sb_221_6_4 : softB op_221_6 #[true, true, true, true, true, true, true, true, true, false, true, true, true, true, true, true, true] (((((Array.replicate 17 false).setIfInBounds 0 true).setIfInBounds 1 true).setIfInBounds 2 true).setIfInBounds 3 true) 4 = true := by kernel_rfl
theorem sb_221_6_5 : softB op_221_6 #[true, true, true, true, true, true, true, true, true, false, true, true, true, true, true, true, true] ((((((Array.replicate 17 false).setIfInBounds 0 true).setIfInBounds 1 true).setIfInBounds 2 true).setIfInBounds 3 true).setIfInBounds 4 true) 5 = true := by kernel_rfl
theorem sb_221_6_6 : softB op_221_6 #[true, true, true, true, true, true, true, true, true, false, true, true, true, true, true, true, true] (((((((Array.replicate 17 false).setIfInBounds 0 true).setIfInBounds 1 true).setIfInBounds 2 true).setIfInBounds 3 true).setIfInBounds 4 true).setIfInBounds 5 true) 6 = true := by kernel_rfl
theorem sb_221_6_7 : softB op_221_6 #[true, true, true, true, true, true, true, true, true, false, true, true, true, true, true, true, true] ((((((((Array.replicate 17 false).setIfInBounds 0 true).setIfInBounds 1 true).setIfInBounds 2 true).setIfInBounds 3 true).setIfInBounds 4 true).setIfInBounds 5 true).setIfInBounds 6 true) 7 = true := by kernel_rfl
theorem sb_221_6_8 : softB op_221_6 #[true, true, true, true, true, true, true, true, true, false, true, true, true, true, true, true, true] (((((((((Array.replicate 17 false).setIfInBounds 0 true).setIfInBounds 1 true).setIfInBounds 2 true).setIfInBounds 3 true).setIfInBounds 4 true).setIfInBounds 5 true).setIfInBounds 6 true).setIfInBounds 7 true) 8 = true := by kernel_rfl
theorem sb_221_6_9 : hardB op_221_6 ((((((((((Array.replicate 17 false).setIfInBounds 0 true).setIfInBounds 1 true).setIfInBounds 2 true).setIfInBounds 3 true).setIfInBounds 4 true).setIfInBounds 5 true).setIfInBounds 6 true).setIfInBounds 7 true).setIfInBounds 8 true) [9] = true := by kernel_rfl
theorem sb_221_6_10 : softB op_221_6 #[true, true, true, true, true, true, true, true, true, false, true, true, true, true, true, true, true] (((((((((((Array.replicate 17 false).setIfInBounds 0 true).setIfInBounds 1 true).setIfInBounds 2 true).setIfInBounds 3 true).setIfInBounds 4 true).setIfInBounds 5 true).setIfInBounds 6 true).setIfInBounds 7 true).setIfInBounds 8 true).setIfInBounds 9 true) 10 = true := by kernel_rfl
theorem sb_221_6_11 : softB op_221_6 #[true, true, true, true, true, true, true, true, true, false, true, true, true, true, true, true, true] ((((((((((((Array.replicate 17 false).setIfInBounds 0 true).setIfInBounds 1 true).setIfInBounds 2 true).setIfInBounds 3 true).setIfInBounds 4 true).setIfInBounds 5 true).setIfInBounds 6 true).setIfInBounds 7 true).setIfInBounds 8 true).setIfInBounds 9 true).setIfInBounds 10 true) 11 = true := by kernel_rfl
theorem sb_221_6_12 : softB op_221_6 #[true, true, true, true, true, true, true, true, true, false, true, true, true, true, true, true, true] (((((((((((((Array.replicate 17 false).setIfInBounds 0 true).setIfInBounds 1 true).setIfInBounds 2 true).setIfInBounds 3 true).setIfInBounds 4 true).setIfInBounds 5 true).setIfInBounds 6 true).setIfInBounds 7 true).setIfInBounds 8 true).setIfInBounds 9 true).setIfInBounds 10 true).setIfInBounds 11 true) 12 = true := by kernel_rfl
theorem sb_221_6_13 : softB op_221_6 #[true, true, true, true, true, true, true, true, true, false, true, true, true, true, true, true, true] ((((((((((((((Array.replicate 17 false).setIfInBounds 0 true).setIfInBounds 1 true).setIfInBounds 2 true).setIfInBounds 3 true).setIfInBounds 4 true).setIfInBounds 5 true).setIfInBounds 6 true).setIfInBounds 7 true).setIfInBounds 8 true).setIfInBounds 9 true).setIfInBounds 10 true).setIfInBounds 11 true).setIfInBounds 12 true) 13 = true := by kernel_rfl
theorem sb_221_6_14 : softB op_221_6 #[true, true, true, true, true, true, true, true, true, false, true, true, true, true, true, true, true] (((((((((((((((Array.replicate 17 false).setIfInBounds 0 true).setIfInBounds 1 true).setIfInBounds 2 true).setIfInBounds 3 true).setIfInBounds 4 true).setIfInBounds 5 true).setIfInBounds 6 true).setIfInBounds 7 true).setIfInBounds 8 true).setIfInBounds 9 true).setIfInBounds 10 true).setIfInBounds 11 true).setIfInBounds 12 true).setIfInBounds 13 true) 14 = true := by kernel_rfl
theorem sb_221_6_15 : softB op_221_6 #[true, true, true, true, true, true, true, true, true, false, true, true, true, true, true, true, true] ((((((((((((((((Array.replicate 17 false).setIfInBounds 0 true).setIfInBounds 1 true).setIfInBounds 2 true).setIfInBounds 3 true).setIfInBounds 4 true).setIfInBounds 5 true).setIfInBounds 6 true).setIfInBounds 7 true).setIfInBounds 8 true).setIfInBounds 9 true).setIfInBounds 10 true).setIfInBounds 11 true).setIfInBounds 12 true).setIfInBounds 13 true).setIfInBounds 14 true) 15 = true := by kernel_rfl
theorem sb_221_6_16 : softB op_221_6 #[true, true, true, true, true, true, true, true, true, false, true, true, true, true, true, true, true] (((((((((((((((((Array.replicate 17 false).setIfInBounds 0 true).setIfInBounds 1 true).setIfInBounds 2 true).setIfInBounds 3 true).setIfInBounds 4 true).setIfInBounds 5 true).setIfInBounds 6 true).setIfInBounds 7 true).setIfInBounds 8 true).setIfInBounds 9 true).setIfInBounds 10 true).setIfInBounds 11 true).setIfInBounds 12 true).setIfInBounds 13 true).setIfInBounds 14 true).setIfInBounds 15 true) 16 = true := by kernel_rfl
theorem sb_221_6_17 : hardB op_221_6 ((((((((((((((((((Array.replicate 17 false).setIfInBounds 0 true).setIfInBounds 1 true).setIfInBounds 2 true).setIfInBounds 3 true).setIfInBounds 4 true).setIfInBounds 5 true).setIfInBounds 6 true).setIfInBounds 7 true).setIfInBounds 8 true).setIfInBounds 9 true).setIfInBounds 10 true).setIfInBounds 11 true).setIfInBounds 12 true).setIfInBounds 13 true).setIfInBounds 14 true).setIfInBounds 15 true).setIfInBounds 16 true) [] = true := by kernel_rfl
theorem sb_221_7_0 : softB op_221_7 #[true, true, true, true, true, true, true, true, true, true, true, true, true, true, true, false, true] (Array.replicate 17 false) 0 = true := by kernel_rfl
theorem sb_221_7_1 : softB op_221_7 #[true, true, true, true, true, true, true, true, true, true, true, true, true, true, true, false, true] ((Array.replicate 17 false).setIfInBounds 0 true) 1 = true := by kernel_rfl
theorem sb_221_7_2 : softB op_221_7 #[true, true, true, true, true, true, true, true, true, true, true, true, true, true, true, false, true] (((Array.replicate 17 false).setIfInBounds 0 true).setIfInBounds 1 true) 2 = true := by kernel_rfl
theorem sb_221_7_3 : softB op_221_7 #[true, true, true, true, true, true, true, true, true, true, true, true, true, true, true, false, true] ((((Array.replicate 17 false).setIfInBounds 0 true).setIfInBounds 1 true).setIfInBounds 2 true) 3 = true := by kernel_rfl
theorem sb_221_7_4 : softB op_221_7 #[true, true, true, true, true, true, true, true, true, true, true, true, true, true, true, false, true] (((((Array.replicate 17 false).setIfInBounds 0 true).setIfInBounds 1 true).setIfInBounds 2 true).setIfInBounds 3 true) 4 = true := by kernel_rfl
theorem sb_221_7_5 : softB op_221_7 #[true, true, true, true, true, true, true, true, true, true, true, true, true, true, true, false, true] ((((((Array.replicate 17 false).setIfInBounds 0 true).setIfInBounds 1 true).setIfInBounds 2 true).setIfInBounds 3 true).setIfInBounds 4 true) 5 = true := by kernel_rfl
theorem sb_221_7_6 : softB op_221_7 #[true, true, true, true, true, true, true, true, true, true, true, true, true, true, true, false, true] (((((((Array.replicate 17 false).setIfInBounds 0 true).setIfInBounds 1 true).setIfInBounds 2 true).setIfInBounds 3 true).setIfInBounds 4 true).setIfInBounds 5 true) 6 = true := by kernel_rfl
theorem sb_221_7_7 : softB op_221_7 #[true, true, true, true, true, true, true, true, true, true, true, true, true, true, true, false, true] ((((((((Array.replicate 17 false).setIfInBounds 0 true).setIfInBounds 1 true).setIfInBounds 2 true).setIfInBounds 3 true).setIfInBounds 4 true).setIfInBounds 5 true).setIfInBounds 6 true) 7 = true := by kernel_rfl
theorem sb_221_7_8 : softB op_221_7 #[true, true, true, true, true, true, true, true, true, true, true, true, true, true, true, false, true] (((((((((Array.replicate 17 false).setIfInBounds 0 true).setIfInBounds 1 true).setIfInBounds 2 true).setIfInBounds 3 true).setIfInBounds 4 true).setIfInBounds 5 true).setIfInBounds 6 true).setIfInBounds 7 true) 8 = true := by kernel_rfl
theorem sb_221_7_9 : softB op_221_7 #[true, true, true, true, true, true, true, true, true, true, true, true, true, true, true, false, true] ((((((((((Array.replicate 17 false).setIfInBounds 0 true).setIfInBounds 1 true).setIfInBounds 2 true).setIfInBounds 3 true).setIfInBounds 4 true).setIfInBounds 5 true).setIfInBounds 6 true).setIfInBounds 7 true).setIfInBounds 8 true) 9 = true := by kernel_rfl
theorem sb_221_7_10 : softB op_221_7 #[true, true, true, true, true, true, true, true, true, true, true, true, true, true, true, false, true] (((((((((((Array.replicate 17 false).setIfInBounds 0 true).setIfInBounds 1 true).setIfInBounds 2 true).setIfInBounds 3 true).setIfInBounds 4 true).setIfInBounds 5 true).setIfInBounds 6 true).setIfInBounds 7 true).setIfInBounds 8 true).setIfInBounds 9 true) 10 = true := by kernel_rfl
theorem sb_221_7_11 : softB op_221_7 #[true, true, true, true, true, true, true, true, true, true, true, true, true, true, true, false, true] ((((((((((((Array.replicate 17 false).setIfInBounds 0 true).setIfInBounds 1 true).setIfInBounds 2 true).setIfInBounds 3 true).setIfInBounds 4 true).setIfInBounds 5 true).setIfInBounds 6 true).setIfInBounds 7 true).setIfInBounds 8 true).setIfInBounds 9 true).setIfInBounds 10 true) 11 = true := by kernel_rfl
theorem sb_221_7_12 : softB op_221_7 #[true, true, true, true, true, true, true, true, true, true, true, true, true, true, true, false, true] (((((((((((((Array.replicate 17 false).setIfInBounds 0 true).setIfInBounds 1 true).setIfInBounds 2 true).setIfInBounds 3 true).setIfInBounds 4 true).setIfInBounds 5 true).setIfInBounds 6 true).setIfInBounds 7 true).setIfInBounds 8 true).setIfInBounds 9 true).setIfInBounds 10 true).setIfInBounds 11 true) 12 = true := by kernel_rfl
theorem sb_221_7_13 : softB op_221_7 #[true, true, true, true, true, true, true, true, true, true, true, true, true, true, true, false, true] ((((((((((((((Array.replicate 17 false).setIfInBounds 0 true).setIfInBounds 1 true).setIfInBounds 2 true).setIfInBounds 3 true).setIfInBounds 4 true).setIfInBounds 5 true).setIfInBounds 6 true).setIfInBounds 7 true).setIfInBounds 8 true).setIfInBounds 9 true).setIfInBounds 10 true).setIfInBounds 11 true).setIfInBounds 12 true) 13 = true := by kernel_rfl
theorem sb_221_7_14 : hardB op_221_7 (((((((((((((((Array.replicate 17 false).setIfInBounds 0 true).setIfInBounds 1 true).setIfInBounds 2 true).setIfInBounds 3 true).setIfInBounds 4 true).setIfInBounds 5 true).setIfInBounds 6 true).setIfInBounds 7 true).setIfInBounds 8 true).setIfInBounds 9 true).setIfInBounds 10 true).setIfInBounds 11 true).setIfInBounds 12 true).setIfInBounds 13 true) [14] = true := by kernel_rfl
theorem sb_221_7_15 : hardB op_221_7 ((((((((((((((((Array.replicate 17 false).setIfInBounds 0 true).setIfInBounds 1 true).setIfInBounds 2 true).setIfInBounds 3 true).setIfInBounds 4 true).setIfInBounds 5 true).setIfInBounds 6 true).setIfInBounds 7 true).setIfInBounds 8 true).setIfInBounds 9 true).setIfInBounds 10 true).setIfInBounds 11 true).setIfInBounds 12 true).setIfInBounds 13 true).setIfInBounds 14 true) [15] = true := by kernel_rfl
theorem sb_221_7_16 : softB op_221_7 #[true, true, true, true, true, true, true, true, true, true, true, true, true, true, true, false, true] (((((((((((((((((Array.replicate 17 false).setIfInBounds 0 true).setIfInBounds 1 true).setIfInBounds 2 true).setIfInBounds 3 true).setIfInBounds 4 true).setIfInBounds 5 true).setIfInBounds 6 true).setIfInBounds 7 true).setIfInBounds 8 true).setIfInBounds 9 true).setIfInBounds 10 true).setIfInBounds 11 true).setIfInBounds 12 true).setIfInBounds 13 true).setIfInBounds 14 true).setIfInBounds 15 true) 16 = true := by kernel_rfl
theorem sb_221_7_17 : hardB op_221_7 ((((((((((((((((((Array.replicate 17 false).setIfInBounds 0 true).setIfInBounds 1 true).setIfInBounds 2 true).setIfInBounds 3 true).setIfInBounds 4 true).setIfInBounds 5 true).setIfInBounds 6 true).setIfInBounds 7 true).setIfInBounds 8 true).setIfInBounds 9 true).setIfInBounds 10 true).setIfInBounds 11 true).setIfInBounds 12 true).setIfInBounds 13 true).setIfInBounds 14 true).setIfInBounds 15 true).setIfInBounds 16 true) [] = true := by kernel_rfl
/- (*graph.Graph).snapshot -/
def m221_w1 (n : Nat) (t : Trees) (s : Store) (d : Dev) (l1 : List Entry) (mm : Nat) : (List File) → Int → Option ((List File) × Int) := it2 (fun lp1 l2 c2 =>
cond (decide (c2 < (l1.length : Int))) (
Option.bind (ixL l1 c2) fun x1 =>
ob3 (m219 n t s d x1.id) fun c4 l4 c5 =>
Option.bind (ixL l1 c2) fun x2 =>
Option.bind (ixL l1 c2) fun x3 =>
Option.bind (apd l2 ({ path := x2.path, data := l4, mode := x3.mode } : File)) fun l5 =>
lp1 l5 (wi (c2 + 1))) (
some (l2, c2))) mm
def m221 (n : Nat) (g : Graph) (t : Trees) (s : Store) (d : Dev) (tree : Int) : Option ((List File)) :=
ob2 (m279 n t s d tree) fun l1 c1 =>
ob2 (m221_w1 n t s d l1 n ([] : List File) 0) fun l3 c3 =>
some l3
theorem t221 {n : Nat} {C : List Chunk} {rl1 : List File} {b1 : Nat} {g : Graph} {b2 : Nat} {t : Trees} {b3 : Nat} {s : Store} {b4 : Nat} {d : Dev} {v1 : Value} {g1 : List Chunk} {v2 : Value} {g2 : List Chunk} {v3 : Value} {g3 : List Chunk} {v4 : Value} {g4 : List Chunk} {tree : Int} (ho1 : Own rByte v1 d.blk g1) (ho2 : Own rByte v2 d.base g2) (ho3 : Own rInt v3 d.at_ g3) (ho4 : Own rByte v4 d.data g4)  (hm : m221 n g t s d tree = some rl1) : Trip Tryz.prog 221 #[.pointer (some ⟨b1, 0, none⟩), .int .i64 tree] ([[(b1, .cells (Graph.enc (.pointer (some ⟨b2, 0, none⟩)) g).toArray 179 (0, 0))], [(b2, .cells (Trees.enc (.pointer (some ⟨b3, 0, none⟩)) t).toArray 169 (0, 0))], [(b3, .cells (Store.enc (.pointer (some ⟨b4, 0, none⟩)) s).toArray 126 (0, 0))], [(b4, .cells (Dev.enc (v1) (v2) (v3) (v4) d).toArray 85 (0, 0))], g1, g2, g3, g4] ++ [C]) (fun u S' => ∃ (ev1 : Value), ∃ (eg1 : List Chunk), ev1 = u ∧ S' = [[(b1, .cells (Graph.enc (.pointer (some ⟨b2, 0, none⟩)) g).toArray 179 (0, 0))], [(b2, .cells (Trees.enc (.pointer (some ⟨b3, 0, none⟩)) t).toArray 169 (0, 0))], [(b3, .cells (Store.enc (.pointer (some ⟨b4, 0, none⟩)) s).toArray 126 (0, 0))], [(b4, .cells (Dev.enc (v1) (v2) (v3) (v4) d).toArray 85 (0, 0))], g1, g2, g3, g4, eg1] ++ [C] ∧ Own rFile ev1 rl1 eg1) := by
  refine fn_entry (args := [.pointer (some ⟨b1, 0, none⟩), .int .i64 tree]) Tryz.func221 rfl Tryz.ntmps221 rfl (fun w0 => ?_)
  refine c_seq ?_
  refine c_region ?_
  have ho5 : Own rFile (.slice none 0 0) [] [] := Own.nil
  refine o_emp ?_
  refine o_L (y_assign rfl) rfl rfl ?_
  refine o_nil0 rfl ?_
  refine c_seq ?_
  refine c_region ?_
  refine o_T (y_move rfl) rfl ?_
  refine o_T (y_nilck rfl) rfl ?_
  refine o_T (y_fa fl_179_0 rfl) rfl ?_
  refine o_ld one_29 rfl (ms m0) (At.got (At.refl.comp Graph.a_t)) rfl ?_
  refine o_T (y_move rfl) rfl ?_
  obtain ⟨l1, c1, hx1, hm⟩ := bd2 hm
  refine o_callC en_279 rfl (s_skip (s_skip (s_take (s_take (s_take (s_take (s_take (s_take (s_take s_nil))))))))) (t279 ho1 ho2 ho3 ho4 hx1) rfl (fun u1 S1 hR1 => ?_)
  obtain ⟨v5, g5, rfl, rfl, ho6⟩ := hR1
  refine o_rest ?_
  refine o_T (y_move rfl) rfl ?_
  refine o_T (y_extract rfl rfl) rfl ?_
  refine o_T (y_extract rfl rfl) rfl ?_
  refine o_L (y_assign rfl) rfl rfl ?_
  refine o_L (y_assign rfl) rfl rfl ?_
  refine o_nil0 rfl ?_
  refine c_seq ?_
  refine c_region ?_
  have ho7 : Own rFile (.slice none 0 0) [] [] := Own.nil
  refine o_emp ?_
  refine o_L (y_assign rfl) rfl rfl ?_
  refine o_nil0 rfl ?_
  refine c_seq ?_
  refine c_seq ?_
  refine c_region ?_
  refine o_L (y_assign rfl) rfl rfl ?_
  refine o_nil0 rfl ?_
  obtain ⟨l3, c3, hj1, hm⟩ := bd2 hm
  refine c_joinP (n := 1) (fun sh G => ∃ (v7 : Value), ∃ (g7 : List Chunk), sh = [(7, v7), (8, .int .i64 c3)] ∧ G = [g7] ∧ Own rFile v7 l3 g7) (s_take (s_take (s_take (s_take (s_take (s_take (s_take (s_take (s_take (s_skip (s_take (s_take s_nil)))))))))))) (.s .z) (fun _ _ h => h) ?_ ?_
  · skip
    refine c_block ?_
    refine c_loopP (n := 1) (fun mm sh G => ∃ (l2 : List File), ∃ (c2 : Int), ∃ (v6 : Value), ∃ (g6 : List Chunk), sh = [(7, v6), (8, .int .i64 c2)] ∧ G = [g6] ∧ m221_w1 n t s d l1 mm l2 c2 = some (l3, c3) ∧ Own rFile v6 l2 g6) n (s_take (s_take (s_take (s_take (s_take (s_take (s_take (s_take (s_take (s_skip (s_take (s_take s_nil)))))))))))) (.s .z) ⟨_, _, ⟨_, _, (.slice none 0 0), _, rfl, rfl, hj1, ho7⟩, ⟨rfl, rfl, trivial⟩, _, (s_take (s_take (s_take (s_take (s_take (s_take (s_take (s_take (s_take (s_skip (s_take (s_take s_nil))))))))))))⟩ ?_
    rintro mm sh G ⟨l2, c2, v6, g6, rfl, rfl, hm, ho8⟩
    obtain ⟨mm1, rfl, hm⟩ := it2_s hm
    refine c_seq ?_
    refine c_seq ?_
    refine c_region ?_
    refine o_T (y_move rfl) rfl ?_
    refine o_T (y_move rfl) rfl ?_
    refine o_T (y_lenR ho6.rd Tryz.underlying277 rfl) rfl ?_
    refine o_T (y_lss rfl rfl) rfl ?_
    refine o_nil1 24 rfl rfl ?_
    refine c_cond rfl (fun h1 => ?_) (fun h1 => ?_)
    · have hm := cd_t h1 hm
      refine c_skip ?_
      refine c_seq ?_
      refine c_block ?_
      refine c_seq ?_
      refine c_draw #[true, true, true, true, true, true, true, true, true, false, true, true, true, true, true, true, true] rfl (n := 17) rfl ?_
      refine d_T 0 rfl sb_221_6_0 rfl (y_move rfl) rfl ?_
      refine d_T 1 rfl sb_221_6_1 rfl (y_nilck rfl) rfl ?_
      refine d_T 2 rfl sb_221_6_2 rfl (y_fa fl_179_0 rfl) rfl ?_
      refine d_ld 3 rfl sb_221_6_3 one_29 rfl (fun x hx => hx) (ms (ms (ms (ms (ms (ms (ms (ms (ms m0))))))))) (At.got (At.refl.comp Graph.a_t)) rfl ?_
      refine d_T 4 rfl sb_221_6_4 rfl (y_move rfl) rfl ?_
      refine d_T 5 rfl sb_221_6_5 rfl (y_move rfl) rfl ?_
      obtain ⟨x1, hx2, hm⟩ := bd hm
      obtain ⟨b5, w1, cs1, y1, z1, vs1, hc1, ha1, hr1, hy1⟩ := ho6.rd.ix hx2
      obtain rfl : vs1 = Entry.enc x1 := hr1
      refine d_T 6 rfl sb_221_6_6 rfl (hy1 sl_277 rfl rfl rfl) rfl ?_
      refine d_T 7 rfl sb_221_6_7 rfl (y_fa fl_279_1 rfl) rfl ?_
      refine d_ld 8 rfl sb_221_6_8 one_3 rfl (fun x hx => hx) (ms (ms (ms (ms (ms (ms (ms (ms (mg hc1))))))))) (At.getA (ha1.comp Entry.a_id)) rfl ?_
      refine d_hard 9 rfl sb_221_6_9 ?_
      obtain ⟨c4, l4, c5, hx3, hm⟩ := bd3 hm
      refine o_callC en_219 rfl (s_skip (s_take (s_take (s_take (s_take (s_take (s_take (s_take s_nil)))))))) (t219 ho1 ho2 ho3 ho4 hx3) rfl (fun u2 S2 hR2 => ?_)
      obtain ⟨v8, g8, rfl, rfl, ho10⟩ := hR2
      refine o_rest ?_
      refine o_stop (fun h => nomatch h) ?_
      refine d_T 10 rfl sb_221_6_10 rfl (y_move rfl) rfl ?_
      refine d_T 11 rfl sb_221_6_11 rfl (y_extract rfl rfl) rfl ?_
      refine d_T 12 rfl sb_221_6_12 rfl (y_extract rfl rfl) rfl ?_
      refine d_T 13 rfl sb_221_6_13 rfl (y_extract rfl rfl) rfl ?_
      refine d_L 14 rfl sb_221_6_14 rfl (y_assign rfl) rfl rfl ?_
      refine d_L 15 rfl sb_221_6_15 rfl (y_assign rfl) rfl rfl ?_
      refine d_L 16 rfl sb_221_6_16 rfl (y_assign rfl) rfl rfl ?_
      refine d_nil0 sb_221_6_17 rfl ?_
      refine c_draw #[true, true, true, true, true, true, true, true, true, true, true, true, true, true, true, false, true] rfl (n := 17) rfl ?_
      refine d_T 0 rfl sb_221_7_0 rfl (y_move rfl) rfl ?_
      refine d_T 1 rfl sb_221_7_1 rfl (y_move rfl) rfl ?_
      refine d_T 2 rfl sb_221_7_2 rfl (y_move rfl) rfl ?_
      obtain ⟨x2, hx4, hm⟩ := bd hm
      obtain ⟨b6, w2, cs2, y2, z2, vs2, hc2, ha2, hr2, hy2⟩ := ho6.rd.ix hx4
      obtain rfl : vs2 = Entry.enc x2 := hr2
      refine d_T 3 rfl sb_221_7_3 rfl (hy2 sl_277 rfl rfl rfl) rfl ?_
      refine d_T 4 rfl sb_221_7_4 rfl (y_fa fl_279_0 rfl) rfl ?_
      refine d_ld 5 rfl sb_221_7_5 one_9 rfl (fun x hx => hx) (ms (ms (ms (ms (ms (ms (ms (ms (ms (mg hc2)))))))))) (At.getA (ha2.comp Entry.a_path)) rfl ?_
      refine d_T 6 rfl sb_221_7_6 rfl (y_move rfl) rfl ?_
      refine d_b2s 7 rfl sb_221_7_7 (fun x hx => hx) Tryz.underlying81 Tryz.underlying5 Tryz.underlying9 rfl ho10.rd (fun _ hz => (ms (ms (ms (ms (ms (ms (ms (mg hz))))))))) rfl ?_
      refine d_T 8 rfl sb_221_7_8 rfl (y_move rfl) rfl ?_
      refine d_T 9 rfl sb_221_7_9 rfl (y_move rfl) rfl ?_
      obtain ⟨x3, hx5, hm⟩ := bd hm
      obtain ⟨b7, w3, cs3, y3, z3, vs3, hc3, ha3, hr3, hy3⟩ := ho6.rd.ix hx5
      obtain rfl : vs3 = Entry.enc x3 := hr3
      refine d_T 10 rfl sb_221_7_10 rfl (hy3 sl_277 rfl rfl rfl) rfl ?_
      refine d_T 11 rfl sb_221_7_11 rfl (y_fa fl_279_2 rfl) rfl ?_
      refine d_ld 12 rfl sb_221_7_12 one_3 rfl (fun x hx => hx) (ms (ms (ms (ms (ms (ms (ms (ms (ms (mg hc3)))))))))) (At.getA (ha3.comp Entry.a_mode)) rfl ?_
      refine d_T 13 rfl sb_221_7_13 rfl (y_build st_71 rfl (fbU rfl File.u_path rfl rfl (fbU rfl File.u_data rfl rfl (fbU rfl File.u_mode rfl rfl fbU0)))) rfl ?_
      refine d_hard 14 rfl sb_221_7_14 ?_
      refine o_bs1 sz_57 rfl rfl rfl rfl rfl rfl (fun b8 => ?_)
      refine o_stop (fun _ => (fun x hx => (ms hx))) ?_
      refine d_hard 15 rfl sb_221_7_15 ?_
      obtain ⟨l5, hx6, hm⟩ := bd hm
      refine o_appR (R := rFile) (a := ({ path := x2.path, data := l4, mode := x3.mode } : File)) sz_57 rfl rfl rfl rfl ho8 rfl hx6 (Sel.e (s_get (ks (ks (ks (ks (ks (ks (ks (ks (ks k0))))))))) (s_take s_nil))) rfl (fun v9 g9 ho11 => ?_)
      refine o_stop (fun h => nomatch h) ?_
      refine d_L 16 rfl sb_221_7_16 rfl (y_assign rfl) rfl rfl ?_
      refine d_nil0 sb_221_7_17 rfl ?_
      refine c_region ?_
      refine o_T (y_move rfl) rfl ?_
      refine o_T (y_add rfl rfl rfl) rfl ?_
      refine o_L (y_assign rfl) rfl rfl ?_
      refine o_nil0 rfl ?_
      exact ⟨mm1, Nat.lt_succ_self _, _, _, ⟨_, _, v9, _, rfl, rfl, hm, ho11⟩, ⟨rfl, rfl, trivial⟩, ⟨rfl, rfl⟩, _, (s_take (s_take (s_take (s_take (s_take (s_take (s_take (s_take (s_skip (s_take (s_take (s_take s_nil))))))))))))⟩
    · have hm := cd_f h1 hm
      refine c_exit ?_
      obtain ⟨rfl, rfl⟩ := pr2 hm
      exact ⟨_, _, ⟨v6, _, rfl, rfl, ho8⟩, ⟨rfl, rfl, trivial⟩, ⟨rfl, rfl⟩, _, (s_take (s_take (s_take (s_take (s_take (s_take (s_take (s_take (s_take (s_take (s_take s_nil)))))))))))⟩
  · rintro sh G ⟨v7, g7, rfl, rfl, ho9⟩
    refine c_seq ?_
    refine c_region ?_
    refine o_T (y_move rfl) rfl ?_
    refine o_L (y_assign rfl) rfl rfl ?_
    refine o_nil0 rfl ?_
    refine c_ret ?_
    obtain rfl := p1 hm
    refine fun aX wX heX hsX => ret1 Tryz.results221 heX rfl (s_get (ks (ks (ks (ks (ks (ks (ks (ks (ks k0))))))))) (s_get (ks k0) (s_get (ks k0) (s_get (ks k0) (s_get (ks k0) (s_get (ks k0) (s_get (ks k0) (s_get (ks k0) (s_take (s_skip (s_take s_nil))))))))))) ?_
    exact ⟨v7, _, rfl, rfl, ho9⟩
end Go.Proofs.Qxb6500350aGreat
