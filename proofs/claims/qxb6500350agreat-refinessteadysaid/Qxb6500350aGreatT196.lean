/- MADE BY PROGRAM (tools350/mir.py): mirror and walk. -/
import Derived.Test.Qxb6500350aGreatF2
import Derived.Test.Qxb6500350aGreatT262
import Derived.Test.Qxb6500350aGreatT194
set_option linter.unusedVariables false
set_option linter.unusedSimpArgs false
set_option maxRecDepth 20000
set_option maxHeartbeats 4000000
namespace Go.Proofs.Qxb6500350aGreat
open Go.Eng

def op_196_9 : Array Go.Oper := #[{ dst := some 33, op := Go.Op.move (Go.Operand.tmp 1), type := 209, pos := "check.go:47", after := #[], guard := none }, { dst := some 34, op := Go.Op.move (Go.Operand.tmp 5), type := 3, pos := "check.go:47", after := #[], guard := none }, { dst := some 35, op := Go.Op.indexAddr 209 (Go.Operand.tmp 33) (Go.Operand.tmp 34), type := 0, pos := "check.go:47", after := #[{ on := 0, ground := Go.Ground.data }, { on := 1, ground := Go.Ground.data }], guard := none }, { dst := some 36, op := Go.Op.fieldAddr 213 (Go.Operand.tmp 35) 0, type := 0, pos := "check.go:47", after := #[{ on := 2, ground := Go.Ground.data }], guard := none }, { dst := some 37, op := Go.Op.load 4 (Go.Operand.tmp 36), type := 4, pos := "check.go:47", after := #[{ on := 3, ground := Go.Ground.data }], guard := none }, { dst := some 38, op := Go.Op.unOp Go.UnOp.not 4 (Go.Operand.tmp 37), type := 4, pos := "check.go:47", after := #[{ on := 4, ground := Go.Ground.data }], guard := none }, { dst := some 39, op := Go.Op.move (Go.Operand.tmp 38), type := 4, pos := "check.go:47", after := #[{ on := 5, ground := Go.Ground.data }], guard := none }, { dst := some 40, op := Go.Op.move (Go.Operand.tmp 0), type := 29, pos := "check.go:47", after := #[{ on := 6, ground := Go.Ground.guard }], guard := some (6, true) }, { dst := some 41, op := Go.Op.move (Go.Operand.tmp 1), type := 209, pos := "check.go:47", after := #[{ on := 6, ground := Go.Ground.guard }], guard := some (6, true) }, { dst := some 42, op := Go.Op.move (Go.Operand.tmp 5), type := 3, pos := "check.go:47", after := #[{ on := 6, ground := Go.Ground.guard }], guard := some (6, true) }, { dst := some 43, op := Go.Op.indexAddr 209 (Go.Operand.tmp 41) (Go.Operand.tmp 42), type := 0, pos := "check.go:47", after := #[{ on := 8, ground := Go.Ground.data }, { on := 9, ground := Go.Ground.data }, { on := 6, ground := Go.Ground.guard }], guard := some (6, true) }, { dst := some 44, op := Go.Op.fieldAddr 213 (Go.Operand.tmp 43) 2, type := 0, pos := "check.go:47", after := #[{ on := 10, ground := Go.Ground.data }, { on := 6, ground := Go.Ground.guard }], guard := some (6, true) }, { dst := some 45, op := Go.Op.load 3 (Go.Operand.tmp 44), type := 3, pos := "check.go:47", after := #[{ on := 11, ground := Go.Ground.data }, { on := 6, ground := Go.Ground.guard }], guard := some (6, true) }, { dst := some 46, op := Go.Op.nilCheck (Go.Operand.tmp 40), type := 0, pos := "check.go:47", after := #[{ on := 7, ground := Go.Ground.data }, { on := 6, ground := Go.Ground.guard }], guard := some (6, true) }, { dst := some 47, op := Go.Op.fieldAddr 169 (Go.Operand.tmp 46) 1, type := 0, pos := "check.go:47", after := #[{ on := 13, ground := Go.Ground.data }, { on := 6, ground := Go.Ground.guard }], guard := some (6, true) }, { dst := some 48, op := Go.Op.indexAddr 167 (Go.Operand.tmp 47) (Go.Operand.tmp 45), type := 0, pos := "check.go:47", after := #[{ on := 14, ground := Go.Ground.data }, { on := 12, ground := Go.Ground.data }, { on := 6, ground := Go.Ground.guard }], guard := some (6, true) }, { dst := some 49, op := Go.Op.load 3 (Go.Operand.tmp 48), type := 3, pos := "check.go:47", after := #[{ on := 15, ground := Go.Ground.data }, { on := 6, ground := Go.Ground.guard }], guard := some (6, true) }, { dst := some 50, op := Go.Op.binOp Go.BinOp.neq 3 (Go.Operand.tmp 49) (Go.Operand.const (Go.Value.int Go.IntKind.i64 1)) 3, type := 4, pos := "check.go:47", after := #[{ on := 16, ground := Go.Ground.data }, { on := 6, ground := Go.Ground.guard }], guard := some (6, true) }, { dst := some 51, op := Go.Op.pick (Go.Operand.tmp 39) (Go.Operand.tmp 50) (Go.Operand.const (Go.Value.bool false)), type := 4, pos := "check.go:47", after := #[{ on := 6, ground := Go.Ground.data }, { on := 17, ground := Go.Ground.data }], guard := none }]
def op_196_12 : Array Go.Oper := #[{ dst := some 57, op := Go.Op.move (Go.Operand.tmp 0), type := 29, pos := "check.go:51", after := #[], guard := none }, { dst := some 58, op := Go.Op.move (Go.Operand.tmp 1), type := 209, pos := "check.go:51", after := #[], guard := none }, { dst := some 59, op := Go.Op.move (Go.Operand.tmp 5), type := 3, pos := "check.go:51", after := #[], guard := none }, { dst := some 60, op := Go.Op.indexAddr 209 (Go.Operand.tmp 58) (Go.Operand.tmp 59), type := 0, pos := "check.go:51", after := #[{ on := 1, ground := Go.Ground.data }, { on := 2, ground := Go.Ground.data }], guard := none }, { dst := some 61, op := Go.Op.fieldAddr 213 (Go.Operand.tmp 60) 2, type := 0, pos := "check.go:51", after := #[{ on := 3, ground := Go.Ground.data }], guard := none }, { dst := some 62, op := Go.Op.load 3 (Go.Operand.tmp 61), type := 3, pos := "check.go:51", after := #[{ on := 4, ground := Go.Ground.data }], guard := none }, { dst := some 63, op := Go.Op.nilCheck (Go.Operand.tmp 57), type := 0, pos := "check.go:51", after := #[{ on := 0, ground := Go.Ground.data }], guard := none }, { dst := some 64, op := Go.Op.fieldAddr 169 (Go.Operand.tmp 63) 1, type := 0, pos := "check.go:51", after := #[{ on := 6, ground := Go.Ground.data }], guard := none }, { dst := some 65, op := Go.Op.indexAddr 167 (Go.Operand.tmp 64) (Go.Operand.tmp 62), type := 0, pos := "check.go:51", after := #[{ on := 7, ground := Go.Ground.data }, { on := 5, ground := Go.Ground.data }], guard := none }, { dst := some 66, op := Go.Op.load 3 (Go.Operand.tmp 65), type := 3, pos := "check.go:51", after := #[{ on := 8, ground := Go.Ground.data }], guard := none }, { dst := some 67, op := Go.Op.binOp Go.BinOp.neq 3 (Go.Operand.tmp 66) (Go.Operand.const (Go.Value.int Go.IntKind.i64 2)) 3, type := 4, pos := "check.go:51", after := #[{ on := 9, ground := Go.Ground.data }], guard := none }]
def op_196_14 : Array Go.Oper := #[{ dst := some 69, op := Go.Op.move (Go.Operand.tmp 0), type := 29, pos := "check.go:54", after := #[], guard := none }, { dst := some 70, op := Go.Op.nilCheck (Go.Operand.tmp 69), type := 0, pos := "check.go:54", after := #[{ on := 0, ground := Go.Ground.data }], guard := none }, { dst := some 71, op := Go.Op.fieldAddr 169 (Go.Operand.tmp 70) 0, type := 0, pos := "check.go:54", after := #[{ on := 1, ground := Go.Ground.data }], guard := none }, { dst := some 72, op := Go.Op.load 28 (Go.Operand.tmp 71), type := 28, pos := "check.go:54", after := #[{ on := 2, ground := Go.Ground.data }], guard := none }, { dst := some 73, op := Go.Op.move (Go.Operand.tmp 1), type := 209, pos := "check.go:54", after := #[], guard := none }, { dst := some 74, op := Go.Op.move (Go.Operand.tmp 5), type := 3, pos := "check.go:54", after := #[], guard := none }, { dst := some 75, op := Go.Op.indexAddr 209 (Go.Operand.tmp 73) (Go.Operand.tmp 74), type := 0, pos := "check.go:54", after := #[{ on := 4, ground := Go.Ground.data }, { on := 5, ground := Go.Ground.data }], guard := none }, { dst := some 76, op := Go.Op.fieldAddr 213 (Go.Operand.tmp 75) 2, type := 0, pos := "check.go:54", after := #[{ on := 6, ground := Go.Ground.data }], guard := none }, { dst := some 77, op := Go.Op.load 3 (Go.Operand.tmp 76), type := 3, pos := "check.go:54", after := #[{ on := 7, ground := Go.Ground.data }], guard := none }, { dst := some 78, op := Go.Op.call { callee := Go.Callee.value (Go.Operand.func 194), args := #[Go.Operand.tmp 72, Go.Operand.tmp 77], argTypes := #[28, 3] }, type := 207, pos := "check.go:54", after := #[{ on := 3, ground := Go.Ground.data }, { on := 8, ground := Go.Ground.data }], guard := none }, { dst := some 68, op := Go.Op.move (Go.Operand.tmp 78), type := 207, pos := "check.go:54", after := #[{ on := 9, ground := Go.Ground.data }], guard := none }, { dst := some 79, op := Go.Op.extract (Go.Operand.tmp 68) 0, type := 3, pos := "check.go:54", after := #[{ on := 10, ground := Go.Ground.data }], guard := none }, { dst := some 80, op := Go.Op.extract (Go.Operand.tmp 68) 1, type := 81, pos := "check.go:54", after := #[{ on := 10, ground := Go.Ground.data }, { on := 14, ground := Go.Ground.gcOnly Go.Departure.lateStores }], guard := none }, { dst := some 81, op := Go.Op.extract (Go.Operand.tmp 68) 2, type := 73, pos := "check.go:54", after := #[{ on := 10, ground := Go.Ground.data }, { on := 15, ground := Go.Ground.gcOnly Go.Departure.lateStores }], guard := none }, { dst := some 8, op := Go.Op.assign (Go.Operand.tmp 79), type := 3, pos := "check.go:54", after := #[{ on := 11, ground := Go.Ground.data }, { on := 9, ground := Go.Ground.chain }, { on := 0, ground := Go.Ground.phase }, { on := 1, ground := Go.Ground.phase }, { on := 2, ground := Go.Ground.phase }, { on := 3, ground := Go.Ground.phase }, { on := 4, ground := Go.Ground.phase }, { on := 5, ground := Go.Ground.phase }, { on := 6, ground := Go.Ground.phase }, { on := 7, ground := Go.Ground.phase }, { on := 8, ground := Go.Ground.phase }, { on := 9, ground := Go.Ground.phase }, { on := 10, ground := Go.Ground.phase }, { on := 11, ground := Go.Ground.phase }, { on := 12, ground := Go.Ground.textOnly Go.Departure.lateStores }, { on := 13, ground := Go.Ground.textOnly Go.Departure.lateStores }], guard := none }, { dst := some 9, op := Go.Op.assign (Go.Operand.tmp 80), type := 81, pos := "check.go:54", after := #[{ on := 12, ground := Go.Ground.data }, { on := 14, ground := Go.Ground.chain }, { on := 0, ground := Go.Ground.phase }, { on := 1, ground := Go.Ground.phase }, { on := 2, ground := Go.Ground.phase }, { on := 3, ground := Go.Ground.phase }, { on := 4, ground := Go.Ground.phase }, { on := 5, ground := Go.Ground.phase }, { on := 6, ground := Go.Ground.phase }, { on := 7, ground := Go.Ground.phase }, { on := 8, ground := Go.Ground.phase }, { on := 9, ground := Go.Ground.phase }, { on := 10, ground := Go.Ground.phase }, { on := 11, ground := Go.Ground.phase }, { on := 12, ground := Go.Ground.phase }, { on := 13, ground := Go.Ground.textOnly Go.Departure.lateStores }, { on := 14, ground := Go.Ground.phase }], guard := none }, { dst := some 10, op := Go.Op.assign (Go.Operand.tmp 81), type := 73, pos := "check.go:54", after := #[{ on := 13, ground := Go.Ground.data }, { on := 15, ground := Go.Ground.chain }, { on := 0, ground := Go.Ground.phase }, { on := 1, ground := Go.Ground.phase }, { on := 2, ground := Go.Ground.phase }, { on := 3, ground := Go.Ground.phase }, { on := 4, ground := Go.Ground.phase }, { on := 5, ground := Go.Ground.phase }, { on := 6, ground := Go.Ground.phase }, { on := 7, ground := Go.Ground.phase }, { on := 8, ground := Go.Ground.phase }, { on := 9, ground := Go.Ground.phase }, { on := 10, ground := Go.Ground.phase }, { on := 11, ground := Go.Ground.phase }, { on := 12, ground := Go.Ground.phase }, { on := 13, ground := Go.Ground.phase }, { on := 14, ground := Go.Ground.phase }, { on := 15, ground := Go.Ground.phase }], guard := none }]
theorem sb_196_9_0 : softB op_196_9 #[true, true, true, true, true, true, true, true, true, true, true, true, true, true, true, true, true, true, true] (Array.replicate 19 false) 0 = true := by kernel_rfl
theorem sb_196_9_1 : softB op_196_9 #[true, true, true, true, true, true, true, true, true, true, true, true, true, true, true, true, true, true, true] ((Array.replicate 19 false).setIfInBounds 0 true) 1 = true := by kernel_rfl
theorem sb_196_9_2 : softB op_196_9 #[true, true, true, true, true, true, true, true, true, true, true, true, true, true, true, true, true, true, true] (((Array.replicate 19 false).setIfInBounds 0 true).setIfInBounds 1 true) 2 = true := by kernel_rfl
theorem sb_196_9_3 : softB op_196_9 #[true, true, true, true, true, true, true, true, true, true, true, true, true, true, true, true, true, true, true] ((((Array.replicate 19 false).setIfInBounds 0 true).setIfInBounds 1 true).setIfInBounds 2 true) 3 = true := by kernel_rfl
theorem sb_196_9_4 : softB op_196_9 #[true, true, true, true, true, true, true, true, true, true, true, true, true, true, true, true, true, true, true] (((((Array.replicate 19 false).setIfInBounds 0 true).setIfInBounds 1 true).setIfInBounds 2 true).setIfInBounds 3 true) 4 = true := by kernel_rfl
theorem sb_196_9_5 : softB op_196_9 #[true, true, true, true, true, true, true, true, true, true, true, true, true, true, true, true, true, true, true] ((((((Array.replicate 19 false).setIfInBounds 0 true).setIfInBounds 1 true).setIfInBounds 2 true).setIfInBounds 3 true).setIfInBounds 4 true) 5 = true := by kernel_rfl
theorem sb_196_9_6 : softB op_196_9 #[true, true, true, true, true, true, true, true, true, true, true, true, true, true, true, true, true, true, true] (((((((Array.replicate 19 false).setIfInBounds 0 true).setIfInBounds 1 true).setIfInBounds 2 true).setIfInBounds 3 true).setIfInBounds 4 true).setIfInBounds 5 true) 6 = true := by kernel_rfl
theorem sb_196_9_7 : softB op_196_9 #[true, true, true, true, true, true, true, true, true, true, true, true, true, true, true, true, true, true, true] ((((((((Array.replicate 19 false).setIfInBounds 0 true).setIfInBounds 1 true).setIfInBounds 2 true).setIfInBounds 3 true).setIfInBounds 4 true).setIfInBounds 5 true).setIfInBounds 6 true) 7 = true := by kernel_rfl
theorem sb_196_9_8 : softB op_196_9 #[true, true, true, true, true, true, true, true, true, true, true, true, true, true, true, true, true, true, true] (((((((((Array.replicate 19 false).setIfInBounds 0 true).setIfInBounds 1 true).setIfInBounds 2 true).setIfInBounds 3 true).setIfInBounds 4 true).setIfInBounds 5 true).setIfInBounds 6 true).setIfInBounds 7 true) 8 = true := by kernel_rfl
theorem sb_196_9_9 : softB op_196_9 #[true, true, true, true, true, true, true, true, true, true, true, true, true, true, true, true, true, true, true] ((((((((((Array.replicate 19 false).setIfInBounds 0 true).setIfInBounds 1 true).setIfInBounds 2 true).setIfInBounds 3 true).setIfInBounds 4 true).setIfInBounds 5 true).setIfInBounds 6 true).setIfInBounds 7 true).setIfInBounds 8 true) 9 = true := by kernel_rfl
theorem sb_196_9_10 : softB op_196_9 #[true, true, true, true, true, true, true, true, true, true, true, true, true, true, true, true, true, true, true] (((((((((((Array.replicate 19 false).setIfInBounds 0 true).setIfInBounds 1 true).setIfInBounds 2 true).setIfInBounds 3 true).setIfInBounds 4 true).setIfInBounds 5 true).setIfInBounds 6 true).setIfInBounds 7 true).setIfInBounds 8 true).setIfInBounds 9 true) 10 = true := by kernel_rfl
theorem sb_196_9_11 : softB op_196_9 #[true, true, true, true, true, true, true, true, true, true, true, true, true, true, true, true, true, true, true] ((((((((((((Array.replicate 19 false).setIfInBounds 0 true).setIfInBounds 1 true).setIfInBounds 2 true).setIfInBounds 3 true).setIfInBounds 4 true).setIfInBounds 5 true).setIfInBounds 6 true).setIfInBounds 7 true).setIfInBounds 8 true).setIfInBounds 9 true).setIfInBounds 10 true) 11 = true := by kernel_rfl
theorem sb_196_9_12 : softB op_196_9 #[true, true, true, true, true, true, true, true, true, true, true, true, true, true, true, true, true, true, true] (((((((((((((Array.replicate 19 false).setIfInBounds 0 true).setIfInBounds 1 true).setIfInBounds 2 true).setIfInBounds 3 true).setIfInBounds 4 true).setIfInBounds 5 true).setIfInBounds 6 true).setIfInBounds 7 true).setIfInBounds 8 true).setIfInBounds 9 true).setIfInBounds 10 true).setIfInBounds 11 true) 12 = true := by kernel_rfl
theorem sb_196_9_13 : softB op_196_9 #[true, true, true, true, true, true, true, true, true, true, true, true, true, true, true, true, true, true, true] ((((((((((((((Array.replicate 19 false).setIfInBounds 0 true).setIfInBounds 1 true).setIfInBounds 2 true).setIfInBounds 3 true).setIfInBounds 4 true).setIfInBounds 5 true).setIfInBounds 6 true).setIfInBounds 7 true).setIfInBounds 8 true).setIfInBounds 9 true).setIfInBounds 10 true).setIfInBounds 11 true).setIfInBounds 12 true) 13 = true := by kernel_rfl
theorem sb_196_9_14 : softB op_196_9 #[true, true, true, true, true, true, true, true, true, true, true, true, true, true, true, true, true, true, true] (((((((((((((((Array.replicate 19 false).setIfInBounds 0 true).setIfInBounds 1 true).setIfInBounds 2 true).setIfInBounds 3 true).setIfInBounds 4 true).setIfInBounds 5 true).setIfInBounds 6 true).setIfInBounds 7 true).setIfInBounds 8 true).setIfInBounds 9 true).setIfInBounds 10 true).setIfInBounds 11 true).setIfInBounds 12 true).setIfInBounds 13 true) 14 = true := by kernel_rfl
theorem sb_196_9_15 : softB op_196_9 #[true, true, true, true, true, true, true, true, true, true, true, true, true, true, true, true, true, true, true] ((((((((((((((((Array.replicate 19 false).setIfInBounds 0 true).setIfInBounds 1 true).setIfInBounds 2 true).setIfInBounds 3 true).setIfInBounds 4 true).setIfInBounds 5 true).setIfInBounds 6 true).setIfInBounds 7 true).setIfInBounds 8 true).setIfInBounds 9 true).setIfInBounds 10 true).setIfInBounds 11 true).setIfInBounds 12 true).setIfInBounds 13 true).setIfInBounds 14 true) 15 = true := by kernel_rfl
theorem sb_196_9_16 : softB op_196_9 #[true, true, true, true, true, true, true, true, true, true, true, true, true, true, true, true, true, true, true] (((((((((((((((((Array.replicate 19 false).setIfInBounds 0 true).setIfInBounds 1 true).setIfInBounds 2 true).setIfInBounds 3 true).setIfInBounds 4 true).setIfInBounds 5 true).setIfInBounds 6 true).setIfInBounds 7 true).setIfInBounds 8 true).setIfInBounds 9 true).setIfInBounds 10 true).setIfInBounds 11 true).setIfInBounds 12 true).setIfInBounds 13 true).setIfInBounds 14 true).setIfInBounds 15 true) 16 = true := by kernel_rfl
theorem sb_196_9_17 : softB op_196_9 #[true, true, true, true, true, true, true, true, true, true, true, true, true, true, true, true, true, true, true] ((((((((((((((((((Array.replicate 19 false).setIfInBounds 0 true).setIfInBounds 1 true).setIfInBounds 2 true).setIfInBounds 3 true).setIfInBounds 4 true).setIfInBounds 5 true).setIfInBounds 6 true).setIfInBounds 7 true).setIfInBounds 8 true).setIfInBounds 9 true).setIfInBounds 10 true).setIfInBounds 11 true).setIfInBounds 12 true).setIfInBounds 13 true).setIfInBounds 14 true).setIfInBounds 15 true).setIfInBounds 16 true) 17 = true := by kernel_rfl
theorem sb_196_9_18 : softB op_196_9 #[true, true, true, true, true, true, true, true, true, true, true, true, true, true, true, true, true, true, true] (((((((((((((((((((Array.replicate 19 false).setIfInBounds 0 true).setIfInBounds 1 true).setIfInBounds 2 true).setIfInBounds 3 true).setIfInBounds 4 true).setIfInBounds 5 true).setIfInBounds 6 true).setIfInBounds 7 true).setIfInBounds 8 true).setIfInBounds 9 true).setIfInBounds 10 true).setIfInBounds 11 true).setIfInBounds 12 true).setIfInBounds 13 true).setIfInBounds 14 true).setIfInBounds 15 true).setIfInBounds 16 true).setIfInBounds 17 true) 18 = true := by kernel_rfl
theorem sb_196_9_19 : hardB op_196_9 ((((((((((((((((((((Array.replicate 19 false).setIfInBounds 0 true).setIfInBounds 1 true).setIfInBounds 2 true).setIfInBounds 3 true).setIfInBounds 4 true).setIfInBounds 5 true).setIfInBounds 6 true).setIfInBounds 7 true).setIfInBounds 8 true).setIfInBounds 9 true).setIfInBounds 10 true).setIfInBounds 11 true).setIfInBounds 12 true).setIfInBounds 13 true).setIfInBounds 14 true).setIfInBounds 15 true).setIfInBounds 16 true).setIfInBounds 17 true).setIfInBounds 18 true) [] = true := by kernel_rfl
theorem sb_196_12_0 : softB op_196_12 #[true, true, true, true, true, true, true, true, true, true, true] (Array.replicate 11 false) 0 = true := by kernel_rfl
theorem sb_196_12_1 : softB op_196_12 #[true, true, true, true, true, true, true, true, true, true, true] ((Array.replicate 11 false).setIfInBounds 0 true) 1 = true := by kernel_rfl
theorem sb_196_12_2 : softB op_196_12 #[true, true, true, true, true, true, true, true, true, true, true] (((Array.replicate 11 false).setIfInBounds 0 true).setIfInBounds 1 true) 2 = true := by kernel_rfl
theorem sb_196_12_3 : softB op_196_12 #[true, true, true, true, true, true, true, true, true, true, true] ((((Array.replicate 11 false).setIfInBounds 0 true).setIfInBounds 1 true).setIfInBounds 2 true) 3 = true := by kernel_rfl
theorem sb_196_12_4 : softB op_196_12 #[true, true, true, true, true, true, true, true, true, true, true] (((((Array.replicate 11 false).setIfInBounds 0 true).setIfInBounds 1 true).setIfInBounds 2 true).setIfInBounds 3 true) 4 = true := by kernel_rfl
theorem sb_196_12_5 : softB op_196_12 #[true, true, true, true, true, true, true, true, true, true, true] ((((((Array.replicate 11 false).setIfInBounds 0 true).setIfInBounds 1 true).setIfInBounds 2 true).setIfInBounds 3 true).setIfInBounds 4 true) 5 = true := by kernel_rfl
theorem sb_196_12_6 : softB op_196_12 #[true, true, true, true, true, true, true, true, true, true, true] (((((((Array.replicate 11 false).setIfInBounds 0 true).setIfInBounds 1 true).setIfInBounds 2 true).setIfInBounds 3 true).setIfInBounds 4 true).setIfInBounds 5 true) 6 = true := by kernel_rfl
theorem sb_196_12_7 : softB op_196_12 #[true, true, true, true, true, true, true, true, true, true, true] ((((((((Array.replicate 11 false).setIfInBounds 0 true).setIfInBounds 1 true).setIfInBounds 2 true).setIfInBounds 3 true).setIfInBounds 4 true).setIfInBounds 5 true).setIfInBounds 6 true) 7 = true := by kernel_rfl
theorem sb_196_12_8 : softB op_196_12 #[true, true, true, true, true, true, true, true, true, true, true] (((((((((Array.replicate 11 false).setIfInBounds 0 true).setIfInBounds 1 true).setIfInBounds 2 true).setIfInBounds 3 true).setIfInBounds 4 true).setIfInBounds 5 true).setIfInBounds 6 true).setIfInBounds 7 true) 8 = true := by kernel_rfl
theorem sb_196_12_9 : softB op_196_12 #[true, true, true, true, true, true, true, true, true, true, true] ((((((((((Array.replicate 11 false).setIfInBounds 0 true).setIfInBounds 1 true).setIfInBounds 2 true).setIfInBounds 3 true).setIfInBounds 4 true).setIfInBounds 5 true).setIfInBounds 6 true).setIfInBounds 7 true).setIfInBounds 8 true) 9 = true := by kernel_rfl
theorem sb_196_12_10 : softB op_196_12 #[true, true, true, true, true, true, true, true, true, true, true] (((((((((((Array.replicate 11 false).setIfInBounds 0 true).setIfInBounds 1 true).setIfInBounds 2 true).setIfInBounds 3 true).setIfInBounds 4 true).setIfInBounds 5 true).setIfInBounds 6 true).setIfInBounds 7 true).setIfInBounds 8 true).setIfInBounds 9 true) 10 = true := by kernel_rfl
theorem sb_196_12_11 : hardB op_196_12 ((((((((((((Array.replicate 11 false).setIfInBounds 0 true).setIfInBounds 1 true).setIfInBounds 2 true).setIfInBounds 3 true).setIfInBounds 4 true).setIfInBounds 5 true).setIfInBounds 6 true).setIfInBounds 7 true).setIfInBounds 8 true).setIfInBounds 9 true).setIfInBounds 10 true) [] = true := by kernel_rfl
theorem sb_196_14_0 : softB op_196_14 #[true, true, true, true, true, true, true, true, true, false, true, true, true, true, true, true, true] (Array.replicate 17 false) 0 = true := by kernel_rfl
theorem sb_196_14_1 : softB op_196_14 #[true, true, true, true, true, true, true, true, true, false, true, true, true, true, true, true, true] ((Array.replicate 17 false).setIfInBounds 0 true) 1 = true := by kernel_rfl
theorem sb_196_14_2 : softB op_196_14 #[true, true, true, true, true, true, true, true, true, false, true, true, true, true, true, true, true] (((Array.replicate 17 false).setIfInBounds 0 true).setIfInBounds 1 true) 2 = true := by kernel_rfl
theorem sb_196_14_3 : softB op_196_14 #[true, true, true, true, true, true, true, true, true, false, true, true, true, true, true, true, true] ((((Array.replicate 17 false).setIfInBounds 0 true).setIfInBounds 1 true).setIfInBounds 2 true) 3 = true := by kernel_rfl
theorem sb_196_14_4 : softB op_196_14 #[true, true, true, true, true, true, true, true, true, false, true, true, true, true, true, true, true] (((((Array.replicate 17 false).setIfInBounds 0 true).setIfInBounds 1 true).setIfInBounds 2 true).setIfInBounds 3 true) 4 = true := by kernel_rfl
theorem sb_196_14_5 : softB op_196_14 #[true, true, true, true, true, true, true, true, true, false, true, true, true, true, true, true, true] ((((((Array.replicate 17 false).setIfInBounds 0 true).setIfInBounds 1 true).setIfInBounds 2 true).setIfInBounds 3 true).setIfInBounds 4 true) 5 = true := by kernel_rfl
theorem sb_196_14_6 : softB op_196_14 #[true, true, true, true, true, true, true, true, true, false, true, true, true, true, true, true, true] (((((((Array.replicate 17 false).setIfInBounds 0 true).setIfInBounds 1 true).setIfInBounds 2 true).setIfInBounds 3 true).setIfInBounds 4 true).setIfInBounds 5 true) 6 = true := by kernel_rfl
theorem sb_196_14_7 : softB op_196_14 #[true, true, true, true, true, true, true, true, true, false, true, true, true, true, true, true, true] ((((((((Array.replicate 17 false).setIfInBounds 0 true).setIfInBounds 1 true).setIfInBounds 2 true).setIfInBounds 3 true).setIfInBounds 4 true).setIfInBounds 5 true).setIfInBounds 6 true) 7 = true := by kernel_rfl
theorem sb_196_14_8 : softB op_196_14 #[true, true, true, true, true, true, true, true, true, false, true, true, true, true, true, true, true] (((((((((Array.replicate 17 false).setIfInBounds 0 true).setIfInBounds 1 true).setIfInBounds 2 true).setIfInBounds 3 true).setIfInBounds 4 true).setIfInBounds 5 true).setIfInBounds 6 true).setIfInBounds 7 true) 8 = true := by kernel_rfl
theorem sb_196_14_9 : hardB op_196_14 ((((((((((Array.replicate 17 false).setIfInBounds 0 true).setIfInBounds 1 true).setIfInBounds 2 true).setIfInBounds 3 true).setIfInBounds 4 true).setIfInBounds 5 true).setIfInBounds 6 true).setIfInBounds 7 true).setIfInBounds 8 true) [9] = true := by kernel_rfl
theorem sb_196_14_10 : softB op_196_14 #[true, true, true, true, true, true, true, true, true, false, true, true, true, true, true, true, true] (((((((((((Array.replicate 17 false).setIfInBounds 0 true).setIfInBounds 1 true).setIfInBounds 2 true).setIfInBounds 3 true).setIfInBounds 4 true).setIfInBounds 5 true).setIfInBounds 6 true).setIfInBounds 7 true).setIfInBounds 8 true).setIfInBounds 9 true) 10 = true := by kernel_rfl
theorem sb_196_14_11 : softB op_196_14 #[true, true, true, true, true, true, true, true, true, false, true, true, true, true, true, true, true] ((((((((((((Array.replicate 17 false).setIfInBounds 0 true).setIfInBounds 1 true).setIfInBounds 2 true).setIfInBounds 3 true).setIfInBounds 4 true).setIfInBounds 5 true).setIfInBounds 6 true).setIfInBounds 7 true).setIfInBounds 8 true).setIfInBounds 9 true).setIfInBounds 10 true) 11 = true := by kernel_rfl
theorem sb_196_14_12 : softB op_196_14 #[true, true, true, true, true, true, true, true, true, false, true, true, true, true, true, true, true] (((((((((((((Array.replicate 17 false).setIfInBounds 0 true).setIfInBounds 1 true).setIfInBounds 2 true).setIfInBounds 3 true).setIfInBounds 4 true).setIfInBounds 5 true).setIfInBounds 6 true).setIfInBounds 7 true).setIfInBounds 8 true).setIfInBounds 9 true).setIfInBounds 10 true).setIfInBounds 11 true) 12 = true := by kernel_rfl
theorem sb_196_14_13 : softB op_196_14 #[true, true, true, true, true, true, true, true, true, false, true, true, true, true, true, true, true] ((((((((((((((Array.replicate 17 false).setIfInBounds 0 true).setIfInBounds 1 true).setIfInBounds 2 true).setIfInBounds 3 true).setIfInBounds 4 true).setIfInBounds 5 true).setIfInBounds 6 true).setIfInBounds 7 true).setIfInBounds 8 true).setIfInBounds 9 true).setIfInBounds 10 true).setIfInBounds 11 true).setIfInBounds 12 true) 13 = true := by kernel_rfl
theorem sb_196_14_14 : softB op_196_14 #[true, true, true, true, true, true, true, true, true, false, true, true, true, true, true, true, true] (((((((((((((((Array.replicate 17 false).setIfInBounds 0 true).setIfInBounds 1 true).setIfInBounds 2 true).setIfInBounds 3 true).setIfInBounds 4 true).setIfInBounds 5 true).setIfInBounds 6 true).setIfInBounds 7 true).setIfInBounds 8 true).setIfInBounds 9 true).setIfInBounds 10 true).setIfInBounds 11 true).setIfInBounds 12 true).setIfInBounds 13 true) 14 = true := by kernel_rfl
theorem sb_196_14_15 : softB op_196_14 #[true, true, true, true, true, true, true, true, true, false, true, true, true, true, true, true, true] ((((((((((((((((Array.replicate 17 false).setIfInBounds 0 true).setIfInBounds 1 true).setIfInBounds 2 true).setIfInBounds 3 true).setIfInBounds 4 true).setIfInBounds 5 true).setIfInBounds 6 true).setIfInBounds 7 true).setIfInBounds 8 true).setIfInBounds 9 true).setIfInBounds 10 true).setIfInBounds 11 true).setIfInBounds 12 true).setIfInBounds 13 true).setIfInBounds 14 true) 15 = true := by kernel_rfl
theorem sb_196_14_16 : softB op_196_14 #[true, true, true, true, true, true, true, true, true, false, true, true, true, true, true, true, true] (((((((((((((((((Array.replicate 17 false).setIfInBounds 0 true).setIfInBounds 1 true).setIfInBounds 2 true).setIfInBounds 3 true).setIfInBounds 4 true).setIfInBounds 5 true).setIfInBounds 6 true).setIfInBounds 7 true).setIfInBounds 8 true).setIfInBounds 9 true).setIfInBounds 10 true).setIfInBounds 11 true).setIfInBounds 12 true).setIfInBounds 13 true).setIfInBounds 14 true).setIfInBounds 15 true) 16 = true := by kernel_rfl
theorem sb_196_14_17 : hardB op_196_14 ((((((((((((((((((Array.replicate 17 false).setIfInBounds 0 true).setIfInBounds 1 true).setIfInBounds 2 true).setIfInBounds 3 true).setIfInBounds 4 true).setIfInBounds 5 true).setIfInBounds 6 true).setIfInBounds 7 true).setIfInBounds 8 true).setIfInBounds 9 true).setIfInBounds 10 true).setIfInBounds 11 true).setIfInBounds 12 true).setIfInBounds 13 true).setIfInBounds 14 true).setIfInBounds 15 true).setIfInBounds 16 true) [] = true := by kernel_rfl
/- (*tree.Trees).soundRows -/
def m196_w1 (n : Nat) (t : Trees) (s : Store) (d : Dev) (r : (List Line)) (mm : Nat) : Int → Option (Flow (Bool) (Int)) := it1 (fun lp1 c1 =>
cond (decide (c1 < (r.length : Int))) (
flow (cond (decide ((0 : Int) < c1)) (
Option.bind (ixL r (wi (c1 - 1))) fun x1 =>
ob1 (m262 n x1) fun c3 =>
Option.bind (ixL r c1) fun x2 =>
ob1 (m262 n x2) fun c4 =>
cond (!(sLt c3 c4)) (
Option.bind (Option.bind (some false) fun q2 => some (.ret q2)) fun q1 => some (.ret q1)) (
some (.nx ()))) (
some (.nx ()))) some (fun _ =>
ob1 (Option.bind (ixL r c1) fun x3 =>
cond (!x3.dir) (Option.bind (ixL r c1) fun x4 =>
Option.bind (ckA x4.id 49) fun _ =>
some ((decide (¬ ((t.kind x4.id) = 1))))) (some (false))) fun c5 =>
cond c5 (
Option.bind (some false) fun q3 => some (.ret q3)) (
Option.bind (ixL r c1) fun x5 =>
cond x5.dir (
Option.bind (ixL r c1) fun x6 =>
Option.bind (ckA x6.id 49) fun _ =>
cond (decide (¬ ((t.kind x6.id) = 2))) (
Option.bind (some false) fun q4 => some (.ret q4)) (
Option.bind (ixL r c1) fun x7 =>
ob3 (m194 n s d x7.id) fun c6 l1 c7 =>
cond (decide ((l1.length : Int) = 0)) (
Option.bind (some false) fun q5 => some (.ret q5)) (
lp1 (wi (c1 + 1))))) (
lp1 (wi (c1 + 1)))))) (
some (.nx c1))) mm
def m196 (n : Nat) (t : Trees) (s : Store) (d : Dev) (r : (List Line)) : Option (Bool) :=
flow (m196_w1 n t s d r n 0) some (un1 fun c2 =>
some true)
theorem t196 {n : Nat} {C : List Chunk} {rc1 : Bool} {b1 : Nat} {t : Trees} {b2 : Nat} {s : Store} {b3 : Nat} {d : Dev} {v1 : Value} {g1 : List Chunk} {v2 : Value} {g2 : List Chunk} {v3 : Value} {g3 : List Chunk} {v4 : Value} {g4 : List Chunk} {v5 : Value} {r : (List Line)} (ho1 : Own rByte v1 d.blk g1) (ho2 : Own rByte v2 d.base g2) (ho3 : Own rInt v3 d.at_ g3) (ho4 : Own rByte v4 d.data g4) (hr1 : Rd rLine C v5 r)  (hm : m196 n t s d r = some rc1) : Trip Tryz.prog 196 #[.pointer (some ⟨b1, 0, none⟩), v5] ([[(b1, .cells (Trees.enc (.pointer (some ⟨b2, 0, none⟩)) t).toArray 169 (0, 0))], [(b2, .cells (Store.enc (.pointer (some ⟨b3, 0, none⟩)) s).toArray 126 (0, 0))], [(b3, .cells (Dev.enc (v1) (v2) (v3) (v4) d).toArray 85 (0, 0))], g1, g2, g3, g4] ++ [C]) (fun u S' => .bool rc1 = u ∧ S' = [[(b1, .cells (Trees.enc (.pointer (some ⟨b2, 0, none⟩)) t).toArray 169 (0, 0))], [(b2, .cells (Store.enc (.pointer (some ⟨b3, 0, none⟩)) s).toArray 126 (0, 0))], [(b3, .cells (Dev.enc (v1) (v2) (v3) (v4) d).toArray 85 (0, 0))], g1, g2, g3, g4] ++ [C]) := by
  refine fn_entry (args := [.pointer (some ⟨b1, 0, none⟩), v5]) Tryz.func196 rfl Tryz.ntmps196 rfl (fun w0 => ?_)
  refine c_seq ?_
  refine c_region ?_
  refine o_L (y_assign rfl) rfl rfl ?_
  refine o_nil0 rfl ?_
  refine c_seq ?_
  refine c_seq ?_
  refine c_region ?_
  refine o_L (y_assign rfl) rfl rfl ?_
  refine o_nil0 rfl ?_
  obtain ⟨f1, F1, hF1, hj1, hF2⟩ := fl2 hm
  refine c_joinP (n := 0) (fun sh G => ∃ (c2 : Int), sh = [(5, .int .i64 c2)] ∧ G = [] ∧ F1 c2 = some rc1) (s_take (s_take (s_take (s_take (s_take (s_take (s_take (s_take s_nil)))))))) .z (fun _ _ h => h) ?_ ?_
  · skip
    refine c_block ?_
    refine c_loopP (n := 0) (fun mm sh G => ∃ (c1 : Int), sh = [(5, .int .i64 c1)] ∧ G = [] ∧ m196_w1 n t s d r mm c1 = some f1) n (s_take (s_take (s_take (s_take (s_take (s_take (s_take (s_take s_nil)))))))) .z ⟨_, _, ⟨_, rfl, rfl, hj1⟩, ⟨rfl, trivial⟩, _, (s_take (s_take (s_take (s_take (s_take (s_take (s_take (s_take s_nil))))))))⟩ ?_
    rintro mm sh G ⟨c1, rfl, rfl, hm⟩
    obtain ⟨mm1, rfl, hm⟩ := it1_s hm
    refine c_seq ?_
    refine c_seq ?_
    refine c_region ?_
    refine o_T (y_move rfl) rfl ?_
    refine o_T (y_move rfl) rfl ?_
    refine o_T (y_lenR hr1 Tryz.underlying209 rfl) rfl ?_
    refine o_T (y_lss rfl rfl) rfl ?_
    refine o_nil1 14 rfl rfl ?_
    refine c_cond rfl (fun h1 => ?_) (fun h1 => ?_)
    · have hm := cd_t h1 hm
      refine c_skip ?_
      refine c_seq ?_
      refine c_block ?_
      refine c_seq ?_
      refine c_seq ?_
      refine c_region ?_
      refine o_T (y_move rfl) rfl ?_
      refine o_T (y_gtr rfl rfl) rfl ?_
      refine o_nil1 18 rfl rfl ?_
      obtain ⟨f2, F2, hF3, hj2, hF4⟩ := fl2 hm
      refine c_joinP (n := 0) (fun sh G => sh = [] ∧ G = [] ∧ F2 () = some f1) (s_take (s_take (s_take (s_take (s_take (s_take (s_take (s_take s_nil)))))))) .z (fun _ _ h => h) ?_ ?_
      · have hm := hj2
        refine c_cond rfl (fun h2 => ?_) (fun h2 => ?_)
        · have hm := cd_t h2 hm
          refine c_seq ?_
          refine c_region ?_
          refine o_T (y_move rfl) rfl ?_
          refine o_T (y_move rfl) rfl ?_
          refine o_T (y_sub rfl rfl rfl) rfl ?_
          obtain ⟨x1, hx1, hm⟩ := bd hm
          obtain ⟨b4, w1, cs1, y1, z1, vs1, hc1, ha1, hr2, hy1⟩ := hr1.ix hx1
          obtain rfl : vs1 = Line.enc x1 := hr2
          refine o_T (hy1 sl_209 rfl rfl rfl) rfl ?_
          refine o_lda ag_213 rfl (ms (ms (ms (ms (ms (ms (ms (mg hc1)))))))) (At.ext (ha1) (Line.len _)) (At.fit (ha1) (Line.len _)) rfl ?_
          obtain ⟨c3, hx2, hm⟩ := bd1 hm
          refine o_callC en_262 rfl s_nil (t262 hx2) rfl (fun u1 S1 hR1 => ?_)
          obtain ⟨rfl, rfl⟩ := hR1
          refine o_rest ?_
          refine o_L (y_assign rfl) rfl rfl ?_
          refine o_nil0 rfl ?_
          refine c_seq ?_
          refine c_region ?_
          refine o_T (y_move rfl) rfl ?_
          refine o_T (y_move rfl) rfl ?_
          obtain ⟨x2, hx3, hm⟩ := bd hm
          obtain ⟨b5, w2, cs2, y2, z2, vs2, hc2, ha2, hr3, hy2⟩ := hr1.ix hx3
          obtain rfl : vs2 = Line.enc x2 := hr3
          refine o_T (hy2 sl_209 rfl rfl rfl) rfl ?_
          refine o_lda ag_213 rfl (ms (ms (ms (ms (ms (ms (ms (mg hc2)))))))) (At.ext (ha2) (Line.len _)) (At.fit (ha2) (Line.len _)) rfl ?_
          obtain ⟨c4, hx4, hm⟩ := bd1 hm
          refine o_callC en_262 rfl s_nil (t262 hx4) rfl (fun u2 S2 hR2 => ?_)
          obtain ⟨rfl, rfl⟩ := hR2
          refine o_rest ?_
          refine o_L (y_assign rfl) rfl rfl ?_
          refine o_nil0 rfl ?_
          refine c_seq ?_
          refine c_region ?_
          refine o_T (y_move rfl) rfl ?_
          refine o_T (y_move rfl) rfl ?_
          refine o_T (y_sge rfl rfl) rfl ?_
          refine o_nil1 32 rfl rfl ?_
          refine c_cond rfl (fun h3 => ?_) (fun h3 => ?_)
          · have hm := cd_t h3 hm
            refine c_seq ?_
            refine c_region ?_
            refine o_L (y_assign rfl) rfl rfl ?_
            refine o_nil0 rfl ?_
            refine c_ret ?_
            obtain ⟨q1, hq1, hm⟩ := bd hm
            have hm := fl_ret hm hF4
            have hm := hq1.trans hm
            obtain ⟨q2, hq2, hm⟩ := bd hm
            have hm := fl_ret hm hF2
            have hm := hq2.trans hm
            obtain rfl := p1 hm
            refine fun aX wX heX hsX => ret1 Tryz.results196 heX rfl (s_take (s_take (s_take (s_take (s_take (s_take (s_take (s_take s_nil)))))))) ?_
            exact ⟨rfl, rfl⟩
          · have hm := cd_f h3 hm
            refine c_skip ?_
            have hm := fl_nx hm hF4
            exact ⟨_, _, ⟨rfl, rfl, hm⟩, trivial, ⟨rfl, rfl⟩, _, (s_take (s_take (s_take (s_take (s_take (s_take (s_take (s_take s_nil))))))))⟩
        · have hm := cd_f h2 hm
          refine c_skip ?_
          have hm := fl_nx hm hF4
          exact ⟨_, _, ⟨rfl, rfl, hm⟩, trivial, ⟨rfl, rfl⟩, _, (s_take (s_take (s_take (s_take (s_take (s_take (s_take (s_take s_nil))))))))⟩
      · rintro sh G ⟨rfl, rfl, hm⟩
        subst hF3
        refine c_seq ?_
        refine c_seq ?_
        obtain ⟨c5, hj3, hm⟩ := bd1 hm
        refine c_joinP (n := 0) (fun sh G => sh = [(51, .bool c5)] ∧ G = []) Sel.all' .z (fun _ _ h => h) ?_ ?_
        · have hm := hj3
          refine c_draw #[true, true, true, true, true, true, true, true, true, true, true, true, true, true, true, true, true, true, true] rfl (n := 19) rfl ?_
          refine d_T 0 rfl sb_196_9_0 rfl (y_move rfl) rfl ?_
          refine d_T 1 rfl sb_196_9_1 rfl (y_move rfl) rfl ?_
          obtain ⟨x3, hx5, hm⟩ := bd hm
          obtain ⟨b6, w3, cs3, y3, z3, vs3, hc3, ha3, hr4, hy3⟩ := hr1.ix hx5
          obtain rfl : vs3 = Line.enc x3 := hr4
          refine d_T 2 rfl sb_196_9_2 rfl (hy3 sl_209 rfl rfl rfl) rfl ?_
          refine d_T 3 rfl sb_196_9_3 rfl (y_fa fl_213_0 rfl) rfl ?_
          refine d_ld 4 rfl sb_196_9_4 one_4 rfl (fun x hx => hx) (ms (ms (ms (ms (ms (ms (ms (mg hc3)))))))) (At.getA (ha3.comp Line.a_dir)) rfl ?_
          refine d_T 5 rfl sb_196_9_5 rfl (y_not rfl) rfl ?_
          refine d_T 6 rfl sb_196_9_6 rfl (y_move rfl) rfl ?_
          refine d_split 39 rfl (fun h4 => ?_) (fun h4 => ?_)
          · have hm := cd_t h4 hm
            refine d_Tg 7 rfl rfl rfl rfl sb_196_9_7 rfl (y_move rfl) rfl ?_
            refine d_Tg 8 rfl rfl rfl rfl sb_196_9_8 rfl (y_move rfl) rfl ?_
            refine d_Tg 9 rfl rfl rfl rfl sb_196_9_9 rfl (y_move rfl) rfl ?_
            obtain ⟨x4, hx6, hm⟩ := bd hm
            obtain ⟨b7, w4, cs4, y4, z4, vs4, hc4, ha4, hr5, hy4⟩ := hr1.ix hx6
            obtain rfl : vs4 = Line.enc x4 := hr5
            refine d_Tg 10 rfl rfl rfl rfl sb_196_9_10 rfl (hy4 sl_209 rfl rfl rfl) rfl ?_
            refine d_Tg 11 rfl rfl rfl rfl sb_196_9_11 rfl (y_fa fl_213_2 rfl) rfl ?_
            refine d_ldt 12 rfl rfl rfl rfl sb_196_9_12 one_3 rfl (fun x hx => hx) (ms (ms (ms (ms (ms (ms (ms (mg hc4)))))))) (At.getA (ha4.comp Line.a_id)) rfl ?_
            refine d_Tg 13 rfl rfl rfl rfl sb_196_9_13 rfl (y_nilck rfl) rfl ?_
            refine d_Tg 14 rfl rfl rfl rfl sb_196_9_14 rfl (y_fa fl_169_1 rfl) rfl ?_
            obtain ⟨_, hx7, hm⟩ := bd hm
            have hx7 := ckA_some hx7
            refine d_Tg 15 rfl rfl rfl rfl sb_196_9_15 rfl (y_ia ar_167 rfl rfl hx7.1 hx7.2) rfl ?_
            refine d_ldt 16 rfl rfl rfl rfl sb_196_9_16 one_3 rfl (fun x hx => hx) m0 (At.got ((At.refl.comp Trees.a_kind).comp (encN_a encI_len _ _ hx7.1 _ hx7.2))) rfl ?_
            refine d_Tg 17 rfl rfl rfl rfl sb_196_9_17 rfl (y_neq rfl rfl) rfl ?_
            refine d_T 18 rfl sb_196_9_18 rfl (y_pickT rfl rfl) rfl ?_
            refine d_nil1 51 sb_196_9_19 rfl rfl ?_
            obtain rfl := p1 hm
            exact ⟨_, _, ⟨rfl, rfl⟩, ⟨rfl, trivial⟩, ⟨rfl, rfl⟩, _, (s_take (s_take (s_take (s_take (s_take (s_take (s_take (s_take s_nil))))))))⟩
          · have hm := cd_f h4 hm
            refine d_pass 7 rfl rfl rfl rfl rfl sb_196_9_7 (fun x hx => hx) rfl ?_
            refine d_pass 8 rfl rfl rfl rfl rfl sb_196_9_8 (fun x hx => hx) rfl ?_
            refine d_pass 9 rfl rfl rfl rfl rfl sb_196_9_9 (fun x hx => hx) rfl ?_
            refine d_pass 10 rfl rfl rfl rfl rfl sb_196_9_10 (fun x hx => hx) rfl ?_
            refine d_pass 11 rfl rfl rfl rfl rfl sb_196_9_11 (fun x hx => hx) rfl ?_
            refine d_pass 12 rfl rfl rfl rfl rfl sb_196_9_12 (fun x hx => hx) rfl ?_
            refine d_pass 13 rfl rfl rfl rfl rfl sb_196_9_13 (fun x hx => hx) rfl ?_
            refine d_pass 14 rfl rfl rfl rfl rfl sb_196_9_14 (fun x hx => hx) rfl ?_
            refine d_pass 15 rfl rfl rfl rfl rfl sb_196_9_15 (fun x hx => hx) rfl ?_
            refine d_pass 16 rfl rfl rfl rfl rfl sb_196_9_16 (fun x hx => hx) rfl ?_
            refine d_pass 17 rfl rfl rfl rfl rfl sb_196_9_17 (fun x hx => hx) rfl ?_
            refine d_T 18 rfl sb_196_9_18 rfl (y_pickF rfl rfl) rfl ?_
            refine d_nil1 51 sb_196_9_19 rfl rfl ?_
            obtain rfl := p1 hm
            exact ⟨_, _, ⟨rfl, rfl⟩, ⟨rfl, trivial⟩, ⟨rfl, rfl⟩, _, (s_take (s_take (s_take (s_take (s_take (s_take (s_take (s_take s_nil))))))))⟩
        · rintro sh G ⟨rfl, rfl⟩
          refine c_cond rfl (fun h5 => ?_) (fun h5 => ?_)
          · have hm := cd_t h5 hm
            refine c_seq ?_
            refine c_region ?_
            refine o_L (y_assign rfl) rfl rfl ?_
            refine o_nil0 rfl ?_
            refine c_ret ?_
            obtain ⟨q3, hq3, hm⟩ := bd hm
            have hm := fl_ret hm hF2
            have hm := hq3.trans hm
            obtain rfl := p1 hm
            refine fun aX wX heX hsX => ret1 Tryz.results196 heX rfl (s_take (s_take (s_take (s_take (s_take (s_take (s_take (s_take s_nil)))))))) ?_
            exact ⟨rfl, rfl⟩
          · have hm := cd_f h5 hm
            refine c_skip ?_
            refine c_seq ?_
            refine c_region ?_
            refine o_T (y_move rfl) rfl ?_
            refine o_T (y_move rfl) rfl ?_
            obtain ⟨x5, hx8, hm⟩ := bd hm
            obtain ⟨b8, w5, cs5, y5, z5, vs5, hc5, ha5, hr6, hy5⟩ := hr1.ix hx8
            obtain rfl : vs5 = Line.enc x5 := hr6
            refine o_T (hy5 sl_209 rfl rfl rfl) rfl ?_
            refine o_T (y_fa fl_213_0 rfl) rfl ?_
            refine o_ld one_4 rfl (ms (ms (ms (ms (ms (ms (ms (mg hc5)))))))) (At.getA (ha5.comp Line.a_dir)) rfl ?_
            refine o_nil1 56 rfl rfl ?_
            refine c_cond rfl (fun h6 => ?_) (fun h6 => ?_)
            · have hm := cd_t h6 hm
              refine c_seq ?_
              refine c_seq ?_
              refine c_draw #[true, true, true, true, true, true, true, true, true, true, true] rfl (n := 11) rfl ?_
              refine d_T 0 rfl sb_196_12_0 rfl (y_move rfl) rfl ?_
              refine d_T 1 rfl sb_196_12_1 rfl (y_move rfl) rfl ?_
              refine d_T 2 rfl sb_196_12_2 rfl (y_move rfl) rfl ?_
              obtain ⟨x6, hx9, hm⟩ := bd hm
              obtain ⟨b9, w6, cs6, y6, z6, vs6, hc6, ha6, hr7, hy6⟩ := hr1.ix hx9
              obtain rfl : vs6 = Line.enc x6 := hr7
              refine d_T 3 rfl sb_196_12_3 rfl (hy6 sl_209 rfl rfl rfl) rfl ?_
              refine d_T 4 rfl sb_196_12_4 rfl (y_fa fl_213_2 rfl) rfl ?_
              refine d_ld 5 rfl sb_196_12_5 one_3 rfl (fun x hx => hx) (ms (ms (ms (ms (ms (ms (ms (mg hc6)))))))) (At.getA (ha6.comp Line.a_id)) rfl ?_
              refine d_T 6 rfl sb_196_12_6 rfl (y_nilck rfl) rfl ?_
              refine d_T 7 rfl sb_196_12_7 rfl (y_fa fl_169_1 rfl) rfl ?_
              obtain ⟨_, hx10, hm⟩ := bd hm
              have hx10 := ckA_some hx10
              refine d_T 8 rfl sb_196_12_8 rfl (y_ia ar_167 rfl rfl hx10.1 hx10.2) rfl ?_
              refine d_ld 9 rfl sb_196_12_9 one_3 rfl (fun x hx => hx) m0 (At.got ((At.refl.comp Trees.a_kind).comp (encN_a encI_len _ _ hx10.1 _ hx10.2))) rfl ?_
              refine d_T 10 rfl sb_196_12_10 rfl (y_neq rfl rfl) rfl ?_
              refine d_nil1 67 sb_196_12_11 rfl rfl ?_
              refine c_cond rfl (fun h7 => ?_) (fun h7 => ?_)
              · have hm := cd_t h7 hm
                refine c_seq ?_
                refine c_region ?_
                refine o_L (y_assign rfl) rfl rfl ?_
                refine o_nil0 rfl ?_
                refine c_ret ?_
                obtain ⟨q4, hq4, hm⟩ := bd hm
                have hm := fl_ret hm hF2
                have hm := hq4.trans hm
                obtain rfl := p1 hm
                refine fun aX wX heX hsX => ret1 Tryz.results196 heX rfl (s_take (s_take (s_take (s_take (s_take (s_take (s_take (s_take s_nil)))))))) ?_
                exact ⟨rfl, rfl⟩
              · have hm := cd_f h7 hm
                refine c_skip ?_
                refine c_seq ?_
                refine c_draw #[true, true, true, true, true, true, true, true, true, false, true, true, true, true, true, true, true] rfl (n := 17) rfl ?_
                refine d_T 0 rfl sb_196_14_0 rfl (y_move rfl) rfl ?_
                refine d_T 1 rfl sb_196_14_1 rfl (y_nilck rfl) rfl ?_
                refine d_T 2 rfl sb_196_14_2 rfl (y_fa fl_169_0 rfl) rfl ?_
                refine d_ld 3 rfl sb_196_14_3 one_28 rfl (fun x hx => hx) m0 (At.got (At.refl.comp Trees.a_o)) rfl ?_
                refine d_T 4 rfl sb_196_14_4 rfl (y_move rfl) rfl ?_
                refine d_T 5 rfl sb_196_14_5 rfl (y_move rfl) rfl ?_
                obtain ⟨x7, hx11, hm⟩ := bd hm
                obtain ⟨b10, w7, cs7, y7, z7, vs7, hc7, ha7, hr8, hy7⟩ := hr1.ix hx11
                obtain rfl : vs7 = Line.enc x7 := hr8
                refine d_T 6 rfl sb_196_14_6 rfl (hy7 sl_209 rfl rfl rfl) rfl ?_
                refine d_T 7 rfl sb_196_14_7 rfl (y_fa fl_213_2 rfl) rfl ?_
                refine d_ld 8 rfl sb_196_14_8 one_3 rfl (fun x hx => hx) (ms (ms (ms (ms (ms (ms (ms (mg hc7)))))))) (At.getA (ha7.comp Line.a_id)) rfl ?_
                refine d_hard 9 rfl sb_196_14_9 ?_
                obtain ⟨c6, l1, c7, hx12, hm⟩ := bd3 hm
                refine o_callC en_194 rfl (s_skip (s_take (s_take (s_take (s_take (s_take (s_take s_nil))))))) (t194 ho1 ho2 ho3 ho4 hx12) rfl (fun u3 S3 hR3 => ?_)
                obtain ⟨v6, g5, rfl, rfl, ho5⟩ := hR3
                refine o_rest ?_
                refine o_stop (fun h => nomatch h) ?_
                refine d_T 10 rfl sb_196_14_10 rfl (y_move rfl) rfl ?_
                refine d_T 11 rfl sb_196_14_11 rfl (y_extract rfl rfl) rfl ?_
                refine d_T 12 rfl sb_196_14_12 rfl (y_extract rfl rfl) rfl ?_
                refine d_T 13 rfl sb_196_14_13 rfl (y_extract rfl rfl) rfl ?_
                refine d_L 14 rfl sb_196_14_14 rfl (y_assign rfl) rfl rfl ?_
                refine d_L 15 rfl sb_196_14_15 rfl (y_assign rfl) rfl rfl ?_
                refine d_L 16 rfl sb_196_14_16 rfl (y_assign rfl) rfl rfl ?_
                refine d_nil0 sb_196_14_17 rfl ?_
                refine c_seq ?_
                refine c_region ?_
                refine o_T (y_move rfl) rfl ?_
                refine o_T (y_lenR ho5.rd Tryz.underlying81 rfl) rfl ?_
                refine o_T (y_eql rfl rfl) rfl ?_
                refine o_nil1 84 rfl rfl ?_
                refine c_cond rfl (fun h8 => ?_) (fun h8 => ?_)
                · have hm := cd_t h8 hm
                  refine c_seq ?_
                  refine c_region ?_
                  refine o_L (y_assign rfl) rfl rfl ?_
                  refine o_nil0 rfl ?_
                  refine c_ret ?_
                  obtain ⟨q5, hq5, hm⟩ := bd hm
                  have hm := fl_ret hm hF2
                  have hm := hq5.trans hm
                  obtain rfl := p1 hm
                  refine fun aX wX heX hsX => ret1 Tryz.results196 heX rfl (s_get (ks (ks (ks (ks (ks (ks (ks k0))))))) (s_take (s_take (s_take (s_take (s_take (s_take (s_skip (s_take s_nil))))))))) ?_
                  exact ⟨rfl, rfl⟩
                · have hm := cd_f h8 hm
                  refine c_skip ?_
                  refine c_region ?_
                  refine o_T (y_move rfl) rfl ?_
                  refine o_T (y_add rfl rfl rfl) rfl ?_
                  refine o_L (y_assign rfl) rfl rfl ?_
                  refine o_nil0 rfl ?_
                  exact ⟨mm1, Nat.lt_succ_self _, _, _, ⟨_, rfl, rfl, hm⟩, ⟨rfl, trivial⟩, ⟨rfl, rfl⟩, _, (s_get (ks (ks (ks (ks (ks (ks (ks k0))))))) (s_take (s_take (s_take (s_take (s_take (s_take (s_skip (s_take s_nil)))))))))⟩
            · have hm := cd_f h6 hm
              refine c_skip ?_
              refine c_region ?_
              refine o_T (y_move rfl) rfl ?_
              refine o_T (y_add rfl rfl rfl) rfl ?_
              refine o_L (y_assign rfl) rfl rfl ?_
              refine o_nil0 rfl ?_
              exact ⟨mm1, Nat.lt_succ_self _, _, _, ⟨_, rfl, rfl, hm⟩, ⟨rfl, trivial⟩, ⟨rfl, rfl⟩, _, (s_take (s_take (s_take (s_take (s_take (s_take (s_take (s_take s_nil))))))))⟩
    · have hm := cd_f h1 hm
      refine c_exit ?_
      have hm := fl_nx hm hF2
      exact ⟨_, _, ⟨_, rfl, rfl, hm⟩, ⟨rfl, trivial⟩, ⟨rfl, rfl⟩, _, (s_take (s_take (s_take (s_take (s_take (s_take (s_take (s_take s_nil))))))))⟩
  · rintro sh G ⟨c2, rfl, rfl, hm⟩
    subst hF1
    refine c_seq ?_
    refine c_region ?_
    refine o_L (y_assign rfl) rfl rfl ?_
    refine o_nil0 rfl ?_
    refine c_ret ?_
    obtain rfl := p1 hm
    refine fun aX wX heX hsX => ret1 Tryz.results196 heX rfl (s_take (s_take (s_take (s_take (s_take (s_take (s_take (s_take s_nil)))))))) ?_
    exact ⟨rfl, rfl⟩
end Go.Proofs.Qxb6500350aGreat
