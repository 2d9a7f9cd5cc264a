/- MADE BY PROGRAM (tools350/mir.py): mirror and walk. -/
import Derived.Test.Qxb6500350aGreatF2
import Derived.Test.Qxb6500350aGreatT214
import Derived.Test.Qxb6500350aGreatT248
set_option linter.unusedVariables false
set_option linter.unusedSimpArgs false
set_option maxRecDepth 20000
set_option maxHeartbeats 4000000
namespace Go.Proofs.Qxb6500350aGreat
open Go.Eng

def op_212_5 : Array Go.Oper := #[{ dst := some 20, op := Go.Op.move (Go.Operand.tmp 0), type := 30, pos := "commit.go:11", after := #[], guard := none }, { dst := some 21, op := Go.Op.nilCheck (Go.Operand.tmp 20), type := 0, pos := "commit.go:11", after := #[{ on := 0, ground := Go.Ground.data }], guard := none }, { dst := some 22, op := Go.Op.fieldAddr 179 (Go.Operand.tmp 21) 0, type := 0, pos := "commit.go:11", after := #[{ on := 1, ground := Go.Ground.data }], guard := none }, { dst := some 23, op := Go.Op.load 29 (Go.Operand.tmp 22), type := 29, pos := "commit.go:11", after := #[{ on := 2, ground := Go.Ground.data }], guard := none }, { dst := some 24, op := Go.Op.move (Go.Operand.tmp 1), type := 57, pos := "commit.go:11", after := #[], guard := none }, { dst := some 25, op := Go.Op.move (Go.Operand.tmp 7), type := 3, pos := "commit.go:11", after := #[], guard := none }, { dst := some 26, op := Go.Op.indexAddr 57 (Go.Operand.tmp 24) (Go.Operand.tmp 25), type := 0, pos := "commit.go:11", after := #[{ on := 4, ground := Go.Ground.data }, { on := 5, ground := Go.Ground.data }], guard := none }, { dst := some 27, op := Go.Op.fieldAddr 71 (Go.Operand.tmp 26) 1, type := 0, pos := "commit.go:11", after := #[{ on := 6, ground := Go.Ground.data }], guard := none }, { dst := some 28, op := Go.Op.load 9 (Go.Operand.tmp 27), type := 9, pos := "commit.go:11", after := #[{ on := 7, ground := Go.Ground.data }], guard := none }, { dst := some 29, op := Go.Op.convert 9 81 (Go.Operand.tmp 28), type := 81, pos := "commit.go:11", after := #[{ on := 8, ground := Go.Ground.data }], guard := none }, { dst := some 30, op := Go.Op.call { callee := Go.Callee.value (Go.Operand.func 214), args := #[Go.Operand.tmp 23, Go.Operand.const (Go.Value.int Go.IntKind.i64 1), Go.Operand.tmp 29], argTypes := #[29, 3, 81] }, type := 76, pos := "commit.go:11", after := #[{ on := 3, ground := Go.Ground.data }, { on := 9, ground := Go.Ground.data }], guard := none }, { dst := some 19, op := Go.Op.move (Go.Operand.tmp 30), type := 76, pos := "commit.go:11", after := #[{ on := 10, ground := Go.Ground.data }], guard := none }, { dst := some 31, op := Go.Op.extract (Go.Operand.tmp 19) 0, type := 3, pos := "commit.go:11", after := #[{ on := 11, ground := Go.Ground.data }], guard := none }, { dst := some 32, op := Go.Op.extract (Go.Operand.tmp 19) 1, type := 73, pos := "commit.go:11", after := #[{ on := 11, ground := Go.Ground.data }, { on := 14, ground := Go.Ground.gcOnly Go.Departure.lateStores }], guard := none }, { dst := some 8, op := Go.Op.assign (Go.Operand.tmp 31), type := 3, pos := "commit.go:11", after := #[{ on := 12, ground := Go.Ground.data }, { on := 10, ground := Go.Ground.chain }, { on := 0, ground := Go.Ground.phase }, { on := 1, ground := Go.Ground.phase }, { on := 2, ground := Go.Ground.phase }, { on := 3, ground := Go.Ground.phase }, { on := 4, ground := Go.Ground.phase }, { on := 5, ground := Go.Ground.phase }, { on := 6, ground := Go.Ground.phase }, { on := 7, ground := Go.Ground.phase }, { on := 8, ground := Go.Ground.phase }, { on := 9, ground := Go.Ground.phase }, { on := 10, ground := Go.Ground.phase }, { on := 11, ground := Go.Ground.phase }, { on := 12, ground := Go.Ground.phase }, { on := 13, ground := Go.Ground.textOnly Go.Departure.lateStores }], guard := none }, { dst := some 9, op := Go.Op.assign (Go.Operand.tmp 32), type := 73, pos := "commit.go:11", after := #[{ on := 13, ground := Go.Ground.data }, { on := 14, ground := Go.Ground.chain }, { on := 0, ground := Go.Ground.phase }, { on := 1, ground := Go.Ground.phase }, { on := 2, ground := Go.Ground.phase }, { on := 3, ground := Go.Ground.phase }, { on := 4, ground := Go.Ground.phase }, { on := 5, ground := Go.Ground.phase }, { on := 6, ground := Go.Ground.phase }, { on := 7, ground := Go.Ground.phase }, { on := 8, ground := Go.Ground.phase }, { on := 9, ground := Go.Ground.phase }, { on := 10, ground := Go.Ground.phase }, { on := 11, ground := Go.Ground.phase }, { on := 12, ground := Go.Ground.phase }, { on := 13, ground := Go.Ground.phase }, { on := 14, ground := Go.Ground.phase }], guard := none }]
def op_212_8 : Array Go.Oper := #[{ dst := some 36, op := Go.Op.move (Go.Operand.tmp 6), type := 277, pos := "commit.go:15", after := #[], guard := none }, { dst := some 37, op := Go.Op.move (Go.Operand.tmp 7), type := 3, pos := "commit.go:15", after := #[], guard := none }, { dst := some 38, op := Go.Op.move (Go.Operand.tmp 1), type := 57, pos := "commit.go:15", after := #[], guard := none }, { dst := some 39, op := Go.Op.move (Go.Operand.tmp 7), type := 3, pos := "commit.go:15", after := #[], guard := none }, { dst := some 40, op := Go.Op.indexAddr 57 (Go.Operand.tmp 38) (Go.Operand.tmp 39), type := 0, pos := "commit.go:15", after := #[{ on := 2, ground := Go.Ground.data }, { on := 3, ground := Go.Ground.data }], guard := none }, { dst := some 41, op := Go.Op.fieldAddr 71 (Go.Operand.tmp 40) 0, type := 0, pos := "commit.go:15", after := #[{ on := 4, ground := Go.Ground.data }], guard := none }, { dst := some 42, op := Go.Op.load 9 (Go.Operand.tmp 41), type := 9, pos := "commit.go:15", after := #[{ on := 5, ground := Go.Ground.data }], guard := none }, { dst := some 43, op := Go.Op.move (Go.Operand.tmp 8), type := 3, pos := "commit.go:15", after := #[], guard := none }, { dst := some 44, op := Go.Op.move (Go.Operand.tmp 1), type := 57, pos := "commit.go:15", after := #[], guard := none }, { dst := some 45, op := Go.Op.move (Go.Operand.tmp 7), type := 3, pos := "commit.go:15", after := #[], guard := none }, { dst := some 46, op := Go.Op.indexAddr 57 (Go.Operand.tmp 44) (Go.Operand.tmp 45), type := 0, pos := "commit.go:15", after := #[{ on := 8, ground := Go.Ground.data }, { on := 9, ground := Go.Ground.data }], guard := none }, { dst := some 47, op := Go.Op.fieldAddr 71 (Go.Operand.tmp 46) 2, type := 0, pos := "commit.go:15", after := #[{ on := 10, ground := Go.Ground.data }], guard := none }, { dst := some 48, op := Go.Op.load 3 (Go.Operand.tmp 47), type := 3, pos := "commit.go:15", after := #[{ on := 11, ground := Go.Ground.data }], guard := none }, { dst := some 49, op := Go.Op.build 279 #[(0, Go.Operand.tmp 42), (1, Go.Operand.tmp 43), (2, Go.Operand.tmp 48)], type := 279, pos := "commit.go:15", after := #[{ on := 6, ground := Go.Ground.data }, { on := 7, ground := Go.Ground.data }, { on := 12, ground := Go.Ground.data }], guard := none }, { dst := some 50, op := Go.Op.indexAddr 277 (Go.Operand.tmp 36) (Go.Operand.tmp 37), type := 0, pos := "commit.go:15", after := #[{ on := 0, ground := Go.Ground.data }, { on := 1, ground := Go.Ground.data }, { on := 0, ground := Go.Ground.phase }, { on := 1, ground := Go.Ground.phase }, { on := 2, ground := Go.Ground.phase }, { on := 3, ground := Go.Ground.phase }, { on := 4, ground := Go.Ground.phase }, { on := 5, ground := Go.Ground.phase }, { on := 6, ground := Go.Ground.phase }, { on := 7, ground := Go.Ground.phase }, { on := 8, ground := Go.Ground.phase }, { on := 9, ground := Go.Ground.phase }, { on := 10, ground := Go.Ground.phase }, { on := 11, ground := Go.Ground.phase }, { on := 12, ground := Go.Ground.phase }, { on := 13, ground := Go.Ground.phase }], guard := none }, { dst := none, op := Go.Op.store 279 (Go.Operand.tmp 50) (Go.Operand.tmp 49), type := 0, pos := "commit.go:15", after := #[{ on := 14, ground := Go.Ground.data }, { on := 13, ground := Go.Ground.data }, { on := 0, ground := Go.Ground.phase }, { on := 1, ground := Go.Ground.phase }, { on := 2, ground := Go.Ground.phase }, { on := 3, ground := Go.Ground.phase }, { on := 4, ground := Go.Ground.phase }, { on := 5, ground := Go.Ground.phase }, { on := 6, ground := Go.Ground.phase }, { on := 7, ground := Go.Ground.phase }, { on := 8, ground := Go.Ground.phase }, { on := 9, ground := Go.Ground.phase }, { on := 10, ground := Go.Ground.phase }, { on := 11, ground := Go.Ground.phase }, { on := 12, ground := Go.Ground.phase }, { on := 13, ground := Go.Ground.phase }], guard := none }]
theorem sb_212_5_0 : softB op_212_5 #[true, true, true, true, true, true, true, true, true, true, false, true, true, true, true, true] (Array.replicate 16 false) 0 = true := by kernel_rfl
theorem sb_212_5_1 : softB op_212_5 #[true, true, true, true, true, true, true, true, true, true, false, true, true, true, true, true] ((Array.replicate 16 false).setIfInBounds 0 true) 1 = true := by kernel_rfl
theorem sb_212_5_2 : softB op_212_5 #[true, true, true, true, true, true, true, true, true, true, false, true, true, true, true, true] (((Array.replicate 16 false).setIfInBounds 0 true).setIfInBounds 1 true) 2 = true := by kernel_rfl
theorem sb_212_5_3 : softB op_212_5 #[true, true, true, true, true, true, true, true, true, true, false, true, true, true, true, true] ((((Array.replicate 16 false).setIfInBounds 0 true).setIfInBounds 1 true).setIfInBounds 2 true) 3 = true := by kernel_rfl
theorem sb_212_5_4 : softB op_212_5 #[true, true, true, true, true, true, true, true, true, true, false, true, true, true, true, true] (((((Array.replicate 16 false).setIfInBounds 0 true).setIfInBounds 1 true).setIfInBounds 2 true).setIfInBounds 3 true) 4 = true := by kernel_rfl
theorem sb_212_5_5 : softB op_212_5 #[true, true, true, true, true, true, true, true, true, true, false, true, true, true, true, true] ((((((Array.replicate 16 false).setIfInBounds 0 true).setIfInBounds 1 true).setIfInBounds 2 true).setIfInBounds 3 true).setIfInBounds 4 true) 5 = true := by kernel_rfl
theorem sb_212_5_6 : softB op_212_5 #[true, true, true, true, true, true, true, true, true, true, false, true, true, true, true, true] (((((((Array.replicate 16 false).setIfInBounds 0 true).setIfInBounds 1 true).setIfInBounds 2 true).setIfInBounds 3 true).setIfInBounds 4 true).setIfInBounds 5 true) 6 = true := by kernel_rfl
theorem sb_212_5_7 : softB op_212_5 #[true, true, true, true, true, true, true, true, true, true, false, true, true, true, true, true] ((((((((Array.replicate 16 false).setIfInBounds 0 true).setIfInBounds 1 true).setIfInBounds 2 true).setIfInBounds 3 true).setIfInBounds 4 true).setIfInBounds 5 true).setIfInBounds 6 true) 7 = true := by kernel_rfl
theorem sb_212_5_8 : softB op_212_5 #[true, true, true, true, true, true, true, true, true, true, false, true, true, true, true, true] (((((((((Array.replicate 16 false).setIfInBounds 0 true).setIfInBounds 1 true).setIfInBounds 2 true).setIfInBounds 3 true).setIfInBounds 4 true).setIfInBounds 5 true).setIfInBounds 6 true).setIfInBounds 7 true) 8 = true := by kernel_rfl
theorem sb_212_5_9 : hardB op_212_5 ((((((((((Array.replicate 16 false).setIfInBounds 0 true).setIfInBounds 1 true).setIfInBounds 2 true).setIfInBounds 3 true).setIfInBounds 4 true).setIfInBounds 5 true).setIfInBounds 6 true).setIfInBounds 7 true).setIfInBounds 8 true) [9] = true := by kernel_rfl
theorem sb_212_5_10 : hardB op_212_5 (((((((((((Array.replicate 16 false).setIfInBounds 0 true).setIfInBounds 1 true).setIfInBounds 2 true).setIfInBounds 3 true).setIfInBounds 4 true).setIfInBounds 5 true).setIfInBounds 6 true).setIfInBounds 7 true).setIfInBounds 8 true).setIfInBounds 9 true) [10] = true := by kernel_rfl
theorem sb_212_5_11 : softB op_212_5 #[true, true, true, true, true, true, true, true, true, true, false, true, true, true, true, true] ((((((((((((Array.replicate 16 false).setIfInBounds 0 true).setIfInBounds 1 true).setIfInBounds 2 true).setIfInBounds 3 true).setIfInBounds 4 true).setIfInBounds 5 true).setIfInBounds 6 true).setIfInBounds 7 true).setIfInBounds 8 true).setIfInBounds 9 true).setIfInBounds 10 true) 11 = true := by kernel_rfl
theorem sb_212_5_12 : softB op_212_5 #[true, true, true, true, true, true, true, true, true, true, false, true, true, true, true, true] (((((((((((((Array.replicate 16 false).setIfInBounds 0 true).setIfInBounds 1 true).setIfInBounds 2 true).setIfInBounds 3 true).setIfInBounds 4 true).setIfInBounds 5 true).setIfInBounds 6 true).setIfInBounds 7 true).setIfInBounds 8 true).setIfInBounds 9 true).setIfInBounds 10 true).setIfInBounds 11 true) 12 = true := by kernel_rfl
theorem sb_212_5_13 : softB op_212_5 #[true, true, true, true, true, true, true, true, true, true, false, true, true, true, true, true] ((((((((((((((Array.replicate 16 false).setIfInBounds 0 true).setIfInBounds 1 true).setIfInBounds 2 true).setIfInBounds 3 true).setIfInBounds 4 true).setIfInBounds 5 true).setIfInBounds 6 true).setIfInBounds 7 true).setIfInBounds 8 true).setIfInBounds 9 true).setIfInBounds 10 true).setIfInBounds 11 true).setIfInBounds 12 true) 13 = true := by kernel_rfl
theorem sb_212_5_14 : softB op_212_5 #[true, true, true, true, true, true, true, true, true, true, false, true, true, true, true, true] (((((((((((((((Array.replicate 16 false).setIfInBounds 0 true).setIfInBounds 1 true).setIfInBounds 2 true).setIfInBounds 3 true).setIfInBounds 4 true).setIfInBounds 5 true).setIfInBounds 6 true).setIfInBounds 7 true).setIfInBounds 8 true).setIfInBounds 9 true).setIfInBounds 10 true).setIfInBounds 11 true).setIfInBounds 12 true).setIfInBounds 13 true) 14 = true := by kernel_rfl
theorem sb_212_5_15 : softB op_212_5 #[true, true, true, true, true, true, true, true, true, true, false, true, true, true, true, true] ((((((((((((((((Array.replicate 16 false).setIfInBounds 0 true).setIfInBounds 1 true).setIfInBounds 2 true).setIfInBounds 3 true).setIfInBounds 4 true).setIfInBounds 5 true).setIfInBounds 6 true).setIfInBounds 7 true).setIfInBounds 8 true).setIfInBounds 9 true).setIfInBounds 10 true).setIfInBounds 11 true).setIfInBounds 12 true).setIfInBounds 13 true).setIfInBounds 14 true) 15 = true := by kernel_rfl
theorem sb_212_5_16 : hardB op_212_5 (((((((((((((((((Array.replicate 16 false).setIfInBounds 0 true).setIfInBounds 1 true).setIfInBounds 2 true).setIfInBounds 3 true).setIfInBounds 4 true).setIfInBounds 5 true).setIfInBounds 6 true).setIfInBounds 7 true).setIfInBounds 8 true).setIfInBounds 9 true).setIfInBounds 10 true).setIfInBounds 11 true).setIfInBounds 12 true).setIfInBounds 13 true).setIfInBounds 14 true).setIfInBounds 15 true) [] = true := by kernel_rfl
theorem sb_212_8_0 : softB op_212_8 #[true, true, true, true, true, true, true, true, true, true, true, true, true, true, true, false] (Array.replicate 16 false) 0 = true := by kernel_rfl
theorem sb_212_8_1 : softB op_212_8 #[true, true, true, true, true, true, true, true, true, true, true, true, true, true, true, false] ((Array.replicate 16 false).setIfInBounds 0 true) 1 = true := by kernel_rfl
theorem sb_212_8_2 : softB op_212_8 #[true, true, true, true, true, true, true, true, true, true, true, true, true, true, true, false] (((Array.replicate 16 false).setIfInBounds 0 true).setIfInBounds 1 true) 2 = true := by kernel_rfl
theorem sb_212_8_3 : softB op_212_8 #[true, true, true, true, true, true, true, true, true, true, true, true, true, true, true, false] ((((Array.replicate 16 false).setIfInBounds 0 true).setIfInBounds 1 true).setIfInBounds 2 true) 3 = true := by kernel_rfl
theorem sb_212_8_4 : softB op_212_8 #[true, true, true, true, true, true, true, true, true, true, true, true, true, true, true, false] (((((Array.replicate 16 false).setIfInBounds 0 true).setIfInBounds 1 true).setIfInBounds 2 true).setIfInBounds 3 true) 4 = true := by kernel_rfl
theorem sb_212_8_5 : softB op_212_8 #[true, true, true, true, true, true, true, true, true, true, true, true, true, true, true, false] ((((((Array.replicate 16 false).setIfInBounds 0 true).setIfInBounds 1 true).setIfInBounds 2 true).setIfInBounds 3 true).setIfInBounds 4 true) 5 = true := by kernel_rfl
theorem sb_212_8_6 : softB op_212_8 #[true, true, true, true, true, true, true, true, true, true, true, true, true, true, true, false] (((((((Array.replicate 16 false).setIfInBounds 0 true).setIfInBounds 1 true).setIfInBounds 2 true).setIfInBounds 3 true).setIfInBounds 4 true).setIfInBounds 5 true) 6 = true := by kernel_rfl
theorem sb_212_8_7 : softB op_212_8 #[true, true, true, true, true, true, true, true, true, true, true, true, true, true, true, false] ((((((((Array.replicate 16 false).setIfInBounds 0 true).setIfInBounds 1 true).setIfInBounds 2 true).setIfInBounds 3 true).setIfInBounds 4 true).setIfInBounds 5 true).setIfInBounds 6 true) 7 = true := by kernel_rfl
theorem sb_212_8_8 : softB op_212_8 #[true, true, true, true, true, true, true, true, true, true, true, true, true, true, true, false] (((((((((Array.replicate 16 false).setIfInBounds 0 true).setIfInBounds 1 true).setIfInBounds 2 true).setIfInBounds 3 true).setIfInBounds 4 true).setIfInBounds 5 true).setIfInBounds 6 true).setIfInBounds 7 true) 8 = true := by kernel_rfl
theorem sb_212_8_9 : softB op_212_8 #[true, true, true, true, true, true, true, true, true, true, true, true, true, true, true, false] ((((((((((Array.replicate 16 false).setIfInBounds 0 true).setIfInBounds 1 true).setIfInBounds 2 true).setIfInBounds 3 true).setIfInBounds 4 true).setIfInBounds 5 true).setIfInBounds 6 true).setIfInBounds 7 true).setIfInBounds 8 true) 9 = true := by kernel_rfl
theorem sb_212_8_10 : softB op_212_8 #[true, true, true, true, true, true, true, true, true, true, true, true, true, true, true, false] (((((((((((Array.replicate 16 false).setIfInBounds 0 true).setIfInBounds 1 true).setIfInBounds 2 true).setIfInBounds 3 true).setIfInBounds 4 true).setIfInBounds 5 true).setIfInBounds 6 true).setIfInBounds 7 true).setIfInBounds 8 true).setIfInBounds 9 true) 10 = true := by kernel_rfl
theorem sb_212_8_11 : softB op_212_8 #[true, true, true, true, true, true, true, true, true, true, true, true, true, true, true, false] ((((((((((((Array.replicate 16 false).setIfInBounds 0 true).setIfInBounds 1 true).setIfInBounds 2 true).setIfInBounds 3 true).setIfInBounds 4 true).setIfInBounds 5 true).setIfInBounds 6 true).setIfInBounds 7 true).setIfInBounds 8 true).setIfInBounds 9 true).setIfInBounds 10 true) 11 = true := by kernel_rfl
theorem sb_212_8_12 : softB op_212_8 #[true, true, true, true, true, true, true, true, true, true, true, true, true, true, true, false] (((((((((((((Array.replicate 16 false).setIfInBounds 0 true).setIfInBounds 1 true).setIfInBounds 2 true).setIfInBounds 3 true).setIfInBounds 4 true).setIfInBounds 5 true).setIfInBounds 6 true).setIfInBounds 7 true).setIfInBounds 8 true).setIfInBounds 9 true).setIfInBounds 10 true).setIfInBounds 11 true) 12 = true := by kernel_rfl
theorem sb_212_8_13 : softB op_212_8 #[true, true, true, true, true, true, true, true, true, true, true, true, true, true, true, false] ((((((((((((((Array.replicate 16 false).setIfInBounds 0 true).setIfInBounds 1 true).setIfInBounds 2 true).setIfInBounds 3 true).setIfInBounds 4 true).setIfInBounds 5 true).setIfInBounds 6 true).setIfInBounds 7 true).setIfInBounds 8 true).setIfInBounds 9 true).setIfInBounds 10 true).setIfInBounds 11 true).setIfInBounds 12 true) 13 = true := by kernel_rfl
theorem sb_212_8_14 : softB op_212_8 #[true, true, true, true, true, true, true, true, true, true, true, true, true, true, true, false] (((((((((((((((Array.replicate 16 false).setIfInBounds 0 true).setIfInBounds 1 true).setIfInBounds 2 true).setIfInBounds 3 true).setIfInBounds 4 true).setIfInBounds 5 true).setIfInBounds 6 true).setIfInBounds 7 true).setIfInBounds 8 true).setIfInBounds 9 true).setIfInBounds 10 true).setIfInBounds 11 true).setIfInBounds 12 true).setIfInBounds 13 true) 14 = true := by kernel_rfl
theorem sb_212_8_15 : hardB op_212_8 ((((((((((((((((Array.replicate 16 false).setIfInBounds 0 true).setIfInBounds 1 true).setIfInBounds 2 true).setIfInBounds 3 true).setIfInBounds 4 true).setIfInBounds 5 true).setIfInBounds 6 true).setIfInBounds 7 true).setIfInBounds 8 true).setIfInBounds 9 true).setIfInBounds 10 true).setIfInBounds 11 true).setIfInBounds 12 true).setIfInBounds 13 true).setIfInBounds 14 true) [15] = true := by kernel_rfl
theorem sb_212_8_16 : hardB op_212_8 (((((((((((((((((Array.replicate 16 false).setIfInBounds 0 true).setIfInBounds 1 true).setIfInBounds 2 true).setIfInBounds 3 true).setIfInBounds 4 true).setIfInBounds 5 true).setIfInBounds 6 true).setIfInBounds 7 true).setIfInBounds 8 true).setIfInBounds 9 true).setIfInBounds 10 true).setIfInBounds 11 true).setIfInBounds 12 true).setIfInBounds 13 true).setIfInBounds 14 true).setIfInBounds 15 true) [] = true := by kernel_rfl
/- (*graph.Graph).store -/
def m212_w1 (n : Nat) (files : (List File)) (mm : Nat) : Int → (List Entry) → Trees → Store → Dev → Option (Flow (Int × Int × Trees × Store × Dev) (Int × (List Entry) × Trees × Store × Dev)) := it5 (fun lp1 c1 l2 z1 z2 z3 =>
cond (decide (c1 < (files.length : Int))) (
Option.bind (ixL files c1) fun x1 =>
Option.bind (apds [] x1.data) fun l4 =>
ob5 (m214 n z1 z2 z3 1 l4) fun c3 c4 z9 z10 z11 =>
cond (decide (¬ (c4 = 0))) (
Option.bind (some (0, c4, z9, z10, z11)) fun q1 => some (.ret q1)) (
Option.bind (ixL files c1) fun x2 =>
Option.bind (ixL files c1) fun x3 =>
Option.bind (ckA c1 (l2.length : Int)) fun _ =>
Option.bind (stL l2 c1 ({ path := x2.path, id := c3, mode := x3.mode } : Entry)) fun l5 =>
lp1 (wi (c1 + 1)) l5 z9 z10 z11)) (
some (.nx (c1, l2, z1, z2, z3)))) mm
def m212 (n : Nat) (g : Graph) (t : Trees) (s : Store) (d : Dev) (files : (List File)) : Option (Int × Int × Trees × Store × Dev) :=
Option.bind (mkL (files.length : Int) (files.length : Int) (Entry.zero : Entry)) fun l1 =>
flow (m212_w1 n files n 0 l1 t s d) some (un5 fun c2 l3 z4 z5 z6 =>
ob5 (m248 n z4 z5 z6 l3) fun c5 c6 z14 z15 z16 =>
some (c5, c6, z14, z15, z16))
theorem t212 {n : Nat} {C : List Chunk} {rc1 : Int} {rc2 : Int} {rz1 : Trees} {rz2 : Store} {rz3 : Dev} {b1 : Nat} {g : Graph} {b2 : Nat} {t : Trees} {b3 : Nat} {s : Store} {b4 : Nat} {d : Dev} {v1 : Value} {g1 : List Chunk} {v2 : Value} {g2 : List Chunk} {v3 : Value} {g3 : List Chunk} {v4 : Value} {g4 : List Chunk} {v5 : Value} {files : (List File)} (ho1 : Own rByte v1 d.blk g1) (ho2 : Own rByte v2 d.base g2) (ho3 : Own rInt v3 d.at_ g3) (ho4 : Own rByte v4 d.data g4) (hr1 : Rd rFile C v5 files)  (hm : m212 n g t s d files = some (rc1, rc2, rz1, rz2, rz3)) : Trip Tryz.prog 212 #[.pointer (some ⟨b1, 0, none⟩), v5] ([[(b1, .cells (Graph.enc (.pointer (some ⟨b2, 0, none⟩)) g).toArray 179 (0, 0))], [(b2, .cells (Trees.enc (.pointer (some ⟨b3, 0, none⟩)) t).toArray 169 (0, 0))], [(b3, .cells (Store.enc (.pointer (some ⟨b4, 0, none⟩)) s).toArray 126 (0, 0))], [(b4, .cells (Dev.enc (v1) (v2) (v3) (v4) d).toArray 85 (0, 0))], g1, g2, g3, g4] ++ [C]) (fun u S' => ∃ (ev1 : Value), ∃ (eg1 : List Chunk), ∃ (ev2 : Value), ∃ (eg2 : List Chunk), ∃ (ev3 : Value), ∃ (eg3 : List Chunk), ∃ (ev4 : Value), ∃ (eg4 : List Chunk), .tuple #[.int .i64 rc1, .int .i64 rc2] = u ∧ S' = [[(b1, .cells (Graph.enc (.pointer (some ⟨b2, 0, none⟩)) g).toArray 179 (0, 0))], [(b2, .cells (Trees.enc (.pointer (some ⟨b3, 0, none⟩)) rz1).toArray 169 (0, 0))], [(b3, .cells (Store.enc (.pointer (some ⟨b4, 0, none⟩)) rz2).toArray 126 (0, 0))], [(b4, .cells (Dev.enc (ev1) (ev2) (ev3) (ev4) rz3).toArray 85 (0, 0))], eg1, eg2, eg3, eg4] ++ [C] ∧ Own rByte ev1 rz3.blk eg1 ∧ Own rByte ev2 rz3.base eg2 ∧ Own rInt ev3 rz3.at_ eg3 ∧ Own rByte ev4 rz3.data eg4) := by
  refine fn_entry (args := [.pointer (some ⟨b1, 0, none⟩), v5]) Tryz.func212 rfl Tryz.ntmps212 rfl (fun w0 => ?_)
  refine c_seq ?_
  refine c_region ?_
  refine o_L (y_assign rfl) rfl rfl ?_
  refine o_L (y_assign rfl) rfl rfl ?_
  refine o_nil0 rfl ?_
  refine c_seq ?_
  refine c_region ?_
  refine o_T (y_move rfl) rfl ?_
  refine o_T (y_lenR hr1 Tryz.underlying57 rfl) rfl ?_
  obtain ⟨l1, hx1, hm⟩ := bd hm
  refine o_mkR (R := rEntry) (a := Entry.zero) sz_277 rfl rfl rfl rfl rfl hx1 rfl (fun v6 g5 ho5 => ?_)
  refine o_L (y_assign rfl) rfl rfl ?_
  refine o_nil0 rfl ?_
  refine c_seq ?_
  refine c_seq ?_
  refine c_region ?_
  refine o_L (y_assign rfl) rfl rfl ?_
  refine o_nil0 rfl ?_
  obtain ⟨f1, F1, hF1, hj1, hF2⟩ := fl2 hm
  refine c_joinP (n := 8) (fun sh G => ∃ (c2 : Int), ∃ (l3 : List Entry), ∃ (z4 : Trees), ∃ (z5 : Store), ∃ (z6 : Dev), ∃ (g11 : List Chunk), ∃ (v13 : Value), ∃ (g12 : List Chunk), ∃ (v14 : Value), ∃ (g13 : List Chunk), ∃ (v15 : Value), ∃ (g14 : List Chunk), ∃ (v16 : Value), ∃ (g15 : List Chunk), sh = [(7, .int .i64 c2)] ∧ G = [g11, [(b2, .cells (Trees.enc (.pointer (some ⟨b3, 0, none⟩)) z4).toArray 169 (0, 0))], [(b3, .cells (Store.enc (.pointer (some ⟨b4, 0, none⟩)) z5).toArray 126 (0, 0))], [(b4, .cells (Dev.enc (v13) (v14) (v15) (v16) z6).toArray 85 (0, 0))], g12, g13, g14, g15] ∧ F1 (c2, l3, z4, z5, z6) = some (rc1, rc2, rz1, rz2, rz3) ∧ Own rEntry v6 l3 g11 ∧ Own rByte v13 z6.blk g12 ∧ Own rByte v14 z6.base g13 ∧ Own rInt v15 z6.at_ g14 ∧ Own rByte v16 z6.data g15) (s_take (s_get (ks k0) (s_get (ks k0) (s_get (ks k0) (s_get (ks k0) (s_get (ks k0) (s_get (ks k0) (s_get (ks k0) (s_take (s_take s_nil)))))))))) (.s (.s (.s (.s (.s (.s (.s (.s .z)))))))) (fun _ _ h => h) ?_ ?_
  · skip
    refine c_block ?_
    refine c_loopP (n := 8) (fun mm sh G => ∃ (c1 : Int), ∃ (l2 : List Entry), ∃ (z1 : Trees), ∃ (z2 : Store), ∃ (z3 : Dev), ∃ (g6 : List Chunk), ∃ (v8 : Value), ∃ (g7 : List Chunk), ∃ (v9 : Value), ∃ (g8 : List Chunk), ∃ (v10 : Value), ∃ (g9 : List Chunk), ∃ (v11 : Value), ∃ (g10 : List Chunk), sh = [(7, .int .i64 c1)] ∧ G = [g6, [(b2, .cells (Trees.enc (.pointer (some ⟨b3, 0, none⟩)) z1).toArray 169 (0, 0))], [(b3, .cells (Store.enc (.pointer (some ⟨b4, 0, none⟩)) z2).toArray 126 (0, 0))], [(b4, .cells (Dev.enc (v8) (v9) (v10) (v11) z3).toArray 85 (0, 0))], g7, g8, g9, g10] ∧ m212_w1 n files mm c1 l2 z1 z2 z3 = some f1 ∧ Own rEntry v6 l2 g6 ∧ Own rByte v8 z3.blk g7 ∧ Own rByte v9 z3.base g8 ∧ Own rInt v10 z3.at_ g9 ∧ Own rByte v11 z3.data g10) n (s_take (s_get (ks k0) (s_get (ks k0) (s_get (ks k0) (s_get (ks k0) (s_get (ks k0) (s_get (ks k0) (s_get (ks k0) (s_take (s_take s_nil)))))))))) (.s (.s (.s (.s (.s (.s (.s (.s .z)))))))) ⟨_, _, ⟨_, _, _, _, _, _, v1, _, v2, _, v3, _, v4, _, rfl, rfl, hj1, ho5, ho1, ho2, ho3, ho4⟩, ⟨rfl, trivial⟩, _, (s_take (s_get (ks k0) (s_get (ks k0) (s_get (ks k0) (s_get (ks k0) (s_get (ks k0) (s_get (ks k0) (s_get (ks k0) (s_take (s_take s_nil))))))))))⟩ ?_
    rintro mm sh G ⟨c1, l2, z1, z2, z3, g6, v8, g7, v9, g8, v10, g9, v11, g10, rfl, rfl, hm, ho6, ho7, ho8, ho9, ho10⟩
    obtain ⟨mm1, rfl, hm⟩ := it5_s hm
    refine c_seq ?_
    refine c_seq ?_
    refine c_region ?_
    refine o_T (y_move rfl) rfl ?_
    refine o_T (y_move rfl) rfl ?_
    refine o_T (y_lenR hr1 Tryz.underlying57 rfl) rfl ?_
    refine o_T (y_lss rfl rfl) rfl ?_
    refine o_nil1 16 rfl rfl ?_
    refine c_cond rfl (fun h1 => ?_) (fun h1 => ?_)
    · have hm := cd_t h1 hm
      refine c_skip ?_
      refine c_seq ?_
      refine c_block ?_
      refine c_seq ?_
      refine c_draw #[true, true, true, true, true, true, true, true, true, true, false, true, true, true, true, true] rfl (n := 16) rfl ?_
      refine d_T 0 rfl sb_212_5_0 rfl (y_move rfl) rfl ?_
      refine d_T 1 rfl sb_212_5_1 rfl (y_nilck rfl) rfl ?_
      refine d_T 2 rfl sb_212_5_2 rfl (y_fa fl_179_0 rfl) rfl ?_
      refine d_ld 3 rfl sb_212_5_3 one_29 rfl (fun x hx => hx) (ms (ms (ms (ms (ms (ms (ms (ms m0)))))))) (At.got (At.refl.comp Graph.a_t)) rfl ?_
      refine d_T 4 rfl sb_212_5_4 rfl (y_move rfl) rfl ?_
      refine d_T 5 rfl sb_212_5_5 rfl (y_move rfl) rfl ?_
      obtain ⟨x1, hx2, hm⟩ := bd hm
      obtain ⟨b5, w1, cs1, y1, z7, vs1, hc1, ha1, hr2, hy1⟩ := hr1.ix hx2
      obtain rfl : vs1 = File.enc x1 := hr2
      refine d_T 6 rfl sb_212_5_6 rfl (hy1 sl_57 rfl rfl rfl) rfl ?_
      refine d_T 7 rfl sb_212_5_7 rfl (y_fa fl_71_1 rfl) rfl ?_
      refine d_ld 8 rfl sb_212_5_8 one_9 rfl (fun x hx => hx) (ms (ms (ms (ms (ms (ms (ms (ms (ms (mg hc1)))))))))) (At.getA (ha1.comp File.a_data)) rfl ?_
      refine d_hard 9 rfl sb_212_5_9 ?_
      obtain ⟨l4, hx3, hm⟩ := bd hm
      refine o_s2b Tryz.underlying9 Tryz.underlying81 Tryz.underlying5 rfl hx3 rfl (fun b6 cp1 cs2 z8 hl1 hl2 hl3 => ?_)
      have hr3 : Rd rByte [(b6, Obj.cells cs2 5 z8)] (.slice (some ⟨b6, 0, none⟩) l4.length cp1) l4 := .inr ⟨_, _, _, _, _, _, rfl, List.mem_cons_self .., hl1, hl2, Els.mono (fun _ hz => by cases hz) hl3⟩
      refine o_stop (fun _ => (fun x hx => (ms hx))) ?_
      refine d_hard 10 rfl sb_212_5_10 ?_
      obtain ⟨c3, c4, z9, z10, z11, hx4, hm⟩ := bd5 hm
      refine o_callC en_214 rfl (s_skip (s_skip (s_take (s_take (s_take (s_take (s_take (s_take (s_take s_nil))))))))) (t214 ho7 ho8 ho9 ho10 (hr3.mono (fun _ hz => (mg hz))) hx4) rfl (fun u1 S1 hR1 => ?_)
      obtain ⟨v17, g16, v18, g17, v19, g18, v20, g19, rfl, rfl, ho16, ho17, ho18, ho19⟩ := hR1
      refine o_rest ?_
      refine o_stop (fun h => nomatch h) ?_
      refine d_T 11 rfl sb_212_5_11 rfl (y_move rfl) rfl ?_
      refine d_T 12 rfl sb_212_5_12 rfl (y_extract rfl rfl) rfl ?_
      refine d_T 13 rfl sb_212_5_13 rfl (y_extract rfl rfl) rfl ?_
      refine d_L 14 rfl sb_212_5_14 rfl (y_assign rfl) rfl rfl ?_
      refine d_L 15 rfl sb_212_5_15 rfl (y_assign rfl) rfl rfl ?_
      refine d_nil0 sb_212_5_16 rfl ?_
      refine c_seq ?_
      refine c_seq ?_
      refine c_region ?_
      refine o_T (y_move rfl) rfl ?_
      refine o_T (y_neq rfl rfl) rfl ?_
      refine o_nil1 34 rfl rfl ?_
      refine c_cond rfl (fun h2 => ?_) (fun h2 => ?_)
      · have hm := cd_t h2 hm
        refine c_seq ?_
        refine c_region ?_
        refine o_T (y_move rfl) rfl ?_
        refine o_L (y_assign rfl) rfl rfl ?_
        refine o_L (y_assign rfl) rfl rfl ?_
        refine o_nil0 rfl ?_
        refine c_ret ?_
        obtain ⟨q1, hq1, hm⟩ := bd hm
        have hm := fl_ret hm hF2
        have hm := hq1.trans hm
        obtain ⟨rfl, rfl, rfl, rfl, rfl⟩ := pr5 hm
        refine fun aX wX heX hsX => ret2 Tryz.results212 heX rfl rfl (s_get (ks (ks (ks (ks (ks (ks (ks (ks (ks k0))))))))) (s_take (s_take (s_take (s_take (s_take (s_take (s_take (s_skip (s_skip (s_take s_nil))))))))))) ?_
        exact ⟨v17, _, v18, _, v19, _, v20, _, rfl, rfl, ho16, ho17, ho18, ho19⟩
      · have hm := cd_f h2 hm
        refine c_skip ?_
        refine c_draw #[true, true, true, true, true, true, true, true, true, true, true, true, true, true, true, false] rfl (n := 16) rfl ?_
        refine d_T 0 rfl sb_212_8_0 rfl (y_move rfl) rfl ?_
        refine d_T 1 rfl sb_212_8_1 rfl (y_move rfl) rfl ?_
        refine d_T 2 rfl sb_212_8_2 rfl (y_move rfl) rfl ?_
        refine d_T 3 rfl sb_212_8_3 rfl (y_move rfl) rfl ?_
        obtain ⟨x2, hx5, hm⟩ := bd hm
        obtain ⟨b7, w2, cs3, y2, z12, vs2, hc2, ha2, hr4, hy2⟩ := hr1.ix hx5
        obtain rfl : vs2 = File.enc x2 := hr4
        refine d_T 4 rfl sb_212_8_4 rfl (hy2 sl_57 rfl rfl rfl) rfl ?_
        refine d_T 5 rfl sb_212_8_5 rfl (y_fa fl_71_0 rfl) rfl ?_
        refine d_ld 6 rfl sb_212_8_6 one_9 rfl (fun x hx => hx) (ms (ms (ms (ms (ms (ms (ms (ms (ms (ms (mg hc2))))))))))) (At.getA (ha2.comp File.a_path)) rfl ?_
        refine d_T 7 rfl sb_212_8_7 rfl (y_move rfl) rfl ?_
        refine d_T 8 rfl sb_212_8_8 rfl (y_move rfl) rfl ?_
        refine d_T 9 rfl sb_212_8_9 rfl (y_move rfl) rfl ?_
        obtain ⟨x3, hx6, hm⟩ := bd hm
        obtain ⟨b8, w3, cs4, y3, z13, vs3, hc3, ha3, hr5, hy3⟩ := hr1.ix hx6
        obtain rfl : vs3 = File.enc x3 := hr5
        refine d_T 10 rfl sb_212_8_10 rfl (hy3 sl_57 rfl rfl rfl) rfl ?_
        refine d_T 11 rfl sb_212_8_11 rfl (y_fa fl_71_2 rfl) rfl ?_
        refine d_ld 12 rfl sb_212_8_12 one_3 rfl (fun x hx => hx) (ms (ms (ms (ms (ms (ms (ms (ms (ms (ms (mg hc3))))))))))) (At.getA (ha3.comp File.a_mode)) rfl ?_
        refine d_T 13 rfl sb_212_8_13 rfl (y_build st_279 rfl (fbU rfl Entry.u_path rfl rfl (fbU rfl Entry.u_id rfl rfl (fbU rfl Entry.u_mode rfl rfl fbU0)))) rfl ?_
        obtain ⟨_, hi1, hm⟩ := bd hm
        have hi1 := ckA_some hi1
        obtain ⟨b9, cp2, hv1, hy4⟩ := ho6.ix hi1
        refine d_T 14 rfl sb_212_8_14 rfl (hy4 sl_277 rfl rfl rfl) rfl ?_
        refine d_hard 15 rfl sb_212_8_15 ?_
        obtain ⟨l5, hx8, hm⟩ := bd hm
        refine o_stOA ag_279 rfl rfl rfl rfl ho6 hv1 hx8 (fun _ => (qs (qs (qs (qs (qs (qs (qs (qs q0))))))))) (fun g20 ho20 => ?_)
        refine o_stop (fun h => nomatch h) ?_
        refine d_nil0 sb_212_8_16 rfl ?_
        refine c_region ?_
        refine o_T (y_move rfl) rfl ?_
        refine o_T (y_add rfl rfl rfl) rfl ?_
        refine o_L (y_assign rfl) rfl rfl ?_
        refine o_nil0 rfl ?_
        exact ⟨mm1, Nat.lt_succ_self _, _, _, ⟨_, _, _, _, _, _, v17, _, v18, _, v19, _, v20, _, rfl, rfl, hm, ho20, ho16, ho17, ho18, ho19⟩, ⟨rfl, trivial⟩, ⟨rfl, rfl⟩, _, (s_get (ks (ks (ks (ks (ks (ks (ks (ks k0)))))))) (s_take (s_take (s_take (s_take (s_take (s_take (s_take (s_skip (s_take (s_take s_nil)))))))))))⟩
    · have hm := cd_f h1 hm
      refine c_exit ?_
      have hm := fl_nx hm hF2
      exact ⟨_, _, ⟨_, _, _, _, _, _, v8, _, v9, _, v10, _, v11, _, rfl, rfl, hm, ho6, ho7, ho8, ho9, ho10⟩, ⟨rfl, trivial⟩, ⟨rfl, rfl⟩, _, (s_take (s_take (s_take (s_take (s_take (s_take (s_take (s_take (s_take (s_take s_nil))))))))))⟩
  · rintro sh G ⟨c2, l3, z4, z5, z6, g11, v13, g12, v14, g13, v15, g14, v16, g15, rfl, rfl, hm, ho11, ho12, ho13, ho14, ho15⟩
    subst hF1
    refine c_seq ?_
    refine c_region ?_
    refine o_T (y_move rfl) rfl ?_
    refine o_T (y_nilck rfl) rfl ?_
    refine o_T (y_fa fl_179_0 rfl) rfl ?_
    refine o_ld one_29 rfl (ms (ms (ms (ms (ms (ms (ms (ms m0)))))))) (At.got (At.refl.comp Graph.a_t)) rfl ?_
    refine o_T (y_move rfl) rfl ?_
    obtain ⟨c5, c6, z14, z15, z16, hx9, hm⟩ := bd5 hm
    refine o_callC en_248 rfl (s_skip (s_take (s_take (s_take (s_take (s_take (s_take (s_take s_nil)))))))) (t248 ho12 ho13 ho14 ho15 (ho11.rd.mono (fun _ hz => (mg hz))) hx9) rfl (fun u2 S2 hR2 => ?_)
    obtain ⟨v21, g21, v22, g22, v23, g23, v24, g24, rfl, rfl, ho21, ho22, ho23, ho24⟩ := hR2
    refine o_rest ?_
    refine o_T (y_extract rfl rfl) rfl ?_
    refine o_T (y_extract rfl rfl) rfl ?_
    refine o_L (y_assign rfl) rfl rfl ?_
    refine o_L (y_assign rfl) rfl rfl ?_
    refine o_nil0 rfl ?_
    refine c_ret ?_
    obtain ⟨rfl, rfl, rfl, rfl, rfl⟩ := pr5 hm
    refine fun aX wX heX hsX => ret2 Tryz.results212 heX rfl rfl (s_get (ks (ks (ks (ks (ks (ks (ks (ks k0)))))))) (s_take (s_take (s_take (s_take (s_take (s_take (s_take (s_skip (s_take s_nil)))))))))) ?_
    exact ⟨v21, _, v22, _, v23, _, v24, _, rfl, rfl, ho21, ho22, ho23, ho24⟩
end Go.Proofs.Qxb6500350aGreat
