/- MADE BY PROGRAM (tools350/mir.py): mirror and walk. -/
import Derived.Test.Qxb6500350aGreatF2
import Derived.Test.Qxb6500350aGreatT291
import Derived.Test.Qxb6500350aGreatT292
set_option linter.unusedVariables false
set_option linter.unusedSimpArgs false
set_option maxRecDepth 20000
set_option maxHeartbeats 4000000
namespace Go.Proofs.Qxb6500350aGreat
open Go.Eng

def op_255_3 : Array Go.Oper := #[{ dst := some 15, op := Go.Op.move (Go.Operand.tmp 6), type := 3, pos := "table.go:55", after := #[], guard := none }, { dst := some 16, op := Go.Op.move (Go.Operand.tmp 0), type := 65, pos := "table.go:55", after := #[], guard := none }, { dst := some 17, op := Go.Op.call { callee := Go.Callee.builtin Go.Builtin.len, args := #[Go.Operand.tmp 16], argTypes := #[65] }, type := 3, pos := "table.go:55", after := #[{ on := 1, ground := Go.Ground.data }], guard := none }, { dst := some 18, op := Go.Op.binOp Go.BinOp.lss 3 (Go.Operand.tmp 15) (Go.Operand.tmp 17) 3, type := 4, pos := "table.go:55", after := #[{ on := 0, ground := Go.Ground.data }, { on := 2, ground := Go.Ground.data }], guard := none }, { dst := some 19, op := Go.Op.move (Go.Operand.tmp 18), type := 4, pos := "table.go:55", after := #[{ on := 3, ground := Go.Ground.data }], guard := none }, { dst := some 20, op := Go.Op.move (Go.Operand.tmp 6), type := 3, pos := "table.go:55", after := #[{ on := 4, ground := Go.Ground.guard }], guard := some (4, true) }, { dst := some 21, op := Go.Op.move (Go.Operand.tmp 1), type := 65, pos := "table.go:55", after := #[{ on := 4, ground := Go.Ground.guard }], guard := some (4, true) }, { dst := some 22, op := Go.Op.call { callee := Go.Callee.builtin Go.Builtin.len, args := #[Go.Operand.tmp 21], argTypes := #[65] }, type := 3, pos := "table.go:55", after := #[{ on := 6, ground := Go.Ground.data }, { on := 4, ground := Go.Ground.guard }], guard := some (4, true) }, { dst := some 23, op := Go.Op.binOp Go.BinOp.lss 3 (Go.Operand.tmp 20) (Go.Operand.tmp 22) 3, type := 4, pos := "table.go:55", after := #[{ on := 5, ground := Go.Ground.data }, { on := 7, ground := Go.Ground.data }, { on := 4, ground := Go.Ground.guard }], guard := some (4, true) }, { dst := some 24, op := Go.Op.pick (Go.Operand.tmp 19) (Go.Operand.tmp 23) (Go.Operand.const (Go.Value.bool false)), type := 4, pos := "table.go:55", after := #[{ on := 4, ground := Go.Ground.data }, { on := 8, ground := Go.Ground.data }], guard := none }, { dst := some 25, op := Go.Op.move (Go.Operand.tmp 24), type := 4, pos := "table.go:55", after := #[{ on := 9, ground := Go.Ground.data }, { on := 4, ground := Go.Ground.chain }], guard := none }, { dst := some 26, op := Go.Op.move (Go.Operand.tmp 0), type := 65, pos := "table.go:55", after := #[{ on := 10, ground := Go.Ground.guard }], guard := some (10, true) }, { dst := some 27, op := Go.Op.move (Go.Operand.tmp 6), type := 3, pos := "table.go:55", after := #[{ on := 10, ground := Go.Ground.guard }], guard := some (10, true) }, { dst := some 28, op := Go.Op.indexAddr 65 (Go.Operand.tmp 26) (Go.Operand.tmp 27), type := 0, pos := "table.go:55", after := #[{ on := 11, ground := Go.Ground.data }, { on := 12, ground := Go.Ground.data }, { on := 10, ground := Go.Ground.guard }], guard := some (10, true) }, { dst := some 29, op := Go.Op.load 3 (Go.Operand.tmp 28), type := 3, pos := "table.go:55", after := #[{ on := 13, ground := Go.Ground.data }, { on := 10, ground := Go.Ground.guard }], guard := some (10, true) }, { dst := some 30, op := Go.Op.move (Go.Operand.tmp 1), type := 65, pos := "table.go:55", after := #[{ on := 10, ground := Go.Ground.guard }], guard := some (10, true) }, { dst := some 31, op := Go.Op.move (Go.Operand.tmp 6), type := 3, pos := "table.go:55", after := #[{ on := 10, ground := Go.Ground.guard }], guard := some (10, true) }, { dst := some 32, op := Go.Op.indexAddr 65 (Go.Operand.tmp 30) (Go.Operand.tmp 31), type := 0, pos := "table.go:55", after := #[{ on := 15, ground := Go.Ground.data }, { on := 16, ground := Go.Ground.data }, { on := 10, ground := Go.Ground.guard }], guard := some (10, true) }, { dst := some 33, op := Go.Op.load 3 (Go.Operand.tmp 32), type := 3, pos := "table.go:55", after := #[{ on := 17, ground := Go.Ground.data }, { on := 10, ground := Go.Ground.guard }], guard := some (10, true) }, { dst := some 34, op := Go.Op.binOp Go.BinOp.eql 3 (Go.Operand.tmp 29) (Go.Operand.tmp 33) 3, type := 4, pos := "table.go:55", after := #[{ on := 14, ground := Go.Ground.data }, { on := 18, ground := Go.Ground.data }, { on := 10, ground := Go.Ground.guard }], guard := some (10, true) }, { dst := some 35, op := Go.Op.pick (Go.Operand.tmp 25) (Go.Operand.tmp 34) (Go.Operand.const (Go.Value.bool false)), type := 4, pos := "table.go:55", after := #[{ on := 10, ground := Go.Ground.data }, { on := 19, ground := Go.Ground.data }], guard := none }]
def op_255_6 : Array Go.Oper := #[{ dst := some 42, op := Go.Op.move (Go.Operand.tmp 0), type := 65, pos := "table.go:59", after := #[], guard := none }, { dst := some 43, op := Go.Op.move (Go.Operand.tmp 6), type := 3, pos := "table.go:59", after := #[], guard := none }, { dst := some 44, op := Go.Op.slice 65 (Go.Operand.tmp 42) (some (Go.Operand.tmp 43)) none none, type := 65, pos := "table.go:59", after := #[{ on := 0, ground := Go.Ground.data }, { on := 1, ground := Go.Ground.data }], guard := none }, { dst := some 45, op := Go.Op.move (Go.Operand.tmp 1), type := 65, pos := "table.go:59", after := #[], guard := none }, { dst := some 46, op := Go.Op.move (Go.Operand.tmp 6), type := 3, pos := "table.go:59", after := #[], guard := none }, { dst := some 47, op := Go.Op.slice 65 (Go.Operand.tmp 45) (some (Go.Operand.tmp 46)) none none, type := 65, pos := "table.go:59", after := #[{ on := 3, ground := Go.Ground.data }, { on := 4, ground := Go.Ground.data }], guard := none }, { dst := some 48, op := Go.Op.call { callee := Go.Callee.value (Go.Operand.func 291), args := #[Go.Operand.tmp 44, Go.Operand.tmp 47], argTypes := #[65, 65] }, type := 295, pos := "table.go:59", after := #[{ on := 2, ground := Go.Ground.data }, { on := 5, ground := Go.Ground.data }], guard := none }, { dst := some 7, op := Go.Op.assign (Go.Operand.tmp 48), type := 295, pos := "table.go:59", after := #[{ on := 6, ground := Go.Ground.data }, { on := 6, ground := Go.Ground.chain }, { on := 0, ground := Go.Ground.phase }, { on := 1, ground := Go.Ground.phase }, { on := 2, ground := Go.Ground.phase }, { on := 3, ground := Go.Ground.phase }, { on := 4, ground := Go.Ground.phase }, { on := 5, ground := Go.Ground.phase }, { on := 6, ground := Go.Ground.phase }], guard := none }]
def op_255_13 : Array Go.Oper := #[{ dst := some 64, op := Go.Op.move (Go.Operand.tmp 0), type := 65, pos := "table.go:66", after := #[], guard := none }, { dst := some 65, op := Go.Op.move (Go.Operand.tmp 8), type := 3, pos := "table.go:66", after := #[], guard := none }, { dst := some 66, op := Go.Op.indexAddr 65 (Go.Operand.tmp 64) (Go.Operand.tmp 65), type := 0, pos := "table.go:66", after := #[{ on := 0, ground := Go.Ground.data }, { on := 1, ground := Go.Ground.data }], guard := none }, { dst := some 67, op := Go.Op.load 3 (Go.Operand.tmp 66), type := 3, pos := "table.go:66", after := #[{ on := 2, ground := Go.Ground.data }], guard := none }, { dst := some 68, op := Go.Op.move (Go.Operand.tmp 1), type := 65, pos := "table.go:66", after := #[], guard := none }, { dst := some 69, op := Go.Op.move (Go.Operand.tmp 9), type := 3, pos := "table.go:66", after := #[], guard := none }, { dst := some 70, op := Go.Op.indexAddr 65 (Go.Operand.tmp 68) (Go.Operand.tmp 69), type := 0, pos := "table.go:66", after := #[{ on := 4, ground := Go.Ground.data }, { on := 5, ground := Go.Ground.data }], guard := none }, { dst := some 71, op := Go.Op.load 3 (Go.Operand.tmp 70), type := 3, pos := "table.go:66", after := #[{ on := 6, ground := Go.Ground.data }], guard := none }, { dst := some 72, op := Go.Op.binOp Go.BinOp.eql 3 (Go.Operand.tmp 67) (Go.Operand.tmp 71) 3, type := 4, pos := "table.go:66", after := #[{ on := 3, ground := Go.Ground.data }, { on := 7, ground := Go.Ground.data }], guard := none }]
theorem sb_255_3_0 : softB op_255_3 #[true, true, true, true, true, true, true, true, true, true, true, true, true, true, true, true, true, true, true, true, true] (Array.replicate 21 false) 0 = true := by kernel_rfl
theorem sb_255_3_1 : softB op_255_3 #[true, true, true, true, true, true, true, true, true, true, true, true, true, true, true, true, true, true, true, true, true] ((Array.replicate 21 false).setIfInBounds 0 true) 1 = true := by kernel_rfl
theorem sb_255_3_2 : softB op_255_3 #[true, true, true, true, true, true, true, true, true, true, true, true, true, true, true, true, true, true, true, true, true] (((Array.replicate 21 false).setIfInBounds 0 true).setIfInBounds 1 true) 2 = true := by kernel_rfl
theorem sb_255_3_3 : softB op_255_3 #[true, true, true, true, true, true, true, true, true, true, true, true, true, true, true, true, true, true, true, true, true] ((((Array.replicate 21 false).setIfInBounds 0 true).setIfInBounds 1 true).setIfInBounds 2 true) 3 = true := by kernel_rfl
theorem sb_255_3_4 : softB op_255_3 #[true, true, true, true, true, true, true, true, true, true, true, true, true, true, true, true, true, true, true, true, true] (((((Array.replicate 21 false).setIfInBounds 0 true).setIfInBounds 1 true).setIfInBounds 2 true).setIfInBounds 3 true) 4 = true := by kernel_rfl
theorem sb_255_3_5 : softB op_255_3 #[true, true, true, true, true, true, true, true, true, true, true, true, true, true, true, true, true, true, true, true, true] ((((((Array.replicate 21 false).setIfInBounds 0 true).setIfInBounds 1 true).setIfInBounds 2 true).setIfInBounds 3 true).setIfInBounds 4 true) 5 = true := by kernel_rfl
theorem sb_255_3_6 : softB op_255_3 #[true, true, true, true, true, true, true, true, true, true, true, true, true, true, true, true, true, true, true, true, true] (((((((Array.replicate 21 false).setIfInBounds 0 true).setIfInBounds 1 true).setIfInBounds 2 true).setIfInBounds 3 true).setIfInBounds 4 true).setIfInBounds 5 true) 6 = true := by kernel_rfl
theorem sb_255_3_7 : softB op_255_3 #[true, true, true, true, true, true, true, true, true, true, true, true, true, true, true, true, true, true, true, true, true] ((((((((Array.replicate 21 false).setIfInBounds 0 true).setIfInBounds 1 true).setIfInBounds 2 true).setIfInBounds 3 true).setIfInBounds 4 true).setIfInBounds 5 true).setIfInBounds 6 true) 7 = true := by kernel_rfl
theorem sb_255_3_8 : softB op_255_3 #[true, true, true, true, true, true, true, true, true, true, true, true, true, true, true, true, true, true, true, true, true] (((((((((Array.replicate 21 false).setIfInBounds 0 true).setIfInBounds 1 true).setIfInBounds 2 true).setIfInBounds 3 true).setIfInBounds 4 true).setIfInBounds 5 true).setIfInBounds 6 true).setIfInBounds 7 true) 8 = true := by kernel_rfl
theorem sb_255_3_9 : softB op_255_3 #[true, true, true, true, true, true, true, true, true, true, true, true, true, true, true, true, true, true, true, true, true] ((((((((((Array.replicate 21 false).setIfInBounds 0 true).setIfInBounds 1 true).setIfInBounds 2 true).setIfInBounds 3 true).setIfInBounds 4 true).setIfInBounds 5 true).setIfInBounds 6 true).setIfInBounds 7 true).setIfInBounds 8 true) 9 = true := by kernel_rfl
theorem sb_255_3_10 : softB op_255_3 #[true, true, true, true, true, true, true, true, true, true, true, true, true, true, true, true, true, true, true, true, true] (((((((((((Array.replicate 21 false).setIfInBounds 0 true).setIfInBounds 1 true).setIfInBounds 2 true).setIfInBounds 3 true).setIfInBounds 4 true).setIfInBounds 5 true).setIfInBounds 6 true).setIfInBounds 7 true).setIfInBounds 8 true).setIfInBounds 9 true) 10 = true := by kernel_rfl
theorem sb_255_3_11 : softB op_255_3 #[true, true, true, true, true, true, true, true, true, true, true, true, true, true, true, true, true, true, true, true, true] ((((((((((((Array.replicate 21 false).setIfInBounds 0 true).setIfInBounds 1 true).setIfInBounds 2 true).setIfInBounds 3 true).setIfInBounds 4 true).setIfInBounds 5 true).setIfInBounds 6 true).setIfInBounds 7 true).setIfInBounds 8 true).setIfInBounds 9 true).setIfInBounds 10 true) 11 = true := by kernel_rfl
theorem sb_255_3_12 : softB op_255_3 #[true, true, true, true, true, true, true, true, true, true, true, true, true, true, true, true, true, true, true, true, true] (((((((((((((Array.replicate 21 false).setIfInBounds 0 true).setIfInBounds 1 true).setIfInBounds 2 true).setIfInBounds 3 true).setIfInBounds 4 true).setIfInBounds 5 true).setIfInBounds 6 true).setIfInBounds 7 true).setIfInBounds 8 true).setIfInBounds 9 true).setIfInBounds 10 true).setIfInBounds 11 true) 12 = true := by kernel_rfl
theorem sb_255_3_13 : softB op_255_3 #[true, true, true, true, true, true, true, true, true, true, true, true, true, true, true, true, true, true, true, true, true] ((((((((((((((Array.replicate 21 false).setIfInBounds 0 true).setIfInBounds 1 true).setIfInBounds 2 true).setIfInBounds 3 true).setIfInBounds 4 true).setIfInBounds 5 true).setIfInBounds 6 true).setIfInBounds 7 true).setIfInBounds 8 true).setIfInBounds 9 true).setIfInBounds 10 true).setIfInBounds 11 true).setIfInBounds 12 true) 13 = true := by kernel_rfl
theorem sb_255_3_14 : softB op_255_3 #[true, true, true, true, true, true, true, true, true, true, true, true, true, true, true, true, true, true, true, true, true] (((((((((((((((Array.replicate 21 false).setIfInBounds 0 true).setIfInBounds 1 true).setIfInBounds 2 true).setIfInBounds 3 true).setIfInBounds 4 true).setIfInBounds 5 true).setIfInBounds 6 true).setIfInBounds 7 true).setIfInBounds 8 true).setIfInBounds 9 true).setIfInBounds 10 true).setIfInBounds 11 true).setIfInBounds 12 true).setIfInBounds 13 true) 14 = true := by kernel_rfl
theorem sb_255_3_15 : softB op_255_3 #[true, true, true, true, true, true, true, true, true, true, true, true, true, true, true, true, true, true, true, true, true] ((((((((((((((((Array.replicate 21 false).setIfInBounds 0 true).setIfInBounds 1 true).setIfInBounds 2 true).setIfInBounds 3 true).setIfInBounds 4 true).setIfInBounds 5 true).setIfInBounds 6 true).setIfInBounds 7 true).setIfInBounds 8 true).setIfInBounds 9 true).setIfInBounds 10 true).setIfInBounds 11 true).setIfInBounds 12 true).setIfInBounds 13 true).setIfInBounds 14 true) 15 = true := by kernel_rfl
theorem sb_255_3_16 : softB op_255_3 #[true, true, true, true, true, true, true, true, true, true, true, true, true, true, true, true, true, true, true, true, true] (((((((((((((((((Array.replicate 21 false).setIfInBounds 0 true).setIfInBounds 1 true).setIfInBounds 2 true).setIfInBounds 3 true).setIfInBounds 4 true).setIfInBounds 5 true).setIfInBounds 6 true).setIfInBounds 7 true).setIfInBounds 8 true).setIfInBounds 9 true).setIfInBounds 10 true).setIfInBounds 11 true).setIfInBounds 12 true).setIfInBounds 13 true).setIfInBounds 14 true).setIfInBounds 15 true) 16 = true := by kernel_rfl
theorem sb_255_3_17 : softB op_255_3 #[true, true, true, true, true, true, true, true, true, true, true, true, true, true, true, true, true, true, true, true, true] ((((((((((((((((((Array.replicate 21 false).setIfInBounds 0 true).setIfInBounds 1 true).setIfInBounds 2 true).setIfInBounds 3 true).setIfInBounds 4 true).setIfInBounds 5 true).setIfInBounds 6 true).setIfInBounds 7 true).setIfInBounds 8 true).setIfInBounds 9 true).setIfInBounds 10 true).setIfInBounds 11 true).setIfInBounds 12 true).setIfInBounds 13 true).setIfInBounds 14 true).setIfInBounds 15 true).setIfInBounds 16 true) 17 = true := by kernel_rfl
theorem sb_255_3_18 : softB op_255_3 #[true, true, true, true, true, true, true, true, true, true, true, true, true, true, true, true, true, true, true, true, true] (((((((((((((((((((Array.replicate 21 false).setIfInBounds 0 true).setIfInBounds 1 true).setIfInBounds 2 true).setIfInBounds 3 true).setIfInBounds 4 true).setIfInBounds 5 true).setIfInBounds 6 true).setIfInBounds 7 true).setIfInBounds 8 true).setIfInBounds 9 true).setIfInBounds 10 true).setIfInBounds 11 true).setIfInBounds 12 true).setIfInBounds 13 true).setIfInBounds 14 true).setIfInBounds 15 true).setIfInBounds 16 true).setIfInBounds 17 true) 18 = true := by kernel_rfl
theorem sb_255_3_19 : softB op_255_3 #[true, true, true, true, true, true, true, true, true, true, true, true, true, true, true, true, true, true, true, true, true] ((((((((((((((((((((Array.replicate 21 false).setIfInBounds 0 true).setIfInBounds 1 true).setIfInBounds 2 true).setIfInBounds 3 true).setIfInBounds 4 true).setIfInBounds 5 true).setIfInBounds 6 true).setIfInBounds 7 true).setIfInBounds 8 true).setIfInBounds 9 true).setIfInBounds 10 true).setIfInBounds 11 true).setIfInBounds 12 true).setIfInBounds 13 true).setIfInBounds 14 true).setIfInBounds 15 true).setIfInBounds 16 true).setIfInBounds 17 true).setIfInBounds 18 true) 19 = true := by kernel_rfl
theorem sb_255_3_20 : softB op_255_3 #[true, true, true, true, true, true, true, true, true, true, true, true, true, true, true, true, true, true, true, true, true] (((((((((((((((((((((Array.replicate 21 false).setIfInBounds 0 true).setIfInBounds 1 true).setIfInBounds 2 true).setIfInBounds 3 true).setIfInBounds 4 true).setIfInBounds 5 true).setIfInBounds 6 true).setIfInBounds 7 true).setIfInBounds 8 true).setIfInBounds 9 true).setIfInBounds 10 true).setIfInBounds 11 true).setIfInBounds 12 true).setIfInBounds 13 true).setIfInBounds 14 true).setIfInBounds 15 true).setIfInBounds 16 true).setIfInBounds 17 true).setIfInBounds 18 true).setIfInBounds 19 true) 20 = true := by kernel_rfl
theorem sb_255_3_21 : hardB op_255_3 ((((((((((((((((((((((Array.replicate 21 false).setIfInBounds 0 true).setIfInBounds 1 true).setIfInBounds 2 true).setIfInBounds 3 true).setIfInBounds 4 true).setIfInBounds 5 true).setIfInBounds 6 true).setIfInBounds 7 true).setIfInBounds 8 true).setIfInBounds 9 true).setIfInBounds 10 true).setIfInBounds 11 true).setIfInBounds 12 true).setIfInBounds 13 true).setIfInBounds 14 true).setIfInBounds 15 true).setIfInBounds 16 true).setIfInBounds 17 true).setIfInBounds 18 true).setIfInBounds 19 true).setIfInBounds 20 true) [] = true := by kernel_rfl
theorem sb_255_6_0 : softB op_255_6 #[true, true, true, true, true, true, false, true] (Array.replicate 8 false) 0 = true := by kernel_rfl
theorem sb_255_6_1 : softB op_255_6 #[true, true, true, true, true, true, false, true] ((Array.replicate 8 false).setIfInBounds 0 true) 1 = true := by kernel_rfl
theorem sb_255_6_2 : softB op_255_6 #[true, true, true, true, true, true, false, true] (((Array.replicate 8 false).setIfInBounds 0 true).setIfInBounds 1 true) 2 = true := by kernel_rfl
theorem sb_255_6_3 : softB op_255_6 #[true, true, true, true, true, true, false, true] ((((Array.replicate 8 false).setIfInBounds 0 true).setIfInBounds 1 true).setIfInBounds 2 true) 3 = true := by kernel_rfl
theorem sb_255_6_4 : softB op_255_6 #[true, true, true, true, true, true, false, true] (((((Array.replicate 8 false).setIfInBounds 0 true).setIfInBounds 1 true).setIfInBounds 2 true).setIfInBounds 3 true) 4 = true := by kernel_rfl
theorem sb_255_6_5 : softB op_255_6 #[true, true, true, true, true, true, false, true] ((((((Array.replicate 8 false).setIfInBounds 0 true).setIfInBounds 1 true).setIfInBounds 2 true).setIfInBounds 3 true).setIfInBounds 4 true) 5 = true := by kernel_rfl
theorem sb_255_6_6 : hardB op_255_6 (((((((Array.replicate 8 false).setIfInBounds 0 true).setIfInBounds 1 true).setIfInBounds 2 true).setIfInBounds 3 true).setIfInBounds 4 true).setIfInBounds 5 true) [6] = true := by kernel_rfl
theorem sb_255_6_7 : softB op_255_6 #[true, true, true, true, true, true, false, true] ((((((((Array.replicate 8 false).setIfInBounds 0 true).setIfInBounds 1 true).setIfInBounds 2 true).setIfInBounds 3 true).setIfInBounds 4 true).setIfInBounds 5 true).setIfInBounds 6 true) 7 = true := by kernel_rfl
theorem sb_255_6_8 : hardB op_255_6 (((((((((Array.replicate 8 false).setIfInBounds 0 true).setIfInBounds 1 true).setIfInBounds 2 true).setIfInBounds 3 true).setIfInBounds 4 true).setIfInBounds 5 true).setIfInBounds 6 true).setIfInBounds 7 true) [] = true := by kernel_rfl
theorem sb_255_13_0 : softB op_255_13 #[true, true, true, true, true, true, true, true, true] (Array.replicate 9 false) 0 = true := by kernel_rfl
theorem sb_255_13_1 : softB op_255_13 #[true, true, true, true, true, true, true, true, true] ((Array.replicate 9 false).setIfInBounds 0 true) 1 = true := by kernel_rfl
theorem sb_255_13_2 : softB op_255_13 #[true, true, true, true, true, true, true, true, true] (((Array.replicate 9 false).setIfInBounds 0 true).setIfInBounds 1 true) 2 = true := by kernel_rfl
theorem sb_255_13_3 : softB op_255_13 #[true, true, true, true, true, true, true, true, true] ((((Array.replicate 9 false).setIfInBounds 0 true).setIfInBounds 1 true).setIfInBounds 2 true) 3 = true := by kernel_rfl
theorem sb_255_13_4 : softB op_255_13 #[true, true, true, true, true, true, true, true, true] (((((Array.replicate 9 false).setIfInBounds 0 true).setIfInBounds 1 true).setIfInBounds 2 true).setIfInBounds 3 true) 4 = true := by kernel_rfl
theorem sb_255_13_5 : softB op_255_13 #[true, true, true, true, true, true, true, true, true] ((((((Array.replicate 9 false).setIfInBounds 0 true).setIfInBounds 1 true).setIfInBounds 2 true).setIfInBounds 3 true).setIfInBounds 4 true) 5 = true := by kernel_rfl
theorem sb_255_13_6 : softB op_255_13 #[true, true, true, true, true, true, true, true, true] (((((((Array.replicate 9 false).setIfInBounds 0 true).setIfInBounds 1 true).setIfInBounds 2 true).setIfInBounds 3 true).setIfInBounds 4 true).setIfInBounds 5 true) 6 = true := by kernel_rfl
theorem sb_255_13_7 : softB op_255_13 #[true, true, true, true, true, true, true, true, true] ((((((((Array.replicate 9 false).setIfInBounds 0 true).setIfInBounds 1 true).setIfInBounds 2 true).setIfInBounds 3 true).setIfInBounds 4 true).setIfInBounds 5 true).setIfInBounds 6 true) 7 = true := by kernel_rfl
theorem sb_255_13_8 : softB op_255_13 #[true, true, true, true, true, true, true, true, true] (((((((((Array.replicate 9 false).setIfInBounds 0 true).setIfInBounds 1 true).setIfInBounds 2 true).setIfInBounds 3 true).setIfInBounds 4 true).setIfInBounds 5 true).setIfInBounds 6 true).setIfInBounds 7 true) 8 = true := by kernel_rfl
theorem sb_255_13_9 : hardB op_255_13 ((((((((((Array.replicate 9 false).setIfInBounds 0 true).setIfInBounds 1 true).setIfInBounds 2 true).setIfInBounds 3 true).setIfInBounds 4 true).setIfInBounds 5 true).setIfInBounds 6 true).setIfInBounds 7 true).setIfInBounds 8 true) [] = true := by kernel_rfl
/- diff.match -/
def m255_w1 (n : Nat) (x_ : (List Int)) (y : (List Int)) (mm : Nat) : Int → (List Int) → Option (Int × (List Int)) := it2 (fun lp1 c1 l2 =>
ob1 (cond (decide (c1 < (x_.length : Int))) (cond (decide (c1 < (y.length : Int))) (Option.bind (ixL x_ c1) fun x1 =>
Option.bind (ixL y c1) fun x2 =>
some ((decide (x1 = x2)))) (some (false))) (some (false))) fun c3 =>
cond c3 (
Option.bind (ckA c1 (l2.length : Int)) fun _ =>
Option.bind (stL l2 c1 c1) fun l4 =>
lp1 (wi (c1 + 1)) l4) (
some (c1, l2))) mm
def m255_w2 (n : Nat) (x_ : (List Int)) (y : (List Int)) (c2 : Int) (z3 : Tabl) (mm : Nat) : Int → Int → (List Int) → Option (Int × Int × (List Int)) := it3 (fun lp2 c4 c5 l7 =>
cond (decide (c4 < (x_.length : Int))) (
cond (decide ((y.length : Int) ≤ c5)) (
Option.bind (ckA c4 (l7.length : Int)) fun _ =>
Option.bind (stL l7 c4 (-1)) fun l9 =>
lp2 (wi (c4 + 1)) c5 l9) (
Option.bind (ixL x_ c4) fun x5 =>
Option.bind (ixL y c5) fun x6 =>
cond (decide (x5 = x6)) (
Option.bind (ckA c4 (l7.length : Int)) fun _ =>
Option.bind (stL l7 c4 c5) fun l10 =>
lp2 (wi (c4 + 1)) (wi (c5 + 1)) l10) (
ob1 (m292 n z3 (wi ((wi (c4 - c2)) + 1)) (wi (c5 - c2))) fun c8 =>
ob1 (m292 n z3 (wi (c4 - c2)) (wi ((wi (c5 - c2)) + 1))) fun c9 =>
cond (decide (c9 ≤ c8)) (
Option.bind (ckA c4 (l7.length : Int)) fun _ =>
Option.bind (stL l7 c4 (-1)) fun l11 =>
lp2 (wi (c4 + 1)) c5 l11) (
lp2 c4 (wi (c5 + 1)) l7)))) (
some (c4, c5, l7))) mm
def m255 (n : Nat) (x_ : (List Int)) (y : (List Int)) : Option ((List Int)) :=
Option.bind (mkL (x_.length : Int) (x_.length : Int) (0 : Int)) fun l1 =>
ob2 (m255_w1 n x_ y n 0 l1) fun c2 l3 =>
Option.bind (slL x_ c2 (x_.length : Int)) fun l5 =>
Option.bind (slL y c2 (y.length : Int)) fun l6 =>
ob1 (m291 n l5 l6) fun z3 =>
ob3 (m255_w2 n x_ y c2 z3 n c2 c2 l3) fun c6 c7 l8 =>
some l8
theorem t255 {n : Nat} {C : List Chunk} {rl1 : List Int} {v1 : Value} {x_ : (List Int)} {v2 : Value} {y : (List Int)} (hr1 : Rd rInt C v1 x_) (hr2 : Rd rInt C v2 y)  (hm : m255 n x_ y = some rl1) : Trip Tryz.prog 255 #[v1, v2] ([] ++ [C]) (fun u S' => ∃ (ev1 : Value), ∃ (eg1 : List Chunk), ev1 = u ∧ S' = [eg1] ++ [C] ∧ Own rInt ev1 rl1 eg1) := by
  refine fn_entry (args := [v1, v2]) Tryz.func255 rfl Tryz.ntmps255 rfl (fun w0 => ?_)
  refine c_seq ?_
  refine c_region ?_
  have ho1 : Own rInt (.slice none 0 0) [] [] := Own.nil
  refine o_emp ?_
  refine o_L (y_assign rfl) rfl rfl ?_
  refine o_nil0 rfl ?_
  refine c_seq ?_
  refine c_region ?_
  refine o_T (y_move rfl) rfl ?_
  refine o_T (y_lenR hr1 Tryz.underlying65 rfl) rfl ?_
  obtain ⟨l1, hx1, hm⟩ := bd hm
  refine o_mkR (R := rInt) (a := 0) sz_65 rfl rfl rfl rfl rfl hx1 rfl (fun v3 g1 ho2 => ?_)
  refine o_L (y_assign rfl) rfl rfl ?_
  refine o_nil0 rfl ?_
  refine c_seq ?_
  refine c_region ?_
  refine o_L (y_assign rfl) rfl rfl ?_
  refine o_nil0 rfl ?_
  refine c_seq ?_
  obtain ⟨c2, l3, hj1, hm⟩ := bd2 hm
  refine c_joinP (n := 1) (fun sh G => ∃ (g3 : List Chunk), sh = [(6, .int .i64 c2)] ∧ G = [g3] ∧ Own rInt v3 l3 g3) (s_take (s_skip (s_take s_nil))) (.s .z) (fun _ _ h => h) ?_ ?_
  · skip
    refine c_block ?_
    refine c_loopP (n := 1) (fun mm sh G => ∃ (c1 : Int), ∃ (l2 : List Int), ∃ (g2 : List Chunk), sh = [(6, .int .i64 c1)] ∧ G = [g2] ∧ m255_w1 n x_ y mm c1 l2 = some (c2, l3) ∧ Own rInt v3 l2 g2) n (s_take (s_skip (s_take s_nil))) (.s .z) ⟨_, _, ⟨_, _, _, rfl, rfl, hj1, ho2⟩, ⟨rfl, trivial⟩, _, (s_take (s_skip (s_take s_nil)))⟩ ?_
    rintro mm sh G ⟨c1, l2, g2, rfl, rfl, hm, ho3⟩
    obtain ⟨mm1, rfl, hm⟩ := it2_s hm
    refine c_seq ?_
    refine c_seq ?_
    obtain ⟨c3, hj2, hm⟩ := bd1 hm
    refine c_joinP (n := 0) (fun sh G => sh = [(35, .bool c3)] ∧ G = []) Sel.all' .z (fun _ _ h => h) ?_ ?_
    · have hm := hj2
      refine c_draw #[true, true, true, true, true, true, true, true, true, true, true, true, true, true, true, true, true, true, true, true, true] rfl (n := 21) rfl ?_
      refine d_T 0 rfl sb_255_3_0 rfl (y_move rfl) rfl ?_
      refine d_T 1 rfl sb_255_3_1 rfl (y_move rfl) rfl ?_
      refine d_T 2 rfl sb_255_3_2 rfl (y_lenR hr1 Tryz.underlying65 rfl) rfl ?_
      refine d_T 3 rfl sb_255_3_3 rfl (y_lss rfl rfl) rfl ?_
      refine d_T 4 rfl sb_255_3_4 rfl (y_move rfl) rfl ?_
      refine d_split 19 rfl (fun h1 => ?_) (fun h1 => ?_)
      · have hm := cd_t h1 hm
        refine d_Tg 5 rfl rfl rfl rfl sb_255_3_5 rfl (y_move rfl) rfl ?_
        refine d_Tg 6 rfl rfl rfl rfl sb_255_3_6 rfl (y_move rfl) rfl ?_
        refine d_Tg 7 rfl rfl rfl rfl sb_255_3_7 rfl (y_lenR hr2 Tryz.underlying65 rfl) rfl ?_
        refine d_Tg 8 rfl rfl rfl rfl sb_255_3_8 rfl (y_lss rfl rfl) rfl ?_
        refine d_T 9 rfl sb_255_3_9 rfl (y_pickT rfl rfl) rfl ?_
        refine d_T 10 rfl sb_255_3_10 rfl (y_move rfl) rfl ?_
        refine d_split 25 rfl (fun h2 => ?_) (fun h2 => ?_)
        · have hm := cd_t h2 hm
          refine d_Tg 11 rfl rfl rfl rfl sb_255_3_11 rfl (y_move rfl) rfl ?_
          refine d_Tg 12 rfl rfl rfl rfl sb_255_3_12 rfl (y_move rfl) rfl ?_
          obtain ⟨x1, hx2, hm⟩ := bd hm
          obtain ⟨b1, w1, cs1, y1, z1, vs1, hc1, ha1, hr3, hy1⟩ := hr1.ix hx2
          obtain rfl : vs1 = (encI x1) := hr3
          refine d_Tg 13 rfl rfl rfl rfl sb_255_3_13 rfl (hy1 sl_65 rfl rfl rfl) rfl ?_
          refine d_ldt 14 rfl rfl rfl rfl sb_255_3_14 one_3 rfl (fun x hx => hx) (ms (mg hc1)) (At.getA (ha1)) rfl ?_
          refine d_Tg 15 rfl rfl rfl rfl sb_255_3_15 rfl (y_move rfl) rfl ?_
          refine d_Tg 16 rfl rfl rfl rfl sb_255_3_16 rfl (y_move rfl) rfl ?_
          obtain ⟨x2, hx3, hm⟩ := bd hm
          obtain ⟨b2, w2, cs2, y2, z2, vs2, hc2, ha2, hr4, hy2⟩ := hr2.ix hx3
          obtain rfl : vs2 = (encI x2) := hr4
          refine d_Tg 17 rfl rfl rfl rfl sb_255_3_17 rfl (hy2 sl_65 rfl rfl rfl) rfl ?_
          refine d_ldt 18 rfl rfl rfl rfl sb_255_3_18 one_3 rfl (fun x hx => hx) (ms (mg hc2)) (At.getA (ha2)) rfl ?_
          refine d_Tg 19 rfl rfl rfl rfl sb_255_3_19 rfl (y_eql rfl rfl) rfl ?_
          refine d_T 20 rfl sb_255_3_20 rfl (y_pickT rfl rfl) rfl ?_
          refine d_nil1 35 sb_255_3_21 rfl rfl ?_
          obtain rfl := p1 hm
          exact ⟨_, _, ⟨rfl, rfl⟩, ⟨rfl, trivial⟩, ⟨rfl, rfl⟩, _, (s_take (s_take s_nil))⟩
        · have hm := cd_f h2 hm
          refine d_pass 11 rfl rfl rfl rfl rfl sb_255_3_11 (fun x hx => hx) rfl ?_
          refine d_pass 12 rfl rfl rfl rfl rfl sb_255_3_12 (fun x hx => hx) rfl ?_
          refine d_pass 13 rfl rfl rfl rfl rfl sb_255_3_13 (fun x hx => hx) rfl ?_
          refine d_pass 14 rfl rfl rfl rfl rfl sb_255_3_14 (fun x hx => hx) rfl ?_
          refine d_pass 15 rfl rfl rfl rfl rfl sb_255_3_15 (fun x hx => hx) rfl ?_
          refine d_pass 16 rfl rfl rfl rfl rfl sb_255_3_16 (fun x hx => hx) rfl ?_
          refine d_pass 17 rfl rfl rfl rfl rfl sb_255_3_17 (fun x hx => hx) rfl ?_
          refine d_pass 18 rfl rfl rfl rfl rfl sb_255_3_18 (fun x hx => hx) rfl ?_
          refine d_pass 19 rfl rfl rfl rfl rfl sb_255_3_19 (fun x hx => hx) rfl ?_
          refine d_T 20 rfl sb_255_3_20 rfl (y_pickF rfl rfl) rfl ?_
          refine d_nil1 35 sb_255_3_21 rfl rfl ?_
          obtain rfl := p1 hm
          exact ⟨_, _, ⟨rfl, rfl⟩, ⟨rfl, trivial⟩, ⟨rfl, rfl⟩, _, (s_take (s_take s_nil))⟩
      · have hm := cd_f h1 hm
        refine d_pass 5 rfl rfl rfl rfl rfl sb_255_3_5 (fun x hx => hx) rfl ?_
        refine d_pass 6 rfl rfl rfl rfl rfl sb_255_3_6 (fun x hx => hx) rfl ?_
        refine d_pass 7 rfl rfl rfl rfl rfl sb_255_3_7 (fun x hx => hx) rfl ?_
        refine d_pass 8 rfl rfl rfl rfl rfl sb_255_3_8 (fun x hx => hx) rfl ?_
        refine d_T 9 rfl sb_255_3_9 rfl (y_pickF rfl rfl) rfl ?_
        refine d_T 10 rfl sb_255_3_10 rfl (y_move rfl) rfl ?_
        refine d_pass 11 rfl rfl rfl rfl rfl sb_255_3_11 (fun x hx => hx) rfl ?_
        refine d_pass 12 rfl rfl rfl rfl rfl sb_255_3_12 (fun x hx => hx) rfl ?_
        refine d_pass 13 rfl rfl rfl rfl rfl sb_255_3_13 (fun x hx => hx) rfl ?_
        refine d_pass 14 rfl rfl rfl rfl rfl sb_255_3_14 (fun x hx => hx) rfl ?_
        refine d_pass 15 rfl rfl rfl rfl rfl sb_255_3_15 (fun x hx => hx) rfl ?_
        refine d_pass 16 rfl rfl rfl rfl rfl sb_255_3_16 (fun x hx => hx) rfl ?_
        refine d_pass 17 rfl rfl rfl rfl rfl sb_255_3_17 (fun x hx => hx) rfl ?_
        refine d_pass 18 rfl rfl rfl rfl rfl sb_255_3_18 (fun x hx => hx) rfl ?_
        refine d_pass 19 rfl rfl rfl rfl rfl sb_255_3_19 (fun x hx => hx) rfl ?_
        refine d_T 20 rfl sb_255_3_20 rfl (y_pickF rfl rfl) rfl ?_
        refine d_nil1 35 sb_255_3_21 rfl rfl ?_
        obtain rfl := p1 hm
        exact ⟨_, _, ⟨rfl, rfl⟩, ⟨rfl, trivial⟩, ⟨rfl, rfl⟩, _, (s_take (s_take s_nil))⟩
    · rintro sh G ⟨rfl, rfl⟩
      refine c_cond rfl (fun h3 => ?_) (fun h3 => ?_)
      · have hm := cd_t h3 hm
        refine c_skip ?_
        refine c_block ?_
        refine c_seq ?_
        refine c_region ?_
        refine o_T (y_move rfl) rfl ?_
        refine o_T (y_move rfl) rfl ?_
        refine o_T (y_move rfl) rfl ?_
        obtain ⟨_, hi1, hm⟩ := bd hm
        have hi1 := ckA_some hi1
        obtain ⟨b3, cp1, hv1, hy3⟩ := ho3.ix hi1
        refine o_T (hy3 sl_65 rfl rfl rfl) rfl ?_
        obtain ⟨l4, hx5, hm⟩ := bd hm
        refine o_stO1 one_3 rfl rfl rfl rfl ho3 hv1 hx5 (fun _ => q0) (fun g4 ho5 => ?_)
        refine o_nil0 rfl ?_
        refine c_region ?_
        refine o_T (y_move rfl) rfl ?_
        refine o_T (y_add rfl rfl rfl) rfl ?_
        refine o_L (y_assign rfl) rfl rfl ?_
        refine o_nil0 rfl ?_
        exact ⟨mm1, Nat.lt_succ_self _, _, _, ⟨_, _, _, rfl, rfl, hm, ho5⟩, ⟨rfl, trivial⟩, ⟨rfl, rfl⟩, _, (s_take (s_take s_nil))⟩
      · have hm := cd_f h3 hm
        refine c_exit ?_
        obtain ⟨rfl, rfl⟩ := pr2 hm
        exact ⟨_, _, ⟨_, rfl, rfl, ho3⟩, ⟨rfl, trivial⟩, ⟨rfl, rfl⟩, _, (s_take (s_take s_nil))⟩
  · rintro sh G ⟨g3, rfl, rfl, ho4⟩
    refine c_seq ?_
    refine c_draw #[true, true, true, true, true, true, false, true] rfl (n := 8) rfl ?_
    refine d_T 0 rfl sb_255_6_0 rfl (y_move rfl) rfl ?_
    refine d_T 1 rfl sb_255_6_1 rfl (y_move rfl) rfl ?_
    obtain ⟨l5, hx6, hm⟩ := bd hm
    obtain ⟨v6, hr5, hy4⟩ := hr1.sl hx6
    refine d_T 2 rfl sb_255_6_2 rfl (hy4 sl_65 rfl rfl (biS rfl) biN) rfl ?_
    refine d_T 3 rfl sb_255_6_3 rfl (y_move rfl) rfl ?_
    refine d_T 4 rfl sb_255_6_4 rfl (y_move rfl) rfl ?_
    obtain ⟨l6, hx7, hm⟩ := bd hm
    obtain ⟨v7, hr6, hy5⟩ := hr2.sl hx7
    refine d_T 5 rfl sb_255_6_5 rfl (hy5 sl_65 rfl rfl (biS rfl) biN) rfl ?_
    refine d_hard 6 rfl sb_255_6_6 ?_
    obtain ⟨z3, hx8, hm⟩ := bd1 hm
    refine o_callC en_291 rfl s_nil (t291 (hr5.mono (fun _ hz => (ms (mg hz)))) (hr6.mono (fun _ hz => (ms (mg hz)))) hx8) rfl (fun u1 S1 hR1 => ?_)
    obtain ⟨b4, v8, g5, rfl, rfl, ho6⟩ := hR1
    refine o_rest ?_
    refine o_stop (fun h => nomatch h) ?_
    refine d_L 7 rfl sb_255_6_7 rfl (y_assign rfl) rfl rfl ?_
    refine d_nil0 sb_255_6_8 rfl ?_
    refine c_seq ?_
    refine c_region ?_
    refine o_T (y_move rfl) rfl ?_
    refine o_L (y_assign rfl) rfl rfl ?_
    refine o_nil0 rfl ?_
    refine c_seq ?_
    refine c_region ?_
    refine o_T (y_move rfl) rfl ?_
    refine o_L (y_assign rfl) rfl rfl ?_
    refine o_nil0 rfl ?_
    refine c_seq ?_
    obtain ⟨c6, c7, l8, hj3, hm⟩ := bd3 hm
    refine c_joinP (n := 1) (fun sh G => ∃ (g7 : List Chunk), sh = [(8, .int .i64 c6), (9, .int .i64 c7)] ∧ G = [g7] ∧ Own rInt v3 l8 g7) (s_get (ks (ks k0)) (s_take (s_take (s_take s_nil)))) (.s .z) (fun _ _ h => h) ?_ ?_
    · skip
      refine c_block ?_
      refine c_loopP (n := 1) (fun mm sh G => ∃ (c4 : Int), ∃ (c5 : Int), ∃ (l7 : List Int), ∃ (g6 : List Chunk), sh = [(8, .int .i64 c4), (9, .int .i64 c5)] ∧ G = [g6] ∧ m255_w2 n x_ y c2 z3 mm c4 c5 l7 = some (c6, c7, l8) ∧ Own rInt v3 l7 g6) n (s_get (ks (ks k0)) (s_take (s_take (s_take s_nil)))) (.s .z) ⟨_, _, ⟨_, _, _, _, rfl, rfl, hj3, ho4⟩, ⟨rfl, rfl, trivial⟩, _, (s_get (ks (ks k0)) (s_take (s_take (s_take s_nil))))⟩ ?_
      rintro mm sh G ⟨c4, c5, l7, g6, rfl, rfl, hm, ho7⟩
      obtain ⟨mm2, rfl, hm⟩ := it3_s hm
      refine c_seq ?_
      refine c_seq ?_
      refine c_region ?_
      refine o_T (y_move rfl) rfl ?_
      refine o_T (y_move rfl) rfl ?_
      refine o_T (y_lenR hr1 Tryz.underlying65 rfl) rfl ?_
      refine o_T (y_lss rfl rfl) rfl ?_
      refine o_nil1 54 rfl rfl ?_
      refine c_cond rfl (fun h4 => ?_) (fun h4 => ?_)
      · have hm := cd_t h4 hm
        refine c_skip ?_
        refine c_block ?_
        refine c_seq ?_
        refine c_region ?_
        refine o_T (y_move rfl) rfl ?_
        refine o_T (y_move rfl) rfl ?_
        refine o_T (y_lenR hr2 Tryz.underlying65 rfl) rfl ?_
        refine o_T (y_geq rfl rfl) rfl ?_
        refine o_nil1 58 rfl rfl ?_
        refine c_cond rfl (fun h5 => ?_) (fun h5 => ?_)
        · have hm := cd_t h5 hm
          refine c_seq ?_
          refine c_region ?_
          refine o_T (y_move rfl) rfl ?_
          refine o_T (y_move rfl) rfl ?_
          obtain ⟨_, hi2, hm⟩ := bd hm
          have hi2 := ckA_some hi2
          obtain ⟨b5, cp2, hv2, hy6⟩ := ho7.ix hi2
          refine o_T (hy6 sl_65 rfl rfl rfl) rfl ?_
          obtain ⟨l9, hx10, hm⟩ := bd hm
          refine o_stO1 one_3 rfl rfl rfl rfl ho7 hv2 hx10 (fun _ => q0) (fun g8 ho9 => ?_)
          refine o_nil0 rfl ?_
          refine c_region ?_
          refine o_T (y_move rfl) rfl ?_
          refine o_T (y_add rfl rfl rfl) rfl ?_
          refine o_L (y_assign rfl) rfl rfl ?_
          refine o_nil0 rfl ?_
          exact ⟨mm2, Nat.lt_succ_self _, _, _, ⟨_, _, _, _, rfl, rfl, hm, ho9⟩, ⟨rfl, rfl, trivial⟩, ⟨rfl, rfl⟩, _, (s_take (s_take (s_take (s_take s_nil))))⟩
        · have hm := cd_f h5 hm
          refine c_seq ?_
          refine c_draw #[true, true, true, true, true, true, true, true, true] rfl (n := 9) rfl ?_
          refine d_T 0 rfl sb_255_13_0 rfl (y_move rfl) rfl ?_
          refine d_T 1 rfl sb_255_13_1 rfl (y_move rfl) rfl ?_
          obtain ⟨x5, hx11, hm⟩ := bd hm
          obtain ⟨b6, w3, cs3, y3, z4, vs3, hc3, ha3, hr7, hy7⟩ := hr1.ix hx11
          obtain rfl : vs3 = (encI x5) := hr7
          refine d_T 2 rfl sb_255_13_2 rfl (hy7 sl_65 rfl rfl rfl) rfl ?_
          refine d_ld 3 rfl sb_255_13_3 one_3 rfl (fun x hx => hx) (ms (ms (ms (mg hc3)))) (At.getA (ha3)) rfl ?_
          refine d_T 4 rfl sb_255_13_4 rfl (y_move rfl) rfl ?_
          refine d_T 5 rfl sb_255_13_5 rfl (y_move rfl) rfl ?_
          obtain ⟨x6, hx12, hm⟩ := bd hm
          obtain ⟨b7, w4, cs4, y4, z5, vs4, hc4, ha4, hr8, hy8⟩ := hr2.ix hx12
          obtain rfl : vs4 = (encI x6) := hr8
          refine d_T 6 rfl sb_255_13_6 rfl (hy8 sl_65 rfl rfl rfl) rfl ?_
          refine d_ld 7 rfl sb_255_13_7 one_3 rfl (fun x hx => hx) (ms (ms (ms (mg hc4)))) (At.getA (ha4)) rfl ?_
          refine d_T 8 rfl sb_255_13_8 rfl (y_eql rfl rfl) rfl ?_
          refine d_nil1 72 sb_255_13_9 rfl rfl ?_
          refine c_cond rfl (fun h6 => ?_) (fun h6 => ?_)
          · have hm := cd_t h6 hm
            refine c_seq ?_
            refine c_region ?_
            refine o_T (y_move rfl) rfl ?_
            refine o_T (y_move rfl) rfl ?_
            refine o_T (y_move rfl) rfl ?_
            obtain ⟨_, hi3, hm⟩ := bd hm
            have hi3 := ckA_some hi3
            obtain ⟨b8, cp3, hv3, hy9⟩ := ho7.ix hi3
            refine o_T (hy9 sl_65 rfl rfl rfl) rfl ?_
            obtain ⟨l10, hx14, hm⟩ := bd hm
            refine o_stO1 one_3 rfl rfl rfl rfl ho7 hv3 hx14 (fun _ => q0) (fun g9 ho10 => ?_)
            refine o_nil0 rfl ?_
            refine c_seq ?_
            refine c_region ?_
            refine o_T (y_move rfl) rfl ?_
            refine o_T (y_add rfl rfl rfl) rfl ?_
            refine o_L (y_assign rfl) rfl rfl ?_
            refine o_nil0 rfl ?_
            refine c_region ?_
            refine o_T (y_move rfl) rfl ?_
            refine o_T (y_add rfl rfl rfl) rfl ?_
            refine o_L (y_assign rfl) rfl rfl ?_
            refine o_nil0 rfl ?_
            exact ⟨mm2, Nat.lt_succ_self _, _, _, ⟨_, _, _, _, rfl, rfl, hm, ho10⟩, ⟨rfl, rfl, trivial⟩, ⟨rfl, rfl⟩, _, (s_take (s_take (s_take (s_take s_nil))))⟩
          · have hm := cd_f h6 hm
            refine c_seq ?_
            refine c_region ?_
            refine o_T (y_move rfl) rfl ?_
            refine o_T (y_move rfl) rfl ?_
            refine o_T (y_move rfl) rfl ?_
            refine o_T (y_sub rfl rfl rfl) rfl ?_
            refine o_T (y_add rfl rfl rfl) rfl ?_
            refine o_T (y_move rfl) rfl ?_
            refine o_T (y_move rfl) rfl ?_
            refine o_T (y_sub rfl rfl rfl) rfl ?_
            obtain ⟨c8, hx15, hm⟩ := bd1 hm
            refine o_callC en_292 rfl (s_skip (s_take (s_take s_nil))) (t292 ho6 hx15) rfl (fun u2 S2 hR2 => ?_)
            obtain ⟨rfl, rfl⟩ := hR2
            refine o_rest ?_
            refine o_L (y_assign rfl) rfl rfl ?_
            refine o_nil0 rfl ?_
            refine c_seq ?_
            refine c_region ?_
            refine o_T (y_move rfl) rfl ?_
            refine o_T (y_move rfl) rfl ?_
            refine o_T (y_move rfl) rfl ?_
            refine o_T (y_sub rfl rfl rfl) rfl ?_
            refine o_T (y_move rfl) rfl ?_
            refine o_T (y_move rfl) rfl ?_
            refine o_T (y_sub rfl rfl rfl) rfl ?_
            refine o_T (y_add rfl rfl rfl) rfl ?_
            obtain ⟨c9, hx16, hm⟩ := bd1 hm
            refine o_callC en_292 rfl (s_take (s_take s_nil)) (t292 ho6 hx16) rfl (fun u3 S3 hR3 => ?_)
            obtain ⟨rfl, rfl⟩ := hR3
            refine o_rest ?_
            refine o_L (y_assign rfl) rfl rfl ?_
            refine o_nil0 rfl ?_
            refine c_seq ?_
            refine c_region ?_
            refine o_T (y_move rfl) rfl ?_
            refine o_T (y_move rfl) rfl ?_
            refine o_T (y_geq rfl rfl) rfl ?_
            refine o_nil1 101 rfl rfl ?_
            refine c_cond rfl (fun h7 => ?_) (fun h7 => ?_)
            · have hm := cd_t h7 hm
              refine c_seq ?_
              refine c_region ?_
              refine o_T (y_move rfl) rfl ?_
              refine o_T (y_move rfl) rfl ?_
              obtain ⟨_, hi4, hm⟩ := bd hm
              have hi4 := ckA_some hi4
              obtain ⟨b9, cp4, hv4, hy10⟩ := ho7.ix hi4
              refine o_T (hy10 sl_65 rfl rfl rfl) rfl ?_
              obtain ⟨l11, hx18, hm⟩ := bd hm
              refine o_stO1 one_3 rfl rfl rfl rfl ho7 hv4 hx18 (fun _ => (qs (qs q0))) (fun g10 ho11 => ?_)
              refine o_nil0 rfl ?_
              refine c_region ?_
              refine o_T (y_move rfl) rfl ?_
              refine o_T (y_add rfl rfl rfl) rfl ?_
              refine o_L (y_assign rfl) rfl rfl ?_
              refine o_nil0 rfl ?_
              exact ⟨mm2, Nat.lt_succ_self _, _, _, ⟨_, _, _, _, rfl, rfl, hm, ho11⟩, ⟨rfl, rfl, trivial⟩, ⟨rfl, rfl⟩, _, (s_get (ks (ks k0)) (s_take (s_take (s_take s_nil))))⟩
            · have hm := cd_f h7 hm
              refine c_region ?_
              refine o_T (y_move rfl) rfl ?_
              refine o_T (y_add rfl rfl rfl) rfl ?_
              refine o_L (y_assign rfl) rfl rfl ?_
              refine o_nil0 rfl ?_
              exact ⟨mm2, Nat.lt_succ_self _, _, _, ⟨_, _, _, _, rfl, rfl, hm, ho7⟩, ⟨rfl, rfl, trivial⟩, ⟨rfl, rfl⟩, _, (s_get (ks (ks k0)) (s_take (s_take (s_take s_nil))))⟩
      · have hm := cd_f h4 hm
        refine c_exit ?_
        obtain ⟨rfl, rfl, rfl⟩ := pr3 hm
        exact ⟨_, _, ⟨_, rfl, rfl, ho7⟩, ⟨rfl, rfl, trivial⟩, ⟨rfl, rfl⟩, _, (s_take (s_take (s_take (s_take s_nil))))⟩
    · rintro sh G ⟨g7, rfl, rfl, ho8⟩
      refine c_seq ?_
      refine c_region ?_
      refine o_T (y_move rfl) rfl ?_
      refine o_L (y_assign rfl) rfl rfl ?_
      refine o_nil0 rfl ?_
      refine c_ret ?_
      obtain rfl := p1 hm
      refine fun aX wX heX hsX => ret1 Tryz.results255 heX rfl (s_take (s_skip (s_skip (s_take s_nil)))) ?_
      exact ⟨v3, _, rfl, rfl, ho8⟩
end Go.Proofs.Qxb6500350aGreat
