/- MADE BY PROGRAM (tools350/mir.py): mirror and walk. -/
import Derived.Test.Qxb6500350aGreatF2
set_option linter.unusedVariables false
set_option linter.unusedSimpArgs false
set_option maxRecDepth 20000
set_option maxHeartbeats 4000000
namespace Go.Proofs.Qxb6500350aGreat
open Go.Eng

def op_294_12 : Array Go.Oper := #[{ dst := some 40, op := Go.Op.move (Go.Operand.tmp 0), type := 185, pos := "text.go:56", after := #[], guard := none }, { dst := some 41, op := Go.Op.move (Go.Operand.tmp 7), type := 3, pos := "text.go:56", after := #[], guard := none }, { dst := some 42, op := Go.Op.indexAddr 185 (Go.Operand.tmp 40) (Go.Operand.tmp 41), type := 0, pos := "text.go:56", after := #[{ on := 0, ground := Go.Ground.data }, { on := 1, ground := Go.Ground.data }], guard := none }, { dst := some 43, op := Go.Op.load 9 (Go.Operand.tmp 42), type := 9, pos := "text.go:56", after := #[{ on := 2, ground := Go.Ground.data }], guard := none }, { dst := some 44, op := Go.Op.move (Go.Operand.tmp 1), type := 185, pos := "text.go:56", after := #[], guard := none }, { dst := some 45, op := Go.Op.move (Go.Operand.tmp 8), type := 3, pos := "text.go:56", after := #[], guard := none }, { dst := some 46, op := Go.Op.indexAddr 185 (Go.Operand.tmp 44) (Go.Operand.tmp 45), type := 0, pos := "text.go:56", after := #[{ on := 4, ground := Go.Ground.data }, { on := 5, ground := Go.Ground.data }], guard := none }, { dst := some 47, op := Go.Op.load 9 (Go.Operand.tmp 46), type := 9, pos := "text.go:56", after := #[{ on := 6, ground := Go.Ground.data }], guard := none }, { dst := some 48, op := Go.Op.binOp Go.BinOp.eql 9 (Go.Operand.tmp 43) (Go.Operand.tmp 47) 9, type := 4, pos := "text.go:56", after := #[{ on := 3, ground := Go.Ground.data }, { on := 7, ground := Go.Ground.data }], guard := none }]
def op_294_13 : Array Go.Oper := #[{ dst := some 49, op := Go.Op.move (Go.Operand.tmp 5), type := 299, pos := "text.go:57", after := #[], guard := none }, { dst := some 50, op := Go.Op.move (Go.Operand.tmp 7), type := 3, pos := "text.go:57", after := #[], guard := none }, { dst := some 51, op := Go.Op.indexAddr 299 (Go.Operand.tmp 49) (Go.Operand.tmp 50), type := 0, pos := "text.go:57", after := #[{ on := 0, ground := Go.Ground.data }, { on := 1, ground := Go.Ground.data }], guard := none }, { dst := some 52, op := Go.Op.load 65 (Go.Operand.tmp 51), type := 65, pos := "text.go:57", after := #[{ on := 2, ground := Go.Ground.data }], guard := none }, { dst := some 53, op := Go.Op.move (Go.Operand.tmp 8), type := 3, pos := "text.go:57", after := #[], guard := none }, { dst := some 54, op := Go.Op.move (Go.Operand.tmp 5), type := 299, pos := "text.go:57", after := #[], guard := none }, { dst := some 55, op := Go.Op.move (Go.Operand.tmp 7), type := 3, pos := "text.go:57", after := #[], guard := none }, { dst := some 56, op := Go.Op.binOp Go.BinOp.add 3 (Go.Operand.tmp 55) (Go.Operand.const (Go.Value.int Go.IntKind.i64 1)) 3, type := 3, pos := "text.go:57", after := #[{ on := 6, ground := Go.Ground.data }], guard := none }, { dst := some 57, op := Go.Op.indexAddr 299 (Go.Operand.tmp 54) (Go.Operand.tmp 56), type := 0, pos := "text.go:57", after := #[{ on := 5, ground := Go.Ground.data }, { on := 7, ground := Go.Ground.data }], guard := none }, { dst := some 58, op := Go.Op.load 65 (Go.Operand.tmp 57), type := 65, pos := "text.go:57", after := #[{ on := 8, ground := Go.Ground.data }], guard := none }, { dst := some 59, op := Go.Op.move (Go.Operand.tmp 8), type := 3, pos := "text.go:57", after := #[], guard := none }, { dst := some 60, op := Go.Op.binOp Go.BinOp.add 3 (Go.Operand.tmp 59) (Go.Operand.const (Go.Value.int Go.IntKind.i64 1)) 3, type := 3, pos := "text.go:57", after := #[{ on := 10, ground := Go.Ground.data }], guard := none }, { dst := some 61, op := Go.Op.indexAddr 65 (Go.Operand.tmp 58) (Go.Operand.tmp 60), type := 0, pos := "text.go:57", after := #[{ on := 9, ground := Go.Ground.data }, { on := 11, ground := Go.Ground.data }], guard := none }, { dst := some 62, op := Go.Op.load 3 (Go.Operand.tmp 61), type := 3, pos := "text.go:57", after := #[{ on := 12, ground := Go.Ground.data }], guard := none }, { dst := some 63, op := Go.Op.binOp Go.BinOp.add 3 (Go.Operand.tmp 62) (Go.Operand.const (Go.Value.int Go.IntKind.i64 1)) 3, type := 3, pos := "text.go:57", after := #[{ on := 13, ground := Go.Ground.data }], guard := none }, { dst := some 64, op := Go.Op.indexAddr 65 (Go.Operand.tmp 52) (Go.Operand.tmp 53), type := 0, pos := "text.go:57", after := #[{ on := 3, ground := Go.Ground.data }, { on := 4, ground := Go.Ground.data }, { on := 0, ground := Go.Ground.phase }, { on := 1, ground := Go.Ground.phase }, { on := 2, ground := Go.Ground.phase }, { on := 3, ground := Go.Ground.phase }, { on := 4, ground := Go.Ground.phase }, { on := 5, ground := Go.Ground.phase }, { on := 6, ground := Go.Ground.phase }, { on := 7, ground := Go.Ground.phase }, { on := 8, ground := Go.Ground.phase }, { on := 9, ground := Go.Ground.phase }, { on := 10, ground := Go.Ground.phase }, { on := 11, ground := Go.Ground.phase }, { on := 12, ground := Go.Ground.phase }, { on := 13, ground := Go.Ground.phase }, { on := 14, ground := Go.Ground.phase }], guard := none }, { dst := none, op := Go.Op.store 3 (Go.Operand.tmp 64) (Go.Operand.tmp 63), type := 0, pos := "text.go:57", after := #[{ on := 15, ground := Go.Ground.data }, { on := 14, ground := Go.Ground.data }, { on := 0, ground := Go.Ground.phase }, { on := 1, ground := Go.Ground.phase }, { on := 2, ground := Go.Ground.phase }, { on := 3, ground := Go.Ground.phase }, { on := 4, ground := Go.Ground.phase }, { on := 5, ground := Go.Ground.phase }, { on := 6, ground := Go.Ground.phase }, { on := 7, ground := Go.Ground.phase }, { on := 8, ground := Go.Ground.phase }, { on := 9, ground := Go.Ground.phase }, { on := 10, ground := Go.Ground.phase }, { on := 11, ground := Go.Ground.phase }, { on := 12, ground := Go.Ground.phase }, { on := 13, ground := Go.Ground.phase }, { on := 14, ground := Go.Ground.phase }], guard := none }]
def op_294_14 : Array Go.Oper := #[{ dst := some 65, op := Go.Op.move (Go.Operand.tmp 5), type := 299, pos := "text.go:58", after := #[], guard := none }, { dst := some 66, op := Go.Op.move (Go.Operand.tmp 7), type := 3, pos := "text.go:58", after := #[], guard := none }, { dst := some 67, op := Go.Op.binOp Go.BinOp.add 3 (Go.Operand.tmp 66) (Go.Operand.const (Go.Value.int Go.IntKind.i64 1)) 3, type := 3, pos := "text.go:58", after := #[{ on := 1, ground := Go.Ground.data }], guard := none }, { dst := some 68, op := Go.Op.indexAddr 299 (Go.Operand.tmp 65) (Go.Operand.tmp 67), type := 0, pos := "text.go:58", after := #[{ on := 0, ground := Go.Ground.data }, { on := 2, ground := Go.Ground.data }], guard := none }, { dst := some 69, op := Go.Op.load 65 (Go.Operand.tmp 68), type := 65, pos := "text.go:58", after := #[{ on := 3, ground := Go.Ground.data }], guard := none }, { dst := some 70, op := Go.Op.move (Go.Operand.tmp 8), type := 3, pos := "text.go:58", after := #[], guard := none }, { dst := some 71, op := Go.Op.indexAddr 65 (Go.Operand.tmp 69) (Go.Operand.tmp 70), type := 0, pos := "text.go:58", after := #[{ on := 4, ground := Go.Ground.data }, { on := 5, ground := Go.Ground.data }], guard := none }, { dst := some 72, op := Go.Op.load 3 (Go.Operand.tmp 71), type := 3, pos := "text.go:58", after := #[{ on := 6, ground := Go.Ground.data }], guard := none }, { dst := some 73, op := Go.Op.move (Go.Operand.tmp 5), type := 299, pos := "text.go:58", after := #[], guard := none }, { dst := some 74, op := Go.Op.move (Go.Operand.tmp 7), type := 3, pos := "text.go:58", after := #[], guard := none }, { dst := some 75, op := Go.Op.indexAddr 299 (Go.Operand.tmp 73) (Go.Operand.tmp 74), type := 0, pos := "text.go:58", after := #[{ on := 8, ground := Go.Ground.data }, { on := 9, ground := Go.Ground.data }], guard := none }, { dst := some 76, op := Go.Op.load 65 (Go.Operand.tmp 75), type := 65, pos := "text.go:58", after := #[{ on := 10, ground := Go.Ground.data }], guard := none }, { dst := some 77, op := Go.Op.move (Go.Operand.tmp 8), type := 3, pos := "text.go:58", after := #[], guard := none }, { dst := some 78, op := Go.Op.binOp Go.BinOp.add 3 (Go.Operand.tmp 77) (Go.Operand.const (Go.Value.int Go.IntKind.i64 1)) 3, type := 3, pos := "text.go:58", after := #[{ on := 12, ground := Go.Ground.data }], guard := none }, { dst := some 79, op := Go.Op.indexAddr 65 (Go.Operand.tmp 76) (Go.Operand.tmp 78), type := 0, pos := "text.go:58", after := #[{ on := 11, ground := Go.Ground.data }, { on := 13, ground := Go.Ground.data }], guard := none }, { dst := some 80, op := Go.Op.load 3 (Go.Operand.tmp 79), type := 3, pos := "text.go:58", after := #[{ on := 14, ground := Go.Ground.data }], guard := none }, { dst := some 81, op := Go.Op.binOp Go.BinOp.geq 3 (Go.Operand.tmp 72) (Go.Operand.tmp 80) 3, type := 4, pos := "text.go:58", after := #[{ on := 7, ground := Go.Ground.data }, { on := 15, ground := Go.Ground.data }], guard := none }]
def op_294_15 : Array Go.Oper := #[{ dst := some 82, op := Go.Op.move (Go.Operand.tmp 5), type := 299, pos := "text.go:59", after := #[], guard := none }, { dst := some 83, op := Go.Op.move (Go.Operand.tmp 7), type := 3, pos := "text.go:59", after := #[], guard := none }, { dst := some 84, op := Go.Op.indexAddr 299 (Go.Operand.tmp 82) (Go.Operand.tmp 83), type := 0, pos := "text.go:59", after := #[{ on := 0, ground := Go.Ground.data }, { on := 1, ground := Go.Ground.data }], guard := none }, { dst := some 85, op := Go.Op.load 65 (Go.Operand.tmp 84), type := 65, pos := "text.go:59", after := #[{ on := 2, ground := Go.Ground.data }], guard := none }, { dst := some 86, op := Go.Op.move (Go.Operand.tmp 8), type := 3, pos := "text.go:59", after := #[], guard := none }, { dst := some 87, op := Go.Op.move (Go.Operand.tmp 5), type := 299, pos := "text.go:59", after := #[], guard := none }, { dst := some 88, op := Go.Op.move (Go.Operand.tmp 7), type := 3, pos := "text.go:59", after := #[], guard := none }, { dst := some 89, op := Go.Op.binOp Go.BinOp.add 3 (Go.Operand.tmp 88) (Go.Operand.const (Go.Value.int Go.IntKind.i64 1)) 3, type := 3, pos := "text.go:59", after := #[{ on := 6, ground := Go.Ground.data }], guard := none }, { dst := some 90, op := Go.Op.indexAddr 299 (Go.Operand.tmp 87) (Go.Operand.tmp 89), type := 0, pos := "text.go:59", after := #[{ on := 5, ground := Go.Ground.data }, { on := 7, ground := Go.Ground.data }], guard := none }, { dst := some 91, op := Go.Op.load 65 (Go.Operand.tmp 90), type := 65, pos := "text.go:59", after := #[{ on := 8, ground := Go.Ground.data }], guard := none }, { dst := some 92, op := Go.Op.move (Go.Operand.tmp 8), type := 3, pos := "text.go:59", after := #[], guard := none }, { dst := some 93, op := Go.Op.indexAddr 65 (Go.Operand.tmp 91) (Go.Operand.tmp 92), type := 0, pos := "text.go:59", after := #[{ on := 9, ground := Go.Ground.data }, { on := 10, ground := Go.Ground.data }], guard := none }, { dst := some 94, op := Go.Op.load 3 (Go.Operand.tmp 93), type := 3, pos := "text.go:59", after := #[{ on := 11, ground := Go.Ground.data }], guard := none }, { dst := some 95, op := Go.Op.indexAddr 65 (Go.Operand.tmp 85) (Go.Operand.tmp 86), type := 0, pos := "text.go:59", after := #[{ on := 3, ground := Go.Ground.data }, { on := 4, ground := Go.Ground.data }, { on := 0, ground := Go.Ground.phase }, { on := 1, ground := Go.Ground.phase }, { on := 2, ground := Go.Ground.phase }, { on := 3, ground := Go.Ground.phase }, { on := 4, ground := Go.Ground.phase }, { on := 5, ground := Go.Ground.phase }, { on := 6, ground := Go.Ground.phase }, { on := 7, ground := Go.Ground.phase }, { on := 8, ground := Go.Ground.phase }, { on := 9, ground := Go.Ground.phase }, { on := 10, ground := Go.Ground.phase }, { on := 11, ground := Go.Ground.phase }, { on := 12, ground := Go.Ground.phase }], guard := none }, { dst := none, op := Go.Op.store 3 (Go.Operand.tmp 95) (Go.Operand.tmp 94), type := 0, pos := "text.go:59", after := #[{ on := 13, ground := Go.Ground.data }, { on := 12, ground := Go.Ground.data }, { on := 0, ground := Go.Ground.phase }, { on := 1, ground := Go.Ground.phase }, { on := 2, ground := Go.Ground.phase }, { on := 3, ground := Go.Ground.phase }, { on := 4, ground := Go.Ground.phase }, { on := 5, ground := Go.Ground.phase }, { on := 6, ground := Go.Ground.phase }, { on := 7, ground := Go.Ground.phase }, { on := 8, ground := Go.Ground.phase }, { on := 9, ground := Go.Ground.phase }, { on := 10, ground := Go.Ground.phase }, { on := 11, ground := Go.Ground.phase }, { on := 12, ground := Go.Ground.phase }], guard := none }]
def op_294_16 : Array Go.Oper := #[{ dst := some 96, op := Go.Op.move (Go.Operand.tmp 5), type := 299, pos := "text.go:61", after := #[], guard := none }, { dst := some 97, op := Go.Op.move (Go.Operand.tmp 7), type := 3, pos := "text.go:61", after := #[], guard := none }, { dst := some 98, op := Go.Op.indexAddr 299 (Go.Operand.tmp 96) (Go.Operand.tmp 97), type := 0, pos := "text.go:61", after := #[{ on := 0, ground := Go.Ground.data }, { on := 1, ground := Go.Ground.data }], guard := none }, { dst := some 99, op := Go.Op.load 65 (Go.Operand.tmp 98), type := 65, pos := "text.go:61", after := #[{ on := 2, ground := Go.Ground.data }], guard := none }, { dst := some 100, op := Go.Op.move (Go.Operand.tmp 8), type := 3, pos := "text.go:61", after := #[], guard := none }, { dst := some 101, op := Go.Op.move (Go.Operand.tmp 5), type := 299, pos := "text.go:61", after := #[], guard := none }, { dst := some 102, op := Go.Op.move (Go.Operand.tmp 7), type := 3, pos := "text.go:61", after := #[], guard := none }, { dst := some 103, op := Go.Op.indexAddr 299 (Go.Operand.tmp 101) (Go.Operand.tmp 102), type := 0, pos := "text.go:61", after := #[{ on := 5, ground := Go.Ground.data }, { on := 6, ground := Go.Ground.data }], guard := none }, { dst := some 104, op := Go.Op.load 65 (Go.Operand.tmp 103), type := 65, pos := "text.go:61", after := #[{ on := 7, ground := Go.Ground.data }], guard := none }, { dst := some 105, op := Go.Op.move (Go.Operand.tmp 8), type := 3, pos := "text.go:61", after := #[], guard := none }, { dst := some 106, op := Go.Op.binOp Go.BinOp.add 3 (Go.Operand.tmp 105) (Go.Operand.const (Go.Value.int Go.IntKind.i64 1)) 3, type := 3, pos := "text.go:61", after := #[{ on := 9, ground := Go.Ground.data }], guard := none }, { dst := some 107, op := Go.Op.indexAddr 65 (Go.Operand.tmp 104) (Go.Operand.tmp 106), type := 0, pos := "text.go:61", after := #[{ on := 8, ground := Go.Ground.data }, { on := 10, ground := Go.Ground.data }], guard := none }, { dst := some 108, op := Go.Op.load 3 (Go.Operand.tmp 107), type := 3, pos := "text.go:61", after := #[{ on := 11, ground := Go.Ground.data }], guard := none }, { dst := some 109, op := Go.Op.indexAddr 65 (Go.Operand.tmp 99) (Go.Operand.tmp 100), type := 0, pos := "text.go:61", after := #[{ on := 3, ground := Go.Ground.data }, { on := 4, ground := Go.Ground.data }, { on := 0, ground := Go.Ground.phase }, { on := 1, ground := Go.Ground.phase }, { on := 2, ground := Go.Ground.phase }, { on := 3, ground := Go.Ground.phase }, { on := 4, ground := Go.Ground.phase }, { on := 5, ground := Go.Ground.phase }, { on := 6, ground := Go.Ground.phase }, { on := 7, ground := Go.Ground.phase }, { on := 8, ground := Go.Ground.phase }, { on := 9, ground := Go.Ground.phase }, { on := 10, ground := Go.Ground.phase }, { on := 11, ground := Go.Ground.phase }, { on := 12, ground := Go.Ground.phase }], guard := none }, { dst := none, op := Go.Op.store 3 (Go.Operand.tmp 109) (Go.Operand.tmp 108), type := 0, pos := "text.go:61", after := #[{ on := 13, ground := Go.Ground.data }, { on := 12, ground := Go.Ground.data }, { on := 0, ground := Go.Ground.phase }, { on := 1, ground := Go.Ground.phase }, { on := 2, ground := Go.Ground.phase }, { on := 3, ground := Go.Ground.phase }, { on := 4, ground := Go.Ground.phase }, { on := 5, ground := Go.Ground.phase }, { on := 6, ground := Go.Ground.phase }, { on := 7, ground := Go.Ground.phase }, { on := 8, ground := Go.Ground.phase }, { on := 9, ground := Go.Ground.phase }, { on := 10, ground := Go.Ground.phase }, { on := 11, ground := Go.Ground.phase }, { on := 12, ground := Go.Ground.phase }], guard := none }]
theorem sb_294_12_0 : softB op_294_12 #[true, true, true, true, true, true, true, true, true] (Array.replicate 9 false) 0 = true := by kernel_rfl
theorem sb_294_12_1 : softB op_294_12 #[true, true, true, true, true, true, true, true, true] ((Array.replicate 9 false).setIfInBounds 0 true) 1 = true := by kernel_rfl
theorem sb_294_12_2 : softB op_294_12 #[true, true, true, true, true, true, true, true, true] (((Array.replicate 9 false).setIfInBounds 0 true).setIfInBounds 1 true) 2 = true := by kernel_rfl
theorem sb_294_12_3 : softB op_294_12 #[true, true, true, true, true, true, true, true, true] ((((Array.replicate 9 false).setIfInBounds 0 true).setIfInBounds 1 true).setIfInBounds 2 true) 3 = true := by kernel_rfl
theorem sb_294_12_4 : softB op_294_12 #[true, true, true, true, true, true, true, true, true] (((((Array.replicate 9 false).setIfInBounds 0 true).setIfInBounds 1 true).setIfInBounds 2 true).setIfInBounds 3 true) 4 = true := by kernel_rfl
theorem sb_294_12_5 : softB op_294_12 #[true, true, true, true, true, true, true, true, true] ((((((Array.replicate 9 false).setIfInBounds 0 true).setIfInBounds 1 true).setIfInBounds 2 true).setIfInBounds 3 true).setIfInBounds 4 true) 5 = true := by kernel_rfl
theorem sb_294_12_6 : softB op_294_12 #[true, true, true, true, true, true, true, true, true] (((((((Array.replicate 9 false).setIfInBounds 0 true).setIfInBounds 1 true).setIfInBounds 2 true).setIfInBounds 3 true).setIfInBounds 4 true).setIfInBounds 5 true) 6 = true := by kernel_rfl
theorem sb_294_12_7 : softB op_294_12 #[true, true, true, true, true, true, true, true, true] ((((((((Array.replicate 9 false).setIfInBounds 0 true).setIfInBounds 1 true).setIfInBounds 2 true).setIfInBounds 3 true).setIfInBounds 4 true).setIfInBounds 5 true).setIfInBounds 6 true) 7 = true := by kernel_rfl
theorem sb_294_12_8 : softB op_294_12 #[true, true, true, true, true, true, true, true, true] (((((((((Array.replicate 9 false).setIfInBounds 0 true).setIfInBounds 1 true).setIfInBounds 2 true).setIfInBounds 3 true).setIfInBounds 4 true).setIfInBounds 5 true).setIfInBounds 6 true).setIfInBounds 7 true) 8 = true := by kernel_rfl
theorem sb_294_12_9 : hardB op_294_12 ((((((((((Array.replicate 9 false).setIfInBounds 0 true).setIfInBounds 1 true).setIfInBounds 2 true).setIfInBounds 3 true).setIfInBounds 4 true).setIfInBounds 5 true).setIfInBounds 6 true).setIfInBounds 7 true).setIfInBounds 8 true) [] = true := by kernel_rfl
theorem sb_294_13_0 : softB op_294_13 #[true, true, true, true, true, true, true, true, true, true, true, true, true, true, true, true, false] (Array.replicate 17 false) 0 = true := by kernel_rfl
theorem sb_294_13_1 : softB op_294_13 #[true, true, true, true, true, true, true, true, true, true, true, true, true, true, true, true, false] ((Array.replicate 17 false).setIfInBounds 0 true) 1 = true := by kernel_rfl
theorem sb_294_13_2 : softB op_294_13 #[true, true, true, true, true, true, true, true, true, true, true, true, true, true, true, true, false] (((Array.replicate 17 false).setIfInBounds 0 true).setIfInBounds 1 true) 2 = true := by kernel_rfl
theorem sb_294_13_3 : softB op_294_13 #[true, true, true, true, true, true, true, true, true, true, true, true, true, true, true, true, false] ((((Array.replicate 17 false).setIfInBounds 0 true).setIfInBounds 1 true).setIfInBounds 2 true) 3 = true := by kernel_rfl
theorem sb_294_13_4 : softB op_294_13 #[true, true, true, true, true, true, true, true, true, true, true, true, true, true, true, true, false] (((((Array.replicate 17 false).setIfInBounds 0 true).setIfInBounds 1 true).setIfInBounds 2 true).setIfInBounds 3 true) 4 = true := by kernel_rfl
theorem sb_294_13_5 : softB op_294_13 #[true, true, true, true, true, true, true, true, true, true, true, true, true, true, true, true, false] ((((((Array.replicate 17 false).setIfInBounds 0 true).setIfInBounds 1 true).setIfInBounds 2 true).setIfInBounds 3 true).setIfInBounds 4 true) 5 = true := by kernel_rfl
theorem sb_294_13_6 : softB op_294_13 #[true, true, true, true, true, true, true, true, true, true, true, true, true, true, true, true, false] (((((((Array.replicate 17 false).setIfInBounds 0 true).setIfInBounds 1 true).setIfInBounds 2 true).setIfInBounds 3 true).setIfInBounds 4 true).setIfInBounds 5 true) 6 = true := by kernel_rfl
theorem sb_294_13_7 : softB op_294_13 #[true, true, true, true, true, true, true, true, true, true, true, true, true, true, true, true, false] ((((((((Array.replicate 17 false).setIfInBounds 0 true).setIfInBounds 1 true).setIfInBounds 2 true).setIfInBounds 3 true).setIfInBounds 4 true).setIfInBounds 5 true).setIfInBounds 6 true) 7 = true := by kernel_rfl
theorem sb_294_13_8 : softB op_294_13 #[true, true, true, true, true, true, true, true, true, true, true, true, true, true, true, true, false] (((((((((Array.replicate 17 false).setIfInBounds 0 true).setIfInBounds 1 true).setIfInBounds 2 true).setIfInBounds 3 true).setIfInBounds 4 true).setIfInBounds 5 true).setIfInBounds 6 true).setIfInBounds 7 true) 8 = true := by kernel_rfl
theorem sb_294_13_9 : softB op_294_13 #[true, true, true, true, true, true, true, true, true, true, true, true, true, true, true, true, false] ((((((((((Array.replicate 17 false).setIfInBounds 0 true).setIfInBounds 1 true).setIfInBounds 2 true).setIfInBounds 3 true).setIfInBounds 4 true).setIfInBounds 5 true).setIfInBounds 6 true).setIfInBounds 7 true).setIfInBounds 8 true) 9 = true := by kernel_rfl
theorem sb_294_13_10 : softB op_294_13 #[true, true, true, true, true, true, true, true, true, true, true, true, true, true, true, true, false] (((((((((((Array.replicate 17 false).setIfInBounds 0 true).setIfInBounds 1 true).setIfInBounds 2 true).setIfInBounds 3 true).setIfInBounds 4 true).setIfInBounds 5 true).setIfInBounds 6 true).setIfInBounds 7 true).setIfInBounds 8 true).setIfInBounds 9 true) 10 = true := by kernel_rfl
theorem sb_294_13_11 : softB op_294_13 #[true, true, true, true, true, true, true, true, true, true, true, true, true, true, true, true, false] ((((((((((((Array.replicate 17 false).setIfInBounds 0 true).setIfInBounds 1 true).setIfInBounds 2 true).setIfInBounds 3 true).setIfInBounds 4 true).setIfInBounds 5 true).setIfInBounds 6 true).setIfInBounds 7 true).setIfInBounds 8 true).setIfInBounds 9 true).setIfInBounds 10 true) 11 = true := by kernel_rfl
theorem sb_294_13_12 : softB op_294_13 #[true, true, true, true, true, true, true, true, true, true, true, true, true, true, true, true, false] (((((((((((((Array.replicate 17 false).setIfInBounds 0 true).setIfInBounds 1 true).setIfInBounds 2 true).setIfInBounds 3 true).setIfInBounds 4 true).setIfInBounds 5 true).setIfInBounds 6 true).setIfInBounds 7 true).setIfInBounds 8 true).setIfInBounds 9 true).setIfInBounds 10 true).setIfInBounds 11 true) 12 = true := by kernel_rfl
theorem sb_294_13_13 : softB op_294_13 #[true, true, true, true, true, true, true, true, true, true, true, true, true, true, true, true, false] ((((((((((((((Array.replicate 17 false).setIfInBounds 0 true).setIfInBounds 1 true).setIfInBounds 2 true).setIfInBounds 3 true).setIfInBounds 4 true).setIfInBounds 5 true).setIfInBounds 6 true).setIfInBounds 7 true).setIfInBounds 8 true).setIfInBounds 9 true).setIfInBounds 10 true).setIfInBounds 11 true).setIfInBounds 12 true) 13 = true := by kernel_rfl
theorem sb_294_13_14 : softB op_294_13 #[true, true, true, true, true, true, true, true, true, true, true, true, true, true, true, true, false] (((((((((((((((Array.replicate 17 false).setIfInBounds 0 true).setIfInBounds 1 true).setIfInBounds 2 true).setIfInBounds 3 true).setIfInBounds 4 true).setIfInBounds 5 true).setIfInBounds 6 true).setIfInBounds 7 true).setIfInBounds 8 true).setIfInBounds 9 true).setIfInBounds 10 true).setIfInBounds 11 true).setIfInBounds 12 true).setIfInBounds 13 true) 14 = true := by kernel_rfl
theorem sb_294_13_15 : softB op_294_13 #[true, true, true, true, true, true, true, true, true, true, true, true, true, true, true, true, false] ((((((((((((((((Array.replicate 17 false).setIfInBounds 0 true).setIfInBounds 1 true).setIfInBounds 2 true).setIfInBounds 3 true).setIfInBounds 4 true).setIfInBounds 5 true).setIfInBounds 6 true).setIfInBounds 7 true).setIfInBounds 8 true).setIfInBounds 9 true).setIfInBounds 10 true).setIfInBounds 11 true).setIfInBounds 12 true).setIfInBounds 13 true).setIfInBounds 14 true) 15 = true := by kernel_rfl
theorem sb_294_13_16 : hardB op_294_13 (((((((((((((((((Array.replicate 17 false).setIfInBounds 0 true).setIfInBounds 1 true).setIfInBounds 2 true).setIfInBounds 3 true).setIfInBounds 4 true).setIfInBounds 5 true).setIfInBounds 6 true).setIfInBounds 7 true).setIfInBounds 8 true).setIfInBounds 9 true).setIfInBounds 10 true).setIfInBounds 11 true).setIfInBounds 12 true).setIfInBounds 13 true).setIfInBounds 14 true).setIfInBounds 15 true) [16] = true := by kernel_rfl
theorem sb_294_13_17 : hardB op_294_13 ((((((((((((((((((Array.replicate 17 false).setIfInBounds 0 true).setIfInBounds 1 true).setIfInBounds 2 true).setIfInBounds 3 true).setIfInBounds 4 true).setIfInBounds 5 true).setIfInBounds 6 true).setIfInBounds 7 true).setIfInBounds 8 true).setIfInBounds 9 true).setIfInBounds 10 true).setIfInBounds 11 true).setIfInBounds 12 true).setIfInBounds 13 true).setIfInBounds 14 true).setIfInBounds 15 true).setIfInBounds 16 true) [] = true := by kernel_rfl
theorem sb_294_14_0 : softB op_294_14 #[true, true, true, true, true, true, true, true, true, true, true, true, true, true, true, true, true] (Array.replicate 17 false) 0 = true := by kernel_rfl
theorem sb_294_14_1 : softB op_294_14 #[true, true, true, true, true, true, true, true, true, true, true, true, true, true, true, true, true] ((Array.replicate 17 false).setIfInBounds 0 true) 1 = true := by kernel_rfl
theorem sb_294_14_2 : softB op_294_14 #[true, true, true, true, true, true, true, true, true, true, true, true, true, true, true, true, true] (((Array.replicate 17 false).setIfInBounds 0 true).setIfInBounds 1 true) 2 = true := by kernel_rfl
theorem sb_294_14_3 : softB op_294_14 #[true, true, true, true, true, true, true, true, true, true, true, true, true, true, true, true, true] ((((Array.replicate 17 false).setIfInBounds 0 true).setIfInBounds 1 true).setIfInBounds 2 true) 3 = true := by kernel_rfl
theorem sb_294_14_4 : softB op_294_14 #[true, true, true, true, true, true, true, true, true, true, true, true, true, true, true, true, true] (((((Array.replicate 17 false).setIfInBounds 0 true).setIfInBounds 1 true).setIfInBounds 2 true).setIfInBounds 3 true) 4 = true := by kernel_rfl
theorem sb_294_14_5 : softB op_294_14 #[true, true, true, true, true, true, true, true, true, true, true, true, true, true, true, true, true] ((((((Array.replicate 17 false).setIfInBounds 0 true).setIfInBounds 1 true).setIfInBounds 2 true).setIfInBounds 3 true).setIfInBounds 4 true) 5 = true := by kernel_rfl
theorem sb_294_14_6 : softB op_294_14 #[true, true, true, true, true, true, true, true, true, true, true, true, true, true, true, true, true] (((((((Array.replicate 17 false).setIfInBounds 0 true).setIfInBounds 1 true).setIfInBounds 2 true).setIfInBounds 3 true).setIfInBounds 4 true).setIfInBounds 5 true) 6 = true := by kernel_rfl
theorem sb_294_14_7 : softB op_294_14 #[true, true, true, true, true, true, true, true, true, true, true, true, true, true, true, true, true] ((((((((Array.replicate 17 false).setIfInBounds 0 true).setIfInBounds 1 true).setIfInBounds 2 true).setIfInBounds 3 true).setIfInBounds 4 true).setIfInBounds 5 true).setIfInBounds 6 true) 7 = true := by kernel_rfl
theorem sb_294_14_8 : softB op_294_14 #[true, true, true, true, true, true, true, true, true, true, true, true, true, true, true, true, true] (((((((((Array.replicate 17 false).setIfInBounds 0 true).setIfInBounds 1 true).setIfInBounds 2 true).setIfInBounds 3 true).setIfInBounds 4 true).setIfInBounds 5 true).setIfInBounds 6 true).setIfInBounds 7 true) 8 = true := by kernel_rfl
theorem sb_294_14_9 : softB op_294_14 #[true, true, true, true, true, true, true, true, true, true, true, true, true, true, true, true, true] ((((((((((Array.replicate 17 false).setIfInBounds 0 true).setIfInBounds 1 true).setIfInBounds 2 true).setIfInBounds 3 true).setIfInBounds 4 true).setIfInBounds 5 true).setIfInBounds 6 true).setIfInBounds 7 true).setIfInBounds 8 true) 9 = true := by kernel_rfl
theorem sb_294_14_10 : softB op_294_14 #[true, true, true, true, true, true, true, true, true, true, true, true, true, true, true, true, true] (((((((((((Array.replicate 17 false).setIfInBounds 0 true).setIfInBounds 1 true).setIfInBounds 2 true).setIfInBounds 3 true).setIfInBounds 4 true).setIfInBounds 5 true).setIfInBounds 6 true).setIfInBounds 7 true).setIfInBounds 8 true).setIfInBounds 9 true) 10 = true := by kernel_rfl
theorem sb_294_14_11 : softB op_294_14 #[true, true, true, true, true, true, true, true, true, true, true, true, true, true, true, true, true] ((((((((((((Array.replicate 17 false).setIfInBounds 0 true).setIfInBounds 1 true).setIfInBounds 2 true).setIfInBounds 3 true).setIfInBounds 4 true).setIfInBounds 5 true).setIfInBounds 6 true).setIfInBounds 7 true).setIfInBounds 8 true).setIfInBounds 9 true).setIfInBounds 10 true) 11 = true := by kernel_rfl
theorem sb_294_14_12 : softB op_294_14 #[true, true, true, true, true, true, true, true, true, true, true, true, true, true, true, true, true] (((((((((((((Array.replicate 17 false).setIfInBounds 0 true).setIfInBounds 1 true).setIfInBounds 2 true).setIfInBounds 3 true).setIfInBounds 4 true).setIfInBounds 5 true).setIfInBounds 6 true).setIfInBounds 7 true).setIfInBounds 8 true).setIfInBounds 9 true).setIfInBounds 10 true).setIfInBounds 11 true) 12 = true := by kernel_rfl
theorem sb_294_14_13 : softB op_294_14 #[true, true, true, true, true, true, true, true, true, true, true, true, true, true, true, true, true] ((((((((((((((Array.replicate 17 false).setIfInBounds 0 true).setIfInBounds 1 true).setIfInBounds 2 true).setIfInBounds 3 true).setIfInBounds 4 true).setIfInBounds 5 true).setIfInBounds 6 true).setIfInBounds 7 true).setIfInBounds 8 true).setIfInBounds 9 true).setIfInBounds 10 true).setIfInBounds 11 true).setIfInBounds 12 true) 13 = true := by kernel_rfl
theorem sb_294_14_14 : softB op_294_14 #[true, true, true, true, true, true, true, true, true, true, true, true, true, true, true, true, true] (((((((((((((((Array.replicate 17 false).setIfInBounds 0 true).setIfInBounds 1 true).setIfInBounds 2 true).setIfInBounds 3 true).setIfInBounds 4 true).setIfInBounds 5 true).setIfInBounds 6 true).setIfInBounds 7 true).setIfInBounds 8 true).setIfInBounds 9 true).setIfInBounds 10 true).setIfInBounds 11 true).setIfInBounds 12 true).setIfInBounds 13 true) 14 = true := by kernel_rfl
theorem sb_294_14_15 : softB op_294_14 #[true, true, true, true, true, true, true, true, true, true, true, true, true, true, true, true, true] ((((((((((((((((Array.replicate 17 false).setIfInBounds 0 true).setIfInBounds 1 true).setIfInBounds 2 true).setIfInBounds 3 true).setIfInBounds 4 true).setIfInBounds 5 true).setIfInBounds 6 true).setIfInBounds 7 true).setIfInBounds 8 true).setIfInBounds 9 true).setIfInBounds 10 true).setIfInBounds 11 true).setIfInBounds 12 true).setIfInBounds 13 true).setIfInBounds 14 true) 15 = true := by kernel_rfl
theorem sb_294_14_16 : softB op_294_14 #[true, true, true, true, true, true, true, true, true, true, true, true, true, true, true, true, true] (((((((((((((((((Array.replicate 17 false).setIfInBounds 0 true).setIfInBounds 1 true).setIfInBounds 2 true).setIfInBounds 3 true).setIfInBounds 4 true).setIfInBounds 5 true).setIfInBounds 6 true).setIfInBounds 7 true).setIfInBounds 8 true).setIfInBounds 9 true).setIfInBounds 10 true).setIfInBounds 11 true).setIfInBounds 12 true).setIfInBounds 13 true).setIfInBounds 14 true).setIfInBounds 15 true) 16 = true := by kernel_rfl
theorem sb_294_14_17 : hardB op_294_14 ((((((((((((((((((Array.replicate 17 false).setIfInBounds 0 true).setIfInBounds 1 true).setIfInBounds 2 true).setIfInBounds 3 true).setIfInBounds 4 true).setIfInBounds 5 true).setIfInBounds 6 true).setIfInBounds 7 true).setIfInBounds 8 true).setIfInBounds 9 true).setIfInBounds 10 true).setIfInBounds 11 true).setIfInBounds 12 true).setIfInBounds 13 true).setIfInBounds 14 true).setIfInBounds 15 true).setIfInBounds 16 true) [] = true := by kernel_rfl
theorem sb_294_15_0 : softB op_294_15 #[true, true, true, true, true, true, true, true, true, true, true, true, true, true, false] (Array.replicate 15 false) 0 = true := by kernel_rfl
theorem sb_294_15_1 : softB op_294_15 #[true, true, true, true, true, true, true, true, true, true, true, true, true, true, false] ((Array.replicate 15 false).setIfInBounds 0 true) 1 = true := by kernel_rfl
theorem sb_294_15_2 : softB op_294_15 #[true, true, true, true, true, true, true, true, true, true, true, true, true, true, false] (((Array.replicate 15 false).setIfInBounds 0 true).setIfInBounds 1 true) 2 = true := by kernel_rfl
theorem sb_294_15_3 : softB op_294_15 #[true, true, true, true, true, true, true, true, true, true, true, true, true, true, false] ((((Array.replicate 15 false).setIfInBounds 0 true).setIfInBounds 1 true).setIfInBounds 2 true) 3 = true := by kernel_rfl
theorem sb_294_15_4 : softB op_294_15 #[true, true, true, true, true, true, true, true, true, true, true, true, true, true, false] (((((Array.replicate 15 false).setIfInBounds 0 true).setIfInBounds 1 true).setIfInBounds 2 true).setIfInBounds 3 true) 4 = true := by kernel_rfl
theorem sb_294_15_5 : softB op_294_15 #[true, true, true, true, true, true, true, true, true, true, true, true, true, true, false] ((((((Array.replicate 15 false).setIfInBounds 0 true).setIfInBounds 1 true).setIfInBounds 2 true).setIfInBounds 3 true).setIfInBounds 4 true) 5 = true := by kernel_rfl
theorem sb_294_15_6 : softB op_294_15 #[true, true, true, true, true, true, true, true, true, true, true, true, true, true, false] (((((((Array.replicate 15 false).setIfInBounds 0 true).setIfInBounds 1 true).setIfInBounds 2 true).setIfInBounds 3 true).setIfInBounds 4 true).setIfInBounds 5 true) 6 = true := by kernel_rfl
theorem sb_294_15_7 : softB op_294_15 #[true, true, true, true, true, true, true, true, true, true, true, true, true, true, false] ((((((((Array.replicate 15 false).setIfInBounds 0 true).setIfInBounds 1 true).setIfInBounds 2 true).setIfInBounds 3 true).setIfInBounds 4 true).setIfInBounds 5 true).setIfInBounds 6 true) 7 = true := by kernel_rfl
theorem sb_294_15_8 : softB op_294_15 #[true, true, true, true, true, true, true, true, true, true, true, true, true, true, false] (((((((((Array.replicate 15 false).setIfInBounds 0 true).setIfInBounds 1 true).setIfInBounds 2 true).setIfInBounds 3 true).setIfInBounds 4 true).setIfInBounds 5 true).setIfInBounds 6 true).setIfInBounds 7 true) 8 = true := by kernel_rfl
theorem sb_294_15_9 : softB op_294_15 #[true, true, true, true, true, true, true, true, true, true, true, true, true, true, false] ((((((((((Array.replicate 15 false).setIfInBounds 0 true).setIfInBounds 1 true).setIfInBounds 2 true).setIfInBounds 3 true).setIfInBounds 4 true).setIfInBounds 5 true).setIfInBounds 6 true).setIfInBounds 7 true).setIfInBounds 8 true) 9 = true := by kernel_rfl
theorem sb_294_15_10 : softB op_294_15 #[true, true, true, true, true, true, true, true, true, true, true, true, true, true, false] (((((((((((Array.replicate 15 false).setIfInBounds 0 true).setIfInBounds 1 true).setIfInBounds 2 true).setIfInBounds 3 true).setIfInBounds 4 true).setIfInBounds 5 true).setIfInBounds 6 true).setIfInBounds 7 true).setIfInBounds 8 true).setIfInBounds 9 true) 10 = true := by kernel_rfl
theorem sb_294_15_11 : softB op_294_15 #[true, true, true, true, true, true, true, true, true, true, true, true, true, true, false] ((((((((((((Array.replicate 15 false).setIfInBounds 0 true).setIfInBounds 1 true).setIfInBounds 2 true).setIfInBounds 3 true).setIfInBounds 4 true).setIfInBounds 5 true).setIfInBounds 6 true).setIfInBounds 7 true).setIfInBounds 8 true).setIfInBounds 9 true).setIfInBounds 10 true) 11 = true := by kernel_rfl
theorem sb_294_15_12 : softB op_294_15 #[true, true, true, true, true, true, true, true, true, true, true, true, true, true, false] (((((((((((((Array.replicate 15 false).setIfInBounds 0 true).setIfInBounds 1 true).setIfInBounds 2 true).setIfInBounds 3 true).setIfInBounds 4 true).setIfInBounds 5 true).setIfInBounds 6 true).setIfInBounds 7 true).setIfInBounds 8 true).setIfInBounds 9 true).setIfInBounds 10 true).setIfInBounds 11 true) 12 = true := by kernel_rfl
theorem sb_294_15_13 : softB op_294_15 #[true, true, true, true, true, true, true, true, true, true, true, true, true, true, false] ((((((((((((((Array.replicate 15 false).setIfInBounds 0 true).setIfInBounds 1 true).setIfInBounds 2 true).setIfInBounds 3 true).setIfInBounds 4 true).setIfInBounds 5 true).setIfInBounds 6 true).setIfInBounds 7 true).setIfInBounds 8 true).setIfInBounds 9 true).setIfInBounds 10 true).setIfInBounds 11 true).setIfInBounds 12 true) 13 = true := by kernel_rfl
theorem sb_294_15_14 : hardB op_294_15 (((((((((((((((Array.replicate 15 false).setIfInBounds 0 true).setIfInBounds 1 true).setIfInBounds 2 true).setIfInBounds 3 true).setIfInBounds 4 true).setIfInBounds 5 true).setIfInBounds 6 true).setIfInBounds 7 true).setIfInBounds 8 true).setIfInBounds 9 true).setIfInBounds 10 true).setIfInBounds 11 true).setIfInBounds 12 true).setIfInBounds 13 true) [14] = true := by kernel_rfl
theorem sb_294_15_15 : hardB op_294_15 ((((((((((((((((Array.replicate 15 false).setIfInBounds 0 true).setIfInBounds 1 true).setIfInBounds 2 true).setIfInBounds 3 true).setIfInBounds 4 true).setIfInBounds 5 true).setIfInBounds 6 true).setIfInBounds 7 true).setIfInBounds 8 true).setIfInBounds 9 true).setIfInBounds 10 true).setIfInBounds 11 true).setIfInBounds 12 true).setIfInBounds 13 true).setIfInBounds 14 true) [] = true := by kernel_rfl
theorem sb_294_16_0 : softB op_294_16 #[true, true, true, true, true, true, true, true, true, true, true, true, true, true, false] (Array.replicate 15 false) 0 = true := by kernel_rfl
theorem sb_294_16_1 : softB op_294_16 #[true, true, true, true, true, true, true, true, true, true, true, true, true, true, false] ((Array.replicate 15 false).setIfInBounds 0 true) 1 = true := by kernel_rfl
theorem sb_294_16_2 : softB op_294_16 #[true, true, true, true, true, true, true, true, true, true, true, true, true, true, false] (((Array.replicate 15 false).setIfInBounds 0 true).setIfInBounds 1 true) 2 = true := by kernel_rfl
theorem sb_294_16_3 : softB op_294_16 #[true, true, true, true, true, true, true, true, true, true, true, true, true, true, false] ((((Array.replicate 15 false).setIfInBounds 0 true).setIfInBounds 1 true).setIfInBounds 2 true) 3 = true := by kernel_rfl
theorem sb_294_16_4 : softB op_294_16 #[true, true, true, true, true, true, true, true, true, true, true, true, true, true, false] (((((Array.replicate 15 false).setIfInBounds 0 true).setIfInBounds 1 true).setIfInBounds 2 true).setIfInBounds 3 true) 4 = true := by kernel_rfl
theorem sb_294_16_5 : softB op_294_16 #[true, true, true, true, true, true, true, true, true, true, true, true, true, true, false] ((((((Array.replicate 15 false).setIfInBounds 0 true).setIfInBounds 1 true).setIfInBounds 2 true).setIfInBounds 3 true).setIfInBounds 4 true) 5 = true := by kernel_rfl
theorem sb_294_16_6 : softB op_294_16 #[true, true, true, true, true, true, true, true, true, true, true, true, true, true, false] (((((((Array.replicate 15 false).setIfInBounds 0 true).setIfInBounds 1 true).setIfInBounds 2 true).setIfInBounds 3 true).setIfInBounds 4 true).setIfInBounds 5 true) 6 = true := by kernel_rfl
theorem sb_294_16_7 : softB op_294_16 #[true, true, true, true, true, true, true, true, true, true, true, true, true, true, false] ((((((((Array.replicate 15 false).setIfInBounds 0 true).setIfInBounds 1 true).setIfInBounds 2 true).setIfInBounds 3 true).setIfInBounds 4 true).setIfInBounds 5 true).setIfInBounds 6 true) 7 = true := by kernel_rfl
theorem sb_294_16_8 : softB op_294_16 #[true, true, true, true, true, true, true, true, true, true, true, true, true, true, false] (((((((((Array.replicate 15 false).setIfInBounds 0 true).setIfInBounds 1 true).setIfInBounds 2 true).setIfInBounds 3 true).setIfInBounds 4 true).setIfInBounds 5 true).setIfInBounds 6 true).setIfInBounds 7 true) 8 = true := by kernel_rfl
theorem sb_294_16_9 : softB op_294_16 #[true, true, true, true, true, true, true, true, true, true, true, true, true, true, false] ((((((((((Array.replicate 15 false).setIfInBounds 0 true).setIfInBounds 1 true).setIfInBounds 2 true).setIfInBounds 3 true).setIfInBounds 4 true).setIfInBounds 5 true).setIfInBounds 6 true).setIfInBounds 7 true).setIfInBounds 8 true) 9 = true := by kernel_rfl
theorem sb_294_16_10 : softB op_294_16 #[true, true, true, true, true, true, true, true, true, true, true, true, true, true, false] (((((((((((Array.replicate 15 false).setIfInBounds 0 true).setIfInBounds 1 true).setIfInBounds 2 true).setIfInBounds 3 true).setIfInBounds 4 true).setIfInBounds 5 true).setIfInBounds 6 true).setIfInBounds 7 true).setIfInBounds 8 true).setIfInBounds 9 true) 10 = true := by kernel_rfl
theorem sb_294_16_11 : softB op_294_16 #[true, true, true, true, true, true, true, true, true, true, true, true, true, true, false] ((((((((((((Array.replicate 15 false).setIfInBounds 0 true).setIfInBounds 1 true).setIfInBounds 2 true).setIfInBounds 3 true).setIfInBounds 4 true).setIfInBounds 5 true).setIfInBounds 6 true).setIfInBounds 7 true).setIfInBounds 8 true).setIfInBounds 9 true).setIfInBounds 10 true) 11 = true := by kernel_rfl
theorem sb_294_16_12 : softB op_294_16 #[true, true, true, true, true, true, true, true, true, true, true, true, true, true, false] (((((((((((((Array.replicate 15 false).setIfInBounds 0 true).setIfInBounds 1 true).setIfInBounds 2 true).setIfInBounds 3 true).setIfInBounds 4 true).setIfInBounds 5 true).setIfInBounds 6 true).setIfInBounds 7 true).setIfInBounds 8 true).setIfInBounds 9 true).setIfInBounds 10 true).setIfInBounds 11 true) 12 = true := by kernel_rfl
theorem sb_294_16_13 : softB op_294_16 #[true, true, true, true, true, true, true, true, true, true, true, true, true, true, false] ((((((((((((((Array.replicate 15 false).setIfInBounds 0 true).setIfInBounds 1 true).setIfInBounds 2 true).setIfInBounds 3 true).setIfInBounds 4 true).setIfInBounds 5 true).setIfInBounds 6 true).setIfInBounds 7 true).setIfInBounds 8 true).setIfInBounds 9 true).setIfInBounds 10 true).setIfInBounds 11 true).setIfInBounds 12 true) 13 = true := by kernel_rfl
theorem sb_294_16_14 : hardB op_294_16 (((((((((((((((Array.replicate 15 false).setIfInBounds 0 true).setIfInBounds 1 true).setIfInBounds 2 true).setIfInBounds 3 true).setIfInBounds 4 true).setIfInBounds 5 true).setIfInBounds 6 true).setIfInBounds 7 true).setIfInBounds 8 true).setIfInBounds 9 true).setIfInBounds 10 true).setIfInBounds 11 true).setIfInBounds 12 true).setIfInBounds 13 true) [14] = true := by kernel_rfl
theorem sb_294_16_15 : hardB op_294_16 ((((((((((((((((Array.replicate 15 false).setIfInBounds 0 true).setIfInBounds 1 true).setIfInBounds 2 true).setIfInBounds 3 true).setIfInBounds 4 true).setIfInBounds 5 true).setIfInBounds 6 true).setIfInBounds 7 true).setIfInBounds 8 true).setIfInBounds 9 true).setIfInBounds 10 true).setIfInBounds 11 true).setIfInBounds 12 true).setIfInBounds 13 true).setIfInBounds 14 true) [] = true := by kernel_rfl
/- api.Lcs -/
def m294_w1 (n : Nat) (a : (List Str)) (b_ : (List Str)) (mm : Nat) : Int → (List (List Int)) → Option (Int × (List (List Int))) := it2 (fun lp1 c1 l2 =>
cond (decide (c1 ≤ (a.length : Int))) (
Option.bind (mkL (wi ((b_.length : Int) + 1)) (wi ((b_.length : Int) + 1)) (0 : Int)) fun l4 =>
Option.bind (ckA c1 (l2.length : Int)) fun _ =>
Option.bind (stL l2 c1 l4) fun l5 =>
lp1 (wi (c1 + 1)) l5) (
some (c1, l2))) mm
def m294_w3 (n : Nat) (a : (List Str)) (b_ : (List Str)) (c3 : Int) (mm : Nat) : Int → (List (List Int)) → Option (Int × (List (List Int))) := it2 (fun lp3 c5 l8 =>
cond (decide ((0 : Int) ≤ c5)) (
Option.bind (ixL a c3) fun x2 =>
Option.bind (ixL b_ c5) fun x3 =>
cond (decide (x2 = x3)) (
Option.bind (ixL l8 c3) fun x4 =>
Option.bind (ixL l8 (wi (c3 + 1))) fun x5 =>
Option.bind (ixL x5 (wi (c5 + 1))) fun x6 =>
Option.bind (ckA c5 (x4.length : Int)) fun _ =>
Option.bind (stL x4 c5 (wi (x6 + 1))) fun l10 =>
nm (l8.set (Int.toNat c3) l10 : List (List Int)) fun l11 =>
lp3 (wi (c5 - 1)) l11) (
Option.bind (ixL l8 (wi (c3 + 1))) fun x8 =>
Option.bind (ixL x8 c5) fun x9 =>
Option.bind (ixL l8 c3) fun x10 =>
Option.bind (ixL x10 (wi (c5 + 1))) fun x11 =>
cond (decide (x11 ≤ x9)) (
Option.bind (ixL l8 c3) fun x12 =>
Option.bind (ixL l8 (wi (c3 + 1))) fun x13 =>
Option.bind (ixL x13 c5) fun x14 =>
Option.bind (ckA c5 (x12.length : Int)) fun _ =>
Option.bind (stL x12 c5 x14) fun l12 =>
nm (l8.set (Int.toNat c3) l12 : List (List Int)) fun l13 =>
lp3 (wi (c5 - 1)) l13) (
Option.bind (ixL l8 c3) fun x16 =>
Option.bind (ixL l8 c3) fun x17 =>
Option.bind (ixL x17 (wi (c5 + 1))) fun x18 =>
Option.bind (ckA c5 (x16.length : Int)) fun _ =>
Option.bind (stL x16 c5 x18) fun l14 =>
nm (l8.set (Int.toNat c3) l14 : List (List Int)) fun l15 =>
lp3 (wi (c5 - 1)) l15))) (
some (c5, l8))) mm
def m294_w2 (n : Nat) (a : (List Str)) (b_ : (List Str)) (mm : Nat) : Int → (List (List Int)) → Option (Int × (List (List Int))) := it2 (fun lp2 c3 l6 =>
cond (decide ((0 : Int) ≤ c3)) (
ob2 (m294_w3 n a b_ c3 n (wi ((b_.length : Int) - 1)) l6) fun c6 l9 =>
lp2 (wi (c3 - 1)) l9) (
some (c3, l6))) mm
def m294 (n : Nat) (a : (List Str)) (b_ : (List Str)) : Option ((List (List Int))) :=
Option.bind (mkL (wi ((a.length : Int) + 1)) (wi ((a.length : Int) + 1)) ([] : (List Int))) fun l1 =>
ob2 (m294_w1 n a b_ n 0 l1) fun c2 l3 =>
ob2 (m294_w2 n a b_ n (wi ((a.length : Int) - 1)) l3) fun c4 l7 =>
some l7
theorem t294 {n : Nat} {C : List Chunk} {rl1 : List (List Int)} {v1 : Value} {a : (List Str)} {v2 : Value} {b_ : (List Str)} (hr1 : Rd rStr C v1 a) (hr2 : Rd rStr C v2 b_)  (hm : m294 n a b_ = some rl1) : Trip Tryz.prog 294 #[v1, v2] ([] ++ [C]) (fun u S' => ∃ (ev1 : Value), ∃ (eg1 : List Chunk), ev1 = u ∧ S' = [eg1] ++ [C] ∧ Own (rList rInt 65) ev1 rl1 eg1) := by
  refine fn_entry (args := [v1, v2]) Tryz.func294 rfl Tryz.ntmps294 rfl (fun w0 => ?_)
  refine c_seq ?_
  refine c_region ?_
  have ho1 : Own (rList rInt 65) (.slice none 0 0) [] [] := Own.nil
  refine o_emp ?_
  refine o_L (y_assign rfl) rfl rfl ?_
  refine o_nil0 rfl ?_
  refine c_seq ?_
  refine c_region ?_
  refine o_T (y_move rfl) rfl ?_
  refine o_T (y_lenR hr1 Tryz.underlying185 rfl) rfl ?_
  refine o_T (y_add rfl rfl rfl) rfl ?_
  obtain ⟨l1, hx1, hm⟩ := bd hm
  refine o_mkT (R := rInt) sz_299 rfl rfl rfl hx1 rfl (fun v3 g1 ho2 => ?_)
  refine o_L (y_assign rfl) rfl rfl ?_
  refine o_nil0 rfl ?_
  refine c_seq ?_
  refine c_seq ?_
  refine c_region ?_
  refine o_L (y_assign rfl) rfl rfl ?_
  refine o_nil0 rfl ?_
  obtain ⟨c2, l3, hj1, hm⟩ := bd2 hm
  refine c_joinP (n := 1) (fun sh G => ∃ (g3 : List Chunk), sh = [(6, .int .i64 c2)] ∧ G = [g3] ∧ OwnT rInt 65 v3 l3 g3) (s_take (s_skip (s_take s_nil))) (.s .z) (fun _ _ h => h) ?_ ?_
  · skip
    refine c_block ?_
    refine c_loopP (n := 1) (fun mm sh G => ∃ (c1 : Int), ∃ (l2 : List (List Int)), ∃ (g2 : List Chunk), sh = [(6, .int .i64 c1)] ∧ G = [g2] ∧ m294_w1 n a b_ mm c1 l2 = some (c2, l3) ∧ OwnT rInt 65 v3 l2 g2) n (s_take (s_skip (s_take s_nil))) (.s .z) ⟨_, _, ⟨_, _, _, rfl, rfl, hj1, ho2⟩, ⟨rfl, trivial⟩, _, (s_take (s_skip (s_take s_nil)))⟩ ?_
    rintro mm sh G ⟨c1, l2, g2, rfl, rfl, hm, ho3⟩
    obtain ⟨mm1, rfl, hm⟩ := it2_s hm
    refine c_seq ?_
    refine c_seq ?_
    refine c_region ?_
    refine o_T (y_move rfl) rfl ?_
    refine o_T (y_move rfl) rfl ?_
    refine o_T (y_lenR hr1 Tryz.underlying185 rfl) rfl ?_
    refine o_T (y_leq rfl rfl) rfl ?_
    refine o_nil1 16 rfl rfl ?_
    refine c_cond rfl (fun h1 => ?_) (fun h1 => ?_)
    · have hm := cd_t h1 hm
      refine c_skip ?_
      refine c_seq ?_
      refine c_block ?_
      refine c_region ?_
      refine o_T (y_move rfl) rfl ?_
      refine o_T (y_move rfl) rfl ?_
      refine o_T (y_move rfl) rfl ?_
      refine o_T (y_lenR hr2 Tryz.underlying185 rfl) rfl ?_
      refine o_T (y_add rfl rfl rfl) rfl ?_
      obtain ⟨l4, hx2, hm⟩ := bd hm
      refine o_mkR (R := rInt) (a := 0) sz_65 rfl rfl rfl rfl rfl hx2 rfl (fun v6 g4 ho5 => ?_)
      obtain ⟨_, hi1, hm⟩ := bd hm
      have hi1 := ckA_some hi1
      obtain ⟨b1, cp1, cs1, rs1, hq1, hq2, hq3, hq4, hq5⟩ := ho3.wrow hi1
      refine o_T (hq5 sl_299 rfl rfl rfl) rfl ?_
      obtain ⟨l5, hx4, hm⟩ := bd hm
      refine o_stT one_65 rfl rfl ho5 hq1 hq2 hq3 hq4 hx4 (s_get (ks k0) (s_take s_nil)) (fun g5 ho6 => ?_)
      refine o_nil0 rfl ?_
      refine c_region ?_
      refine o_T (y_move rfl) rfl ?_
      refine o_T (y_add rfl rfl rfl) rfl ?_
      refine o_L (y_assign rfl) rfl rfl ?_
      refine o_nil0 rfl ?_
      exact ⟨mm1, Nat.lt_succ_self _, _, _, ⟨_, _, _, rfl, rfl, hm, ho6⟩, ⟨rfl, trivial⟩, ⟨rfl, rfl⟩, _, (s_take (s_take s_nil))⟩
    · have hm := cd_f h1 hm
      refine c_exit ?_
      obtain ⟨rfl, rfl⟩ := pr2 hm
      exact ⟨_, _, ⟨_, rfl, rfl, ho3⟩, ⟨rfl, trivial⟩, ⟨rfl, rfl⟩, _, (s_take (s_take s_nil))⟩
  · rintro sh G ⟨g3, rfl, rfl, ho4⟩
    refine c_seq ?_
    refine c_seq ?_
    refine c_region ?_
    refine o_T (y_move rfl) rfl ?_
    refine o_T (y_lenR hr1 Tryz.underlying185 rfl) rfl ?_
    refine o_T (y_sub rfl rfl rfl) rfl ?_
    refine o_L (y_assign rfl) rfl rfl ?_
    refine o_nil0 rfl ?_
    obtain ⟨c4, l7, hj2, hm⟩ := bd2 hm
    refine c_joinP (n := 1) (fun sh G => ∃ (g7 : List Chunk), sh = [(7, .int .i64 c4)] ∧ G = [g7] ∧ OwnT rInt 65 v3 l7 g7) (s_take (s_take s_nil)) (.s .z) (fun _ _ h => h) ?_ ?_
    · skip
      refine c_block ?_
      refine c_loopP (n := 1) (fun mm sh G => ∃ (c3 : Int), ∃ (l6 : List (List Int)), ∃ (g6 : List Chunk), sh = [(7, .int .i64 c3)] ∧ G = [g6] ∧ m294_w2 n a b_ mm c3 l6 = some (c4, l7) ∧ OwnT rInt 65 v3 l6 g6) n (s_take (s_take s_nil)) (.s .z) ⟨_, _, ⟨_, _, _, rfl, rfl, hj2, ho4⟩, ⟨rfl, trivial⟩, _, (s_take (s_take s_nil))⟩ ?_
      rintro mm sh G ⟨c3, l6, g6, rfl, rfl, hm, ho7⟩
      obtain ⟨mm2, rfl, hm⟩ := it2_s hm
      refine c_seq ?_
      refine c_seq ?_
      refine c_region ?_
      refine o_T (y_move rfl) rfl ?_
      refine o_T (y_geq rfl rfl) rfl ?_
      refine o_nil1 30 rfl rfl ?_
      refine c_cond rfl (fun h2 => ?_) (fun h2 => ?_)
      · have hm := cd_t h2 hm
        refine c_skip ?_
        refine c_seq ?_
        refine c_block ?_
        refine c_seq ?_
        refine c_region ?_
        refine o_T (y_move rfl) rfl ?_
        refine o_T (y_lenR hr2 Tryz.underlying185 rfl) rfl ?_
        refine o_T (y_sub rfl rfl rfl) rfl ?_
        refine o_L (y_assign rfl) rfl rfl ?_
        refine o_nil0 rfl ?_
        obtain ⟨c6, l9, hj3, hm⟩ := bd2 hm
        refine c_joinP (n := 1) (fun sh G => ∃ (g9 : List Chunk), sh = [(8, .int .i64 c6)] ∧ G = [g9] ∧ OwnT rInt 65 v3 l9 g9) (s_take (s_take s_nil)) (.s .z) (fun _ _ h => h) ?_ ?_
        · skip
          refine c_block ?_
          refine c_loopP (n := 1) (fun mm sh G => ∃ (c5 : Int), ∃ (l8 : List (List Int)), ∃ (g8 : List Chunk), sh = [(8, .int .i64 c5)] ∧ G = [g8] ∧ m294_w3 n a b_ c3 mm c5 l8 = some (c6, l9) ∧ OwnT rInt 65 v3 l8 g8) n (s_take (s_take s_nil)) (.s .z) ⟨_, _, ⟨_, _, _, rfl, rfl, hj3, ho7⟩, ⟨rfl, trivial⟩, _, (s_take (s_take s_nil))⟩ ?_
          rintro mm sh G ⟨c5, l8, g8, rfl, rfl, hm, ho9⟩
          obtain ⟨mm3, rfl, hm⟩ := it2_s hm
          refine c_seq ?_
          refine c_seq ?_
          refine c_region ?_
          refine o_T (y_move rfl) rfl ?_
          refine o_T (y_geq rfl rfl) rfl ?_
          refine o_nil1 37 rfl rfl ?_
          refine c_cond rfl (fun h3 => ?_) (fun h3 => ?_)
          · have hm := cd_t h3 hm
            refine c_skip ?_
            refine c_seq ?_
            refine c_block ?_
            refine c_seq ?_
            refine c_draw #[true, true, true, true, true, true, true, true, true] rfl (n := 9) rfl ?_
            refine d_T 0 rfl sb_294_12_0 rfl (y_move rfl) rfl ?_
            refine d_T 1 rfl sb_294_12_1 rfl (y_move rfl) rfl ?_
            obtain ⟨x2, hx5, hm⟩ := bd hm
            obtain ⟨b2, w1, cs2, y1, z1, vs1, hc1, ha1, hr3, hy1⟩ := hr1.ix hx5
            obtain rfl : vs1 = (encS x2) := hr3
            refine d_T 2 rfl sb_294_12_2 rfl (hy1 sl_185 rfl rfl rfl) rfl ?_
            refine d_ld 3 rfl sb_294_12_3 one_9 rfl (fun x hx => hx) (ms (mg hc1)) (At.getA (ha1)) rfl ?_
            refine d_T 4 rfl sb_294_12_4 rfl (y_move rfl) rfl ?_
            refine d_T 5 rfl sb_294_12_5 rfl (y_move rfl) rfl ?_
            obtain ⟨x3, hx6, hm⟩ := bd hm
            obtain ⟨b3, w2, cs3, y2, z2, vs2, hc2, ha2, hr4, hy2⟩ := hr2.ix hx6
            obtain rfl : vs2 = (encS x3) := hr4
            refine d_T 6 rfl sb_294_12_6 rfl (hy2 sl_185 rfl rfl rfl) rfl ?_
            refine d_ld 7 rfl sb_294_12_7 one_9 rfl (fun x hx => hx) (ms (mg hc2)) (At.getA (ha2)) rfl ?_
            refine d_T 8 rfl sb_294_12_8 rfl (y_seq rfl rfl) rfl ?_
            refine d_nil1 48 sb_294_12_9 rfl rfl ?_
            refine c_cond rfl (fun h4 => ?_) (fun h4 => ?_)
            · have hm := cd_t h4 hm
              refine c_draw #[true, true, true, true, true, true, true, true, true, true, true, true, true, true, true, true, false] rfl (n := 17) rfl ?_
              refine d_T 0 rfl sb_294_13_0 rfl (y_move rfl) rfl ?_
              refine d_T 1 rfl sb_294_13_1 rfl (y_move rfl) rfl ?_
              obtain ⟨x4, hx7, hm⟩ := bd hm
              obtain ⟨b4, cs4, v11, g10, gA1, gB1, hq6, hq7, hq8, hq9, hq10, hq11⟩ := ho9.ixr hx7
              have hr5 : Rd rInt g8 v11 x4 := hq8.rd.mono (fun z hz => by rw [hq9]; exact mem_l (mem_r hz))
              refine d_T 2 rfl sb_294_13_2 rfl (hq11 sl_299 rfl rfl rfl) rfl ?_
              refine d_ld 3 rfl sb_294_13_3 one_65 rfl (fun x hx => hx) (mg hq6) hq7 rfl ?_
              refine d_T 4 rfl sb_294_13_4 rfl (y_move rfl) rfl ?_
              refine d_T 5 rfl sb_294_13_5 rfl (y_move rfl) rfl ?_
              refine d_T 6 rfl sb_294_13_6 rfl (y_move rfl) rfl ?_
              refine d_T 7 rfl sb_294_13_7 rfl (y_add rfl rfl rfl) rfl ?_
              obtain ⟨x5, hx8, hm⟩ := bd hm
              obtain ⟨b5, cs5, v12, g11, gA2, gB2, hq12, hq13, hq14, hq15, hq16, hq17⟩ := ho9.ixr hx8
              have hr6 : Rd rInt g8 v12 x5 := hq14.rd.mono (fun z hz => by rw [hq15]; exact mem_l (mem_r hz))
              refine d_T 8 rfl sb_294_13_8 rfl (hq17 sl_299 rfl rfl rfl) rfl ?_
              refine d_ld 9 rfl sb_294_13_9 one_65 rfl (fun x hx => hx) (mg hq12) hq13 rfl ?_
              refine d_T 10 rfl sb_294_13_10 rfl (y_move rfl) rfl ?_
              refine d_T 11 rfl sb_294_13_11 rfl (y_add rfl rfl rfl) rfl ?_
              obtain ⟨x6, hx9, hm⟩ := bd hm
              obtain ⟨b6, w3, cs6, y3, z3, vs3, hc3, ha3, hr7, hy3⟩ := hr6.ix hx9
              obtain rfl : vs3 = (encI x6) := hr7
              refine d_T 12 rfl sb_294_13_12 rfl (hy3 sl_65 rfl rfl rfl) rfl ?_
              refine d_ld 13 rfl sb_294_13_13 one_3 rfl (fun x hx => hx) (mg hc3) (At.getA (ha3)) rfl ?_
              refine d_T 14 rfl sb_294_13_14 rfl (y_add rfl rfl rfl) rfl ?_
              obtain ⟨_, hi2, hm⟩ := bd hm
              have hi2 := ckA_some hi2
              obtain ⟨b7, cp2, hv1, hy4⟩ := hq8.ix hi2
              refine d_T 15 rfl sb_294_13_15 rfl (hy4 sl_65 rfl rfl rfl) rfl ?_
              refine d_hard 16 rfl sb_294_13_16 ?_
              obtain ⟨l10, hx11, hm⟩ := bd hm
              obtain ⟨l11, hn1, hm⟩ := nm_s hm
              refine o_stTT one_3 rfl rfl rfl rfl hq8 hv1 hx11 hq9 hq10 (fun _ => q0) (fun g12 ho11 => ?_)
              have ho11 := ho11.to (tt' := l11) (by subst hn1; rfl)
              refine o_stop (fun h => nomatch h) ?_
              refine d_nil0 sb_294_13_17 rfl ?_
              refine c_region ?_
              refine o_T (y_move rfl) rfl ?_
              refine o_T (y_sub rfl rfl rfl) rfl ?_
              refine o_L (y_assign rfl) rfl rfl ?_
              refine o_nil0 rfl ?_
              exact ⟨mm3, Nat.lt_succ_self _, _, _, ⟨_, _, _, rfl, rfl, hm, ho11⟩, ⟨rfl, trivial⟩, ⟨rfl, rfl⟩, _, (s_take (s_take s_nil))⟩
            · have hm := cd_f h4 hm
              refine c_seq ?_
              refine c_draw #[true, true, true, true, true, true, true, true, true, true, true, true, true, true, true, true, true] rfl (n := 17) rfl ?_
              refine d_T 0 rfl sb_294_14_0 rfl (y_move rfl) rfl ?_
              refine d_T 1 rfl sb_294_14_1 rfl (y_move rfl) rfl ?_
              refine d_T 2 rfl sb_294_14_2 rfl (y_add rfl rfl rfl) rfl ?_
              obtain ⟨x8, hx12, hm⟩ := bd hm
              obtain ⟨b8, cs7, v13, g13, gA3, gB3, hq18, hq19, hq20, hq21, hq22, hq23⟩ := ho9.ixr hx12
              have hr8 : Rd rInt g8 v13 x8 := hq20.rd.mono (fun z hz => by rw [hq21]; exact mem_l (mem_r hz))
              refine d_T 3 rfl sb_294_14_3 rfl (hq23 sl_299 rfl rfl rfl) rfl ?_
              refine d_ld 4 rfl sb_294_14_4 one_65 rfl (fun x hx => hx) (mg hq18) hq19 rfl ?_
              refine d_T 5 rfl sb_294_14_5 rfl (y_move rfl) rfl ?_
              obtain ⟨x9, hx13, hm⟩ := bd hm
              obtain ⟨b9, w4, cs8, y4, z4, vs4, hc4, ha4, hr9, hy5⟩ := hr8.ix hx13
              obtain rfl : vs4 = (encI x9) := hr9
              refine d_T 6 rfl sb_294_14_6 rfl (hy5 sl_65 rfl rfl rfl) rfl ?_
              refine d_ld 7 rfl sb_294_14_7 one_3 rfl (fun x hx => hx) (mg hc4) (At.getA (ha4)) rfl ?_
              refine d_T 8 rfl sb_294_14_8 rfl (y_move rfl) rfl ?_
              refine d_T 9 rfl sb_294_14_9 rfl (y_move rfl) rfl ?_
              obtain ⟨x10, hx14, hm⟩ := bd hm
              obtain ⟨b10, cs9, v14, g14, gA4, gB4, hq24, hq25, hq26, hq27, hq28, hq29⟩ := ho9.ixr hx14
              have hr10 : Rd rInt g8 v14 x10 := hq26.rd.mono (fun z hz => by rw [hq27]; exact mem_l (mem_r hz))
              refine d_T 10 rfl sb_294_14_10 rfl (hq29 sl_299 rfl rfl rfl) rfl ?_
              refine d_ld 11 rfl sb_294_14_11 one_65 rfl (fun x hx => hx) (mg hq24) hq25 rfl ?_
              refine d_T 12 rfl sb_294_14_12 rfl (y_move rfl) rfl ?_
              refine d_T 13 rfl sb_294_14_13 rfl (y_add rfl rfl rfl) rfl ?_
              obtain ⟨x11, hx15, hm⟩ := bd hm
              obtain ⟨b11, w5, cs10, y5, z5, vs5, hc5, ha5, hr11, hy6⟩ := hr10.ix hx15
              obtain rfl : vs5 = (encI x11) := hr11
              refine d_T 14 rfl sb_294_14_14 rfl (hy6 sl_65 rfl rfl rfl) rfl ?_
              refine d_ld 15 rfl sb_294_14_15 one_3 rfl (fun x hx => hx) (mg hc5) (At.getA (ha5)) rfl ?_
              refine d_T 16 rfl sb_294_14_16 rfl (y_geq rfl rfl) rfl ?_
              refine d_nil1 81 sb_294_14_17 rfl rfl ?_
              refine c_cond rfl (fun h5 => ?_) (fun h5 => ?_)
              · have hm := cd_t h5 hm
                refine c_draw #[true, true, true, true, true, true, true, true, true, true, true, true, true, true, false] rfl (n := 15) rfl ?_
                refine d_T 0 rfl sb_294_15_0 rfl (y_move rfl) rfl ?_
                refine d_T 1 rfl sb_294_15_1 rfl (y_move rfl) rfl ?_
                obtain ⟨x12, hx16, hm⟩ := bd hm
                obtain ⟨b12, cs11, v15, g15, gA5, gB5, hq30, hq31, hq32, hq33, hq34, hq35⟩ := ho9.ixr hx16
                have hr12 : Rd rInt g8 v15 x12 := hq32.rd.mono (fun z hz => by rw [hq33]; exact mem_l (mem_r hz))
                refine d_T 2 rfl sb_294_15_2 rfl (hq35 sl_299 rfl rfl rfl) rfl ?_
                refine d_ld 3 rfl sb_294_15_3 one_65 rfl (fun x hx => hx) (mg hq30) hq31 rfl ?_
                refine d_T 4 rfl sb_294_15_4 rfl (y_move rfl) rfl ?_
                refine d_T 5 rfl sb_294_15_5 rfl (y_move rfl) rfl ?_
                refine d_T 6 rfl sb_294_15_6 rfl (y_move rfl) rfl ?_
                refine d_T 7 rfl sb_294_15_7 rfl (y_add rfl rfl rfl) rfl ?_
                obtain ⟨x13, hx17, hm⟩ := bd hm
                obtain ⟨b13, cs12, v16, g16, gA6, gB6, hq36, hq37, hq38, hq39, hq40, hq41⟩ := ho9.ixr hx17
                have hr13 : Rd rInt g8 v16 x13 := hq38.rd.mono (fun z hz => by rw [hq39]; exact mem_l (mem_r hz))
                refine d_T 8 rfl sb_294_15_8 rfl (hq41 sl_299 rfl rfl rfl) rfl ?_
                refine d_ld 9 rfl sb_294_15_9 one_65 rfl (fun x hx => hx) (mg hq36) hq37 rfl ?_
                refine d_T 10 rfl sb_294_15_10 rfl (y_move rfl) rfl ?_
                obtain ⟨x14, hx18, hm⟩ := bd hm
                obtain ⟨b14, w6, cs13, y6, z6, vs6, hc6, ha6, hr14, hy7⟩ := hr13.ix hx18
                obtain rfl : vs6 = (encI x14) := hr14
                refine d_T 11 rfl sb_294_15_11 rfl (hy7 sl_65 rfl rfl rfl) rfl ?_
                refine d_ld 12 rfl sb_294_15_12 one_3 rfl (fun x hx => hx) (mg hc6) (At.getA (ha6)) rfl ?_
                obtain ⟨_, hi3, hm⟩ := bd hm
                have hi3 := ckA_some hi3
                obtain ⟨b15, cp3, hv2, hy8⟩ := hq32.ix hi3
                refine d_T 13 rfl sb_294_15_13 rfl (hy8 sl_65 rfl rfl rfl) rfl ?_
                refine d_hard 14 rfl sb_294_15_14 ?_
                obtain ⟨l12, hx20, hm⟩ := bd hm
                obtain ⟨l13, hn2, hm⟩ := nm_s hm
                refine o_stTT one_3 rfl rfl rfl rfl hq32 hv2 hx20 hq33 hq34 (fun _ => q0) (fun g17 ho12 => ?_)
                have ho12 := ho12.to (tt' := l13) (by subst hn2; rfl)
                refine o_stop (fun h => nomatch h) ?_
                refine d_nil0 sb_294_15_15 rfl ?_
                refine c_region ?_
                refine o_T (y_move rfl) rfl ?_
                refine o_T (y_sub rfl rfl rfl) rfl ?_
                refine o_L (y_assign rfl) rfl rfl ?_
                refine o_nil0 rfl ?_
                exact ⟨mm3, Nat.lt_succ_self _, _, _, ⟨_, _, _, rfl, rfl, hm, ho12⟩, ⟨rfl, trivial⟩, ⟨rfl, rfl⟩, _, (s_take (s_take s_nil))⟩
              · have hm := cd_f h5 hm
                refine c_draw #[true, true, true, true, true, true, true, true, true, true, true, true, true, true, false] rfl (n := 15) rfl ?_
                refine d_T 0 rfl sb_294_16_0 rfl (y_move rfl) rfl ?_
                refine d_T 1 rfl sb_294_16_1 rfl (y_move rfl) rfl ?_
                obtain ⟨x16, hx21, hm⟩ := bd hm
                obtain ⟨b16, cs14, v17, g18, gA7, gB7, hq42, hq43, hq44, hq45, hq46, hq47⟩ := ho9.ixr hx21
                have hr15 : Rd rInt g8 v17 x16 := hq44.rd.mono (fun z hz => by rw [hq45]; exact mem_l (mem_r hz))
                refine d_T 2 rfl sb_294_16_2 rfl (hq47 sl_299 rfl rfl rfl) rfl ?_
                refine d_ld 3 rfl sb_294_16_3 one_65 rfl (fun x hx => hx) (mg hq42) hq43 rfl ?_
                refine d_T 4 rfl sb_294_16_4 rfl (y_move rfl) rfl ?_
                refine d_T 5 rfl sb_294_16_5 rfl (y_move rfl) rfl ?_
                refine d_T 6 rfl sb_294_16_6 rfl (y_move rfl) rfl ?_
                obtain ⟨x17, hx22, hm⟩ := bd hm
                obtain ⟨b17, cs15, v18, g19, gA8, gB8, hq48, hq49, hq50, hq51, hq52, hq53⟩ := ho9.ixr hx22
                have hr16 : Rd rInt g8 v18 x17 := hq50.rd.mono (fun z hz => by rw [hq51]; exact mem_l (mem_r hz))
                refine d_T 7 rfl sb_294_16_7 rfl (hq53 sl_299 rfl rfl rfl) rfl ?_
                refine d_ld 8 rfl sb_294_16_8 one_65 rfl (fun x hx => hx) (mg hq48) hq49 rfl ?_
                refine d_T 9 rfl sb_294_16_9 rfl (y_move rfl) rfl ?_
                refine d_T 10 rfl sb_294_16_10 rfl (y_add rfl rfl rfl) rfl ?_
                obtain ⟨x18, hx23, hm⟩ := bd hm
                obtain ⟨b18, w7, cs16, y7, z7, vs7, hc7, ha7, hr17, hy9⟩ := hr16.ix hx23
                obtain rfl : vs7 = (encI x18) := hr17
                refine d_T 11 rfl sb_294_16_11 rfl (hy9 sl_65 rfl rfl rfl) rfl ?_
                refine d_ld 12 rfl sb_294_16_12 one_3 rfl (fun x hx => hx) (mg hc7) (At.getA (ha7)) rfl ?_
                obtain ⟨_, hi4, hm⟩ := bd hm
                have hi4 := ckA_some hi4
                obtain ⟨b19, cp4, hv3, hy10⟩ := hq44.ix hi4
                refine d_T 13 rfl sb_294_16_13 rfl (hy10 sl_65 rfl rfl rfl) rfl ?_
                refine d_hard 14 rfl sb_294_16_14 ?_
                obtain ⟨l14, hx25, hm⟩ := bd hm
                obtain ⟨l15, hn3, hm⟩ := nm_s hm
                refine o_stTT one_3 rfl rfl rfl rfl hq44 hv3 hx25 hq45 hq46 (fun _ => q0) (fun g20 ho13 => ?_)
                have ho13 := ho13.to (tt' := l15) (by subst hn3; rfl)
                refine o_stop (fun h => nomatch h) ?_
                refine d_nil0 sb_294_16_15 rfl ?_
                refine c_region ?_
                refine o_T (y_move rfl) rfl ?_
                refine o_T (y_sub rfl rfl rfl) rfl ?_
                refine o_L (y_assign rfl) rfl rfl ?_
                refine o_nil0 rfl ?_
                exact ⟨mm3, Nat.lt_succ_self _, _, _, ⟨_, _, _, rfl, rfl, hm, ho13⟩, ⟨rfl, trivial⟩, ⟨rfl, rfl⟩, _, (s_take (s_take s_nil))⟩
          · have hm := cd_f h3 hm
            refine c_exit ?_
            obtain ⟨rfl, rfl⟩ := pr2 hm
            exact ⟨_, _, ⟨_, rfl, rfl, ho9⟩, ⟨rfl, trivial⟩, ⟨rfl, rfl⟩, _, (s_take (s_take s_nil))⟩
        · rintro sh G ⟨g9, rfl, rfl, ho10⟩
          refine c_region ?_
          refine o_T (y_move rfl) rfl ?_
          refine o_T (y_sub rfl rfl rfl) rfl ?_
          refine o_L (y_assign rfl) rfl rfl ?_
          refine o_nil0 rfl ?_
          exact ⟨mm2, Nat.lt_succ_self _, _, _, ⟨_, _, _, rfl, rfl, hm, ho10⟩, ⟨rfl, trivial⟩, ⟨rfl, rfl⟩, _, (s_take (s_take s_nil))⟩
      · have hm := cd_f h2 hm
        refine c_exit ?_
        obtain ⟨rfl, rfl⟩ := pr2 hm
        exact ⟨_, _, ⟨_, rfl, rfl, ho7⟩, ⟨rfl, trivial⟩, ⟨rfl, rfl⟩, _, (s_take (s_take s_nil))⟩
    · rintro sh G ⟨g7, rfl, rfl, ho8⟩
      refine c_seq ?_
      refine c_region ?_
      refine o_T (y_move rfl) rfl ?_
      refine o_L (y_assign rfl) rfl rfl ?_
      refine o_nil0 rfl ?_
      refine c_ret ?_
      obtain rfl := p1 hm
      refine fun aX wX heX hsX => ret1 Tryz.results294 heX rfl (s_take (s_take s_nil)) ?_
      exact ⟨v3, _, rfl, rfl, ho8.own⟩
end Go.Proofs.Qxb6500350aGreat
