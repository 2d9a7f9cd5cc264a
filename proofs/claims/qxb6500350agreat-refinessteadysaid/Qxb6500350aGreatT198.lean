/- MADE BY PROGRAM (tools350/mir.py): mirror and walk. -/
import Derived.Test.Qxb6500350aGreatF2
import Derived.Test.Qxb6500350aGreatT264
import Derived.Test.Qxb6500350aGreatT265
set_option linter.unusedVariables false
set_option linter.unusedSimpArgs false
set_option maxRecDepth 20000
set_option maxHeartbeats 4000000
namespace Go.Proofs.Qxb6500350aGreat
open Go.Eng

def op_198_9 : Array Go.Oper := #[{ dst := some 32, op := Go.Op.fieldAddr 172 (Go.Operand.tmp 6) 1, type := 0, pos := "check.go:71", after := #[], guard := none }, { dst := some 33, op := Go.Op.load 3 (Go.Operand.tmp 32), type := 3, pos := "check.go:71", after := #[{ on := 0, ground := Go.Ground.data }], guard := none }, { dst := some 34, op := Go.Op.move (Go.Operand.tmp 3), type := 3, pos := "check.go:71", after := #[], guard := none }, { dst := some 35, op := Go.Op.binOp Go.BinOp.leq 3 (Go.Operand.tmp 33) (Go.Operand.tmp 34) 3, type := 4, pos := "check.go:71", after := #[{ on := 1, ground := Go.Ground.data }, { on := 2, ground := Go.Ground.data }], guard := none }, { dst := some 36, op := Go.Op.move (Go.Operand.tmp 35), type := 4, pos := "check.go:71", after := #[{ on := 3, ground := Go.Ground.data }], guard := none }, { dst := some 37, op := Go.Op.fieldAddr 172 (Go.Operand.tmp 6) 1, type := 0, pos := "check.go:71", after := #[{ on := 4, ground := Go.Ground.guard }], guard := some (4, false) }, { dst := some 38, op := Go.Op.load 3 (Go.Operand.tmp 37), type := 3, pos := "check.go:71", after := #[{ on := 5, ground := Go.Ground.data }, { on := 4, ground := Go.Ground.guard }], guard := some (4, false) }, { dst := some 39, op := Go.Op.move (Go.Operand.tmp 0), type := 30, pos := "check.go:71", after := #[{ on := 4, ground := Go.Ground.guard }], guard := some (4, false) }, { dst := some 40, op := Go.Op.nilCheck (Go.Operand.tmp 39), type := 0, pos := "check.go:71", after := #[{ on := 7, ground := Go.Ground.data }, { on := 4, ground := Go.Ground.guard }], guard := some (4, false) }, { dst := some 41, op := Go.Op.fieldAddr 179 (Go.Operand.tmp 40) 10, type := 0, pos := "check.go:71", after := #[{ on := 8, ground := Go.Ground.data }, { on := 4, ground := Go.Ground.guard }], guard := some (4, false) }, { dst := some 42, op := Go.Op.load 3 (Go.Operand.tmp 41), type := 3, pos := "check.go:71", after := #[{ on := 9, ground := Go.Ground.data }, { on := 4, ground := Go.Ground.guard }], guard := some (4, false) }, { dst := some 43, op := Go.Op.binOp Go.BinOp.geq 3 (Go.Operand.tmp 38) (Go.Operand.tmp 42) 3, type := 4, pos := "check.go:71", after := #[{ on := 6, ground := Go.Ground.data }, { on := 10, ground := Go.Ground.data }, { on := 4, ground := Go.Ground.guard }], guard := some (4, false) }, { dst := some 44, op := Go.Op.pick (Go.Operand.tmp 36) (Go.Operand.const (Go.Value.bool true)) (Go.Operand.tmp 43), type := 4, pos := "check.go:71", after := #[{ on := 4, ground := Go.Ground.data }, { on := 11, ground := Go.Ground.data }], guard := none }, { dst := some 45, op := Go.Op.move (Go.Operand.tmp 44), type := 4, pos := "check.go:71", after := #[{ on := 12, ground := Go.Ground.data }, { on := 4, ground := Go.Ground.chain }], guard := none }, { dst := some 46, op := Go.Op.fieldAddr 172 (Go.Operand.tmp 6) 3, type := 0, pos := "check.go:71", after := #[{ on := 13, ground := Go.Ground.guard }], guard := some (13, false) }, { dst := some 47, op := Go.Op.load 3 (Go.Operand.tmp 46), type := 3, pos := "check.go:71", after := #[{ on := 14, ground := Go.Ground.data }, { on := 13, ground := Go.Ground.guard }], guard := some (13, false) }, { dst := some 48, op := Go.Op.binOp Go.BinOp.lss 3 (Go.Operand.tmp 47) (Go.Operand.const (Go.Value.int Go.IntKind.i64 0)) 3, type := 4, pos := "check.go:71", after := #[{ on := 15, ground := Go.Ground.data }, { on := 13, ground := Go.Ground.guard }], guard := some (13, false) }, { dst := some 49, op := Go.Op.pick (Go.Operand.tmp 45) (Go.Operand.const (Go.Value.bool true)) (Go.Operand.tmp 48), type := 4, pos := "check.go:71", after := #[{ on := 13, ground := Go.Ground.data }, { on := 16, ground := Go.Ground.data }], guard := none }, { dst := some 50, op := Go.Op.move (Go.Operand.tmp 49), type := 4, pos := "check.go:71", after := #[{ on := 17, ground := Go.Ground.data }, { on := 13, ground := Go.Ground.chain }], guard := none }, { dst := some 51, op := Go.Op.fieldAddr 172 (Go.Operand.tmp 6) 3, type := 0, pos := "check.go:71", after := #[{ on := 18, ground := Go.Ground.guard }], guard := some (18, false) }, { dst := some 52, op := Go.Op.load 3 (Go.Operand.tmp 51), type := 3, pos := "check.go:71", after := #[{ on := 19, ground := Go.Ground.data }, { on := 18, ground := Go.Ground.guard }], guard := some (18, false) }, { dst := some 53, op := Go.Op.binOp Go.BinOp.gtr 3 (Go.Operand.tmp 52) (Go.Operand.const (Go.Value.int Go.IntKind.i64 2)) 3, type := 4, pos := "check.go:71", after := #[{ on := 20, ground := Go.Ground.data }, { on := 18, ground := Go.Ground.guard }], guard := some (18, false) }, { dst := some 54, op := Go.Op.pick (Go.Operand.tmp 50) (Go.Operand.const (Go.Value.bool true)) (Go.Operand.tmp 53), type := 4, pos := "check.go:71", after := #[{ on := 18, ground := Go.Ground.data }, { on := 21, ground := Go.Ground.data }], guard := none }]
def op_198_19 : Array Go.Oper := #[{ dst := some 75, op := Go.Op.move (Go.Operand.tmp 0), type := 30, pos := "check.go:82", after := #[], guard := none }, { dst := some 76, op := Go.Op.move (Go.Operand.tmp 7), type := 3, pos := "check.go:82", after := #[], guard := none }, { dst := some 77, op := Go.Op.fieldAddr 172 (Go.Operand.tmp 6) 4, type := 0, pos := "check.go:82", after := #[], guard := none }, { dst := some 78, op := Go.Op.indexAddr 170 (Go.Operand.tmp 77) (Go.Operand.tmp 76), type := 0, pos := "check.go:82", after := #[{ on := 2, ground := Go.Ground.data }, { on := 1, ground := Go.Ground.data }], guard := none }, { dst := some 79, op := Go.Op.load 3 (Go.Operand.tmp 78), type := 3, pos := "check.go:82", after := #[{ on := 3, ground := Go.Ground.data }], guard := none }, { dst := some 80, op := Go.Op.nilCheck (Go.Operand.tmp 75), type := 0, pos := "check.go:82", after := #[{ on := 0, ground := Go.Ground.data }], guard := none }, { dst := some 81, op := Go.Op.fieldAddr 179 (Go.Operand.tmp 80) 1, type := 0, pos := "check.go:82", after := #[{ on := 5, ground := Go.Ground.data }], guard := none }, { dst := some 82, op := Go.Op.indexAddr 173 (Go.Operand.tmp 81) (Go.Operand.tmp 79), type := 0, pos := "check.go:82", after := #[{ on := 6, ground := Go.Ground.data }, { on := 4, ground := Go.Ground.data }], guard := none }, { dst := some 83, op := Go.Op.fieldAddr 172 (Go.Operand.tmp 82) 1, type := 0, pos := "check.go:82", after := #[{ on := 7, ground := Go.Ground.data }], guard := none }, { dst := some 84, op := Go.Op.load 3 (Go.Operand.tmp 83), type := 3, pos := "check.go:82", after := #[{ on := 8, ground := Go.Ground.data }], guard := none }, { dst := some 85, op := Go.Op.fieldAddr 172 (Go.Operand.tmp 6) 1, type := 0, pos := "check.go:82", after := #[], guard := none }, { dst := some 86, op := Go.Op.load 3 (Go.Operand.tmp 85), type := 3, pos := "check.go:82", after := #[{ on := 10, ground := Go.Ground.data }], guard := none }, { dst := some 87, op := Go.Op.binOp Go.BinOp.geq 3 (Go.Operand.tmp 84) (Go.Operand.tmp 86) 3, type := 4, pos := "check.go:82", after := #[{ on := 9, ground := Go.Ground.data }, { on := 11, ground := Go.Ground.data }], guard := none }]
theorem sb_198_9_0 : softB op_198_9 #[true, true, true, true, true, true, true, true, true, true, true, true, true, true, true, true, true, true, true, true, true, true, true] (Array.replicate 23 false) 0 = true := by kernel_rfl
theorem sb_198_9_1 : softB op_198_9 #[true, true, true, true, true, true, true, true, true, true, true, true, true, true, true, true, true, true, true, true, true, true, true] ((Array.replicate 23 false).setIfInBounds 0 true) 1 = true := by kernel_rfl
theorem sb_198_9_2 : softB op_198_9 #[true, true, true, true, true, true, true, true, true, true, true, true, true, true, true, true, true, true, true, true, true, true, true] (((Array.replicate 23 false).setIfInBounds 0 true).setIfInBounds 1 true) 2 = true := by kernel_rfl
theorem sb_198_9_3 : softB op_198_9 #[true, true, true, true, true, true, true, true, true, true, true, true, true, true, true, true, true, true, true, true, true, true, true] ((((Array.replicate 23 false).setIfInBounds 0 true).setIfInBounds 1 true).setIfInBounds 2 true) 3 = true := by kernel_rfl
theorem sb_198_9_4 : softB op_198_9 #[true, true, true, true, true, true, true, true, true, true, true, true, true, true, true, true, true, true, true, true, true, true, true] (((((Array.replicate 23 false).setIfInBounds 0 true).setIfInBounds 1 true).setIfInBounds 2 true).setIfInBounds 3 true) 4 = true := by kernel_rfl
theorem sb_198_9_5 : softB op_198_9 #[true, true, true, true, true, true, true, true, true, true, true, true, true, true, true, true, true, true, true, true, true, true, true] ((((((Array.replicate 23 false).setIfInBounds 0 true).setIfInBounds 1 true).setIfInBounds 2 true).setIfInBounds 3 true).setIfInBounds 4 true) 5 = true := by kernel_rfl
theorem sb_198_9_6 : softB op_198_9 #[true, true, true, true, true, true, true, true, true, true, true, true, true, true, true, true, true, true, true, true, true, true, true] (((((((Array.replicate 23 false).setIfInBounds 0 true).setIfInBounds 1 true).setIfInBounds 2 true).setIfInBounds 3 true).setIfInBounds 4 true).setIfInBounds 5 true) 6 = true := by kernel_rfl
theorem sb_198_9_7 : softB op_198_9 #[true, true, true, true, true, true, true, true, true, true, true, true, true, true, true, true, true, true, true, true, true, true, true] ((((((((Array.replicate 23 false).setIfInBounds 0 true).setIfInBounds 1 true).setIfInBounds 2 true).setIfInBounds 3 true).setIfInBounds 4 true).setIfInBounds 5 true).setIfInBounds 6 true) 7 = true := by kernel_rfl
theorem sb_198_9_8 : softB op_198_9 #[true, true, true, true, true, true, true, true, true, true, true, true, true, true, true, true, true, true, true, true, true, true, true] (((((((((Array.replicate 23 false).setIfInBounds 0 true).setIfInBounds 1 true).setIfInBounds 2 true).setIfInBounds 3 true).setIfInBounds 4 true).setIfInBounds 5 true).setIfInBounds 6 true).setIfInBounds 7 true) 8 = true := by kernel_rfl
theorem sb_198_9_9 : softB op_198_9 #[true, true, true, true, true, true, true, true, true, true, true, true, true, true, true, true, true, true, true, true, true, true, true] ((((((((((Array.replicate 23 false).setIfInBounds 0 true).setIfInBounds 1 true).setIfInBounds 2 true).setIfInBounds 3 true).setIfInBounds 4 true).setIfInBounds 5 true).setIfInBounds 6 true).setIfInBounds 7 true).setIfInBounds 8 true) 9 = true := by kernel_rfl
theorem sb_198_9_10 : softB op_198_9 #[true, true, true, true, true, true, true, true, true, true, true, true, true, true, true, true, true, true, true, true, true, true, true] (((((((((((Array.replicate 23 false).setIfInBounds 0 true).setIfInBounds 1 true).setIfInBounds 2 true).setIfInBounds 3 true).setIfInBounds 4 true).setIfInBounds 5 true).setIfInBounds 6 true).setIfInBounds 7 true).setIfInBounds 8 true).setIfInBounds 9 true) 10 = true := by kernel_rfl
theorem sb_198_9_11 : softB op_198_9 #[true, true, true, true, true, true, true, true, true, true, true, true, true, true, true, true, true, true, true, true, true, true, true] ((((((((((((Array.replicate 23 false).setIfInBounds 0 true).setIfInBounds 1 true).setIfInBounds 2 true).setIfInBounds 3 true).setIfInBounds 4 true).setIfInBounds 5 true).setIfInBounds 6 true).setIfInBounds 7 true).setIfInBounds 8 true).setIfInBounds 9 true).setIfInBounds 10 true) 11 = true := by kernel_rfl
theorem sb_198_9_12 : softB op_198_9 #[true, true, true, true, true, true, true, true, true, true, true, true, true, true, true, true, true, true, true, true, true, true, true] (((((((((((((Array.replicate 23 false).setIfInBounds 0 true).setIfInBounds 1 true).setIfInBounds 2 true).setIfInBounds 3 true).setIfInBounds 4 true).setIfInBounds 5 true).setIfInBounds 6 true).setIfInBounds 7 true).setIfInBounds 8 true).setIfInBounds 9 true).setIfInBounds 10 true).setIfInBounds 11 true) 12 = true := by kernel_rfl
theorem sb_198_9_13 : softB op_198_9 #[true, true, true, true, true, true, true, true, true, true, true, true, true, true, true, true, true, true, true, true, true, true, true] ((((((((((((((Array.replicate 23 false).setIfInBounds 0 true).setIfInBounds 1 true).setIfInBounds 2 true).setIfInBounds 3 true).setIfInBounds 4 true).setIfInBounds 5 true).setIfInBounds 6 true).setIfInBounds 7 true).setIfInBounds 8 true).setIfInBounds 9 true).setIfInBounds 10 true).setIfInBounds 11 true).setIfInBounds 12 true) 13 = true := by kernel_rfl
theorem sb_198_9_14 : softB op_198_9 #[true, true, true, true, true, true, true, true, true, true, true, true, true, true, true, true, true, true, true, true, true, true, true] (((((((((((((((Array.replicate 23 false).setIfInBounds 0 true).setIfInBounds 1 true).setIfInBounds 2 true).setIfInBounds 3 true).setIfInBounds 4 true).setIfInBounds 5 true).setIfInBounds 6 true).setIfInBounds 7 true).setIfInBounds 8 true).setIfInBounds 9 true).setIfInBounds 10 true).setIfInBounds 11 true).setIfInBounds 12 true).setIfInBounds 13 true) 14 = true := by kernel_rfl
theorem sb_198_9_15 : softB op_198_9 #[true, true, true, true, true, true, true, true, true, true, true, true, true, true, true, true, true, true, true, true, true, true, true] ((((((((((((((((Array.replicate 23 false).setIfInBounds 0 true).setIfInBounds 1 true).setIfInBounds 2 true).setIfInBounds 3 true).setIfInBounds 4 true).setIfInBounds 5 true).setIfInBounds 6 true).setIfInBounds 7 true).setIfInBounds 8 true).setIfInBounds 9 true).setIfInBounds 10 true).setIfInBounds 11 true).setIfInBounds 12 true).setIfInBounds 13 true).setIfInBounds 14 true) 15 = true := by kernel_rfl
theorem sb_198_9_16 : softB op_198_9 #[true, true, true, true, true, true, true, true, true, true, true, true, true, true, true, true, true, true, true, true, true, true, true] (((((((((((((((((Array.replicate 23 false).setIfInBounds 0 true).setIfInBounds 1 true).setIfInBounds 2 true).setIfInBounds 3 true).setIfInBounds 4 true).setIfInBounds 5 true).setIfInBounds 6 true).setIfInBounds 7 true).setIfInBounds 8 true).setIfInBounds 9 true).setIfInBounds 10 true).setIfInBounds 11 true).setIfInBounds 12 true).setIfInBounds 13 true).setIfInBounds 14 true).setIfInBounds 15 true) 16 = true := by kernel_rfl
theorem sb_198_9_17 : softB op_198_9 #[true, true, true, true, true, true, true, true, true, true, true, true, true, true, true, true, true, true, true, true, true, true, true] ((((((((((((((((((Array.replicate 23 false).setIfInBounds 0 true).setIfInBounds 1 true).setIfInBounds 2 true).setIfInBounds 3 true).setIfInBounds 4 true).setIfInBounds 5 true).setIfInBounds 6 true).setIfInBounds 7 true).setIfInBounds 8 true).setIfInBounds 9 true).setIfInBounds 10 true).setIfInBounds 11 true).setIfInBounds 12 true).setIfInBounds 13 true).setIfInBounds 14 true).setIfInBounds 15 true).setIfInBounds 16 true) 17 = true := by kernel_rfl
theorem sb_198_9_18 : softB op_198_9 #[true, true, true, true, true, true, true, true, true, true, true, true, true, true, true, true, true, true, true, true, true, true, true] (((((((((((((((((((Array.replicate 23 false).setIfInBounds 0 true).setIfInBounds 1 true).setIfInBounds 2 true).setIfInBounds 3 true).setIfInBounds 4 true).setIfInBounds 5 true).setIfInBounds 6 true).setIfInBounds 7 true).setIfInBounds 8 true).setIfInBounds 9 true).setIfInBounds 10 true).setIfInBounds 11 true).setIfInBounds 12 true).setIfInBounds 13 true).setIfInBounds 14 true).setIfInBounds 15 true).setIfInBounds 16 true).setIfInBounds 17 true) 18 = true := by kernel_rfl
theorem sb_198_9_19 : softB op_198_9 #[true, true, true, true, true, true, true, true, true, true, true, true, true, true, true, true, true, true, true, true, true, true, true] ((((((((((((((((((((Array.replicate 23 false).setIfInBounds 0 true).setIfInBounds 1 true).setIfInBounds 2 true).setIfInBounds 3 true).setIfInBounds 4 true).setIfInBounds 5 true).setIfInBounds 6 true).setIfInBounds 7 true).setIfInBounds 8 true).setIfInBounds 9 true).setIfInBounds 10 true).setIfInBounds 11 true).setIfInBounds 12 true).setIfInBounds 13 true).setIfInBounds 14 true).setIfInBounds 15 true).setIfInBounds 16 true).setIfInBounds 17 true).setIfInBounds 18 true) 19 = true := by kernel_rfl
theorem sb_198_9_20 : softB op_198_9 #[true, true, true, true, true, true, true, true, true, true, true, true, true, true, true, true, true, true, true, true, true, true, true] (((((((((((((((((((((Array.replicate 23 false).setIfInBounds 0 true).setIfInBounds 1 true).setIfInBounds 2 true).setIfInBounds 3 true).setIfInBounds 4 true).setIfInBounds 5 true).setIfInBounds 6 true).setIfInBounds 7 true).setIfInBounds 8 true).setIfInBounds 9 true).setIfInBounds 10 true).setIfInBounds 11 true).setIfInBounds 12 true).setIfInBounds 13 true).setIfInBounds 14 true).setIfInBounds 15 true).setIfInBounds 16 true).setIfInBounds 17 true).setIfInBounds 18 true).setIfInBounds 19 true) 20 = true := by kernel_rfl
theorem sb_198_9_21 : softB op_198_9 #[true, true, true, true, true, true, true, true, true, true, true, true, true, true, true, true, true, true, true, true, true, true, true] ((((((((((((((((((((((Array.replicate 23 false).setIfInBounds 0 true).setIfInBounds 1 true).setIfInBounds 2 true).setIfInBounds 3 true).setIfInBounds 4 true).setIfInBounds 5 true).setIfInBounds 6 true).setIfInBounds 7 true).setIfInBounds 8 true).setIfInBounds 9 true).setIfInBounds 10 true).setIfInBounds 11 true).setIfInBounds 12 true).setIfInBounds 13 true).setIfInBounds 14 true).setIfInBounds 15 true).setIfInBounds 16 true).setIfInBounds 17 true).setIfInBounds 18 true).setIfInBounds 19 true).setIfInBounds 20 true) 21 = true := by kernel_rfl
theorem sb_198_9_22 : softB op_198_9 #[true, true, true, true, true, true, true, true, true, true, true, true, true, true, true, true, true, true, true, true, true, true, true] (((((((((((((((((((((((Array.replicate 23 false).setIfInBounds 0 true).setIfInBounds 1 true).setIfInBounds 2 true).setIfInBounds 3 true).setIfInBounds 4 true).setIfInBounds 5 true).setIfInBounds 6 true).setIfInBounds 7 true).setIfInBounds 8 true).setIfInBounds 9 true).setIfInBounds 10 true).setIfInBounds 11 true).setIfInBounds 12 true).setIfInBounds 13 true).setIfInBounds 14 true).setIfInBounds 15 true).setIfInBounds 16 true).setIfInBounds 17 true).setIfInBounds 18 true).setIfInBounds 19 true).setIfInBounds 20 true).setIfInBounds 21 true) 22 = true := by kernel_rfl
theorem sb_198_9_23 : hardB op_198_9 ((((((((((((((((((((((((Array.replicate 23 false).setIfInBounds 0 true).setIfInBounds 1 true).setIfInBounds 2 true).setIfInBounds 3 true).setIfInBounds 4 true).setIfInBounds 5 true).setIfInBounds 6 true).setIfInBounds 7 true).setIfInBounds 8 true).setIfInBounds 9 true).setIfInBounds 10 true).setIfInBounds 11 true).setIfInBounds 12 true).setIfInBounds 13 true).setIfInBounds 14 true).setIfInBounds 15 true).setIfInBounds 16 true).setIfInBounds 17 true).setIfInBounds 18 true).setIfInBounds 19 true).setIfInBounds 20 true).setIfInBounds 21 true).setIfInBounds 22 true) [] = true := by kernel_rfl
theorem sb_198_19_0 : softB op_198_19 #[true, true, true, true, true, true, true, true, true, true, true, true, true] (Array.replicate 13 false) 0 = true := by kernel_rfl
theorem sb_198_19_1 : softB op_198_19 #[true, true, true, true, true, true, true, true, true, true, true, true, true] ((Array.replicate 13 false).setIfInBounds 0 true) 1 = true := by kernel_rfl
theorem sb_198_19_2 : softB op_198_19 #[true, true, true, true, true, true, true, true, true, true, true, true, true] (((Array.replicate 13 false).setIfInBounds 0 true).setIfInBounds 1 true) 2 = true := by kernel_rfl
theorem sb_198_19_3 : softB op_198_19 #[true, true, true, true, true, true, true, true, true, true, true, true, true] ((((Array.replicate 13 false).setIfInBounds 0 true).setIfInBounds 1 true).setIfInBounds 2 true) 3 = true := by kernel_rfl
theorem sb_198_19_4 : softB op_198_19 #[true, true, true, true, true, true, true, true, true, true, true, true, true] (((((Array.replicate 13 false).setIfInBounds 0 true).setIfInBounds 1 true).setIfInBounds 2 true).setIfInBounds 3 true) 4 = true := by kernel_rfl
theorem sb_198_19_5 : softB op_198_19 #[true, true, true, true, true, true, true, true, true, true, true, true, true] ((((((Array.replicate 13 false).setIfInBounds 0 true).setIfInBounds 1 true).setIfInBounds 2 true).setIfInBounds 3 true).setIfInBounds 4 true) 5 = true := by kernel_rfl
theorem sb_198_19_6 : softB op_198_19 #[true, true, true, true, true, true, true, true, true, true, true, true, true] (((((((Array.replicate 13 false).setIfInBounds 0 true).setIfInBounds 1 true).setIfInBounds 2 true).setIfInBounds 3 true).setIfInBounds 4 true).setIfInBounds 5 true) 6 = true := by kernel_rfl
theorem sb_198_19_7 : softB op_198_19 #[true, true, true, true, true, true, true, true, true, true, true, true, true] ((((((((Array.replicate 13 false).setIfInBounds 0 true).setIfInBounds 1 true).setIfInBounds 2 true).setIfInBounds 3 true).setIfInBounds 4 true).setIfInBounds 5 true).setIfInBounds 6 true) 7 = true := by kernel_rfl
theorem sb_198_19_8 : softB op_198_19 #[true, true, true, true, true, true, true, true, true, true, true, true, true] (((((((((Array.replicate 13 false).setIfInBounds 0 true).setIfInBounds 1 true).setIfInBounds 2 true).setIfInBounds 3 true).setIfInBounds 4 true).setIfInBounds 5 true).setIfInBounds 6 true).setIfInBounds 7 true) 8 = true := by kernel_rfl
theorem sb_198_19_9 : softB op_198_19 #[true, true, true, true, true, true, true, true, true, true, true, true, true] ((((((((((Array.replicate 13 false).setIfInBounds 0 true).setIfInBounds 1 true).setIfInBounds 2 true).setIfInBounds 3 true).setIfInBounds 4 true).setIfInBounds 5 true).setIfInBounds 6 true).setIfInBounds 7 true).setIfInBounds 8 true) 9 = true := by kernel_rfl
theorem sb_198_19_10 : softB op_198_19 #[true, true, true, true, true, true, true, true, true, true, true, true, true] (((((((((((Array.replicate 13 false).setIfInBounds 0 true).setIfInBounds 1 true).setIfInBounds 2 true).setIfInBounds 3 true).setIfInBounds 4 true).setIfInBounds 5 true).setIfInBounds 6 true).setIfInBounds 7 true).setIfInBounds 8 true).setIfInBounds 9 true) 10 = true := by kernel_rfl
theorem sb_198_19_11 : softB op_198_19 #[true, true, true, true, true, true, true, true, true, true, true, true, true] ((((((((((((Array.replicate 13 false).setIfInBounds 0 true).setIfInBounds 1 true).setIfInBounds 2 true).setIfInBounds 3 true).setIfInBounds 4 true).setIfInBounds 5 true).setIfInBounds 6 true).setIfInBounds 7 true).setIfInBounds 8 true).setIfInBounds 9 true).setIfInBounds 10 true) 11 = true := by kernel_rfl
theorem sb_198_19_12 : softB op_198_19 #[true, true, true, true, true, true, true, true, true, true, true, true, true] (((((((((((((Array.replicate 13 false).setIfInBounds 0 true).setIfInBounds 1 true).setIfInBounds 2 true).setIfInBounds 3 true).setIfInBounds 4 true).setIfInBounds 5 true).setIfInBounds 6 true).setIfInBounds 7 true).setIfInBounds 8 true).setIfInBounds 9 true).setIfInBounds 10 true).setIfInBounds 11 true) 12 = true := by kernel_rfl
theorem sb_198_19_13 : hardB op_198_19 ((((((((((((((Array.replicate 13 false).setIfInBounds 0 true).setIfInBounds 1 true).setIfInBounds 2 true).setIfInBounds 3 true).setIfInBounds 4 true).setIfInBounds 5 true).setIfInBounds 6 true).setIfInBounds 7 true).setIfInBounds 8 true).setIfInBounds 9 true).setIfInBounds 10 true).setIfInBounds 11 true).setIfInBounds 12 true) [] = true := by kernel_rfl
/- (*graph.Graph).orderFine -/
def m198_w2 (n : Nat) (g : Graph) (z1 : Com) (mm : Nat) : Int → Option (Flow (Flow (Bool) (Int × Int)) (Int)) := it1 (fun lp2 c7 =>
cond (decide (c7 < z1.np)) (
Option.bind (ckA c7 2) fun _ =>
ob1 (m264 n g (z1.par c7)) fun c9 =>
cond (!c9) (
Option.bind (Option.bind (some false) fun q5 => some (.ret q5)) fun q4 => some (.ret q4)) (
Option.bind (ckA c7 2) fun _ =>
Option.bind (ckA (z1.par c7) 49) fun _ =>
cond (decide (z1.seq ≤ (g.com (z1.par c7)).seq)) (
Option.bind (Option.bind (some false) fun q7 => some (.ret q7)) fun q6 => some (.ret q6)) (
lp2 (wi (c7 + 1))))) (
some (.nx c7))) mm
def m198_w1 (n : Nat) (g : Graph) (t : Trees) (s : Store) (d : Dev) (mm : Nat) : Int → Int → Option (Flow (Bool) (Int × Int)) := it2 (fun lp1 c1 c2 =>
cond (decide (c2 < g.n)) (
Option.bind (ckA c2 48) fun _ =>
ob1 (m264 n g (g.order c2)) fun c5 =>
cond (!c5) (
Option.bind (some false) fun q1 => some (.ret q1)) (
Option.bind (ckA (g.order c2) 49) fun _ =>
nm ((g.com (g.order c2)) : Com) fun z1 =>
cond ((((decide (z1.seq ≤ c1)) || (decide (g.nxt ≤ z1.seq))) || (decide (z1.np < 0))) || (decide ((2 : Int) < z1.np))) (
Option.bind (some false) fun q2 => some (.ret q2)) (
ob1 (m265 n g t s d z1.tree) fun c6 =>
cond (!c6) (
Option.bind (some false) fun q3 => some (.ret q3)) (
flow (m198_w2 n g z1 n 0) some (un1 fun c8 =>
lp1 z1.seq (wi (c2 + 1))))))) (
some (.nx (c1, c2)))) mm
def m198 (n : Nat) (g : Graph) (t : Trees) (s : Store) (d : Dev) : Option (Bool) :=
flow (m198_w1 n g t s d n 0 0) some (un2 fun c3 c4 =>
some true)
theorem t198 {n : Nat} {C : List Chunk} {rc1 : Bool} {b1 : Nat} {g : Graph} {b2 : Nat} {t : Trees} {b3 : Nat} {s : Store} {b4 : Nat} {d : Dev} {v1 : Value} {g1 : List Chunk} {v2 : Value} {g2 : List Chunk} {v3 : Value} {g3 : List Chunk} {v4 : Value} {g4 : List Chunk} (ho1 : Own rByte v1 d.blk g1) (ho2 : Own rByte v2 d.base g2) (ho3 : Own rInt v3 d.at_ g3) (ho4 : Own rByte v4 d.data g4)  (hm : m198 n g t s d = some rc1) : Trip Tryz.prog 198 #[.pointer (some ⟨b1, 0, none⟩)] ([[(b1, .cells (Graph.enc (.pointer (some ⟨b2, 0, none⟩)) g).toArray 179 (0, 0))], [(b2, .cells (Trees.enc (.pointer (some ⟨b3, 0, none⟩)) t).toArray 169 (0, 0))], [(b3, .cells (Store.enc (.pointer (some ⟨b4, 0, none⟩)) s).toArray 126 (0, 0))], [(b4, .cells (Dev.enc (v1) (v2) (v3) (v4) d).toArray 85 (0, 0))], g1, g2, g3, g4] ++ [C]) (fun u S' => .bool rc1 = u ∧ S' = [[(b1, .cells (Graph.enc (.pointer (some ⟨b2, 0, none⟩)) g).toArray 179 (0, 0))], [(b2, .cells (Trees.enc (.pointer (some ⟨b3, 0, none⟩)) t).toArray 169 (0, 0))], [(b3, .cells (Store.enc (.pointer (some ⟨b4, 0, none⟩)) s).toArray 126 (0, 0))], [(b4, .cells (Dev.enc (v1) (v2) (v3) (v4) d).toArray 85 (0, 0))], g1, g2, g3, g4] ++ [C]) := by
  refine fn_entry (args := [.pointer (some ⟨b1, 0, none⟩)]) Tryz.func198 rfl Tryz.ntmps198 rfl (fun w0 => ?_)
  refine c_seq ?_
  refine c_region ?_
  refine o_L (y_assign rfl) rfl rfl ?_
  refine o_nil0 rfl ?_
  refine c_seq ?_
  refine c_region ?_
  refine o_L (y_assign rfl) rfl rfl ?_
  refine o_nil0 rfl ?_
  refine c_seq ?_
  refine c_seq ?_
  refine c_region ?_
  refine o_L (y_assign rfl) rfl rfl ?_
  refine o_nil0 rfl ?_
  obtain ⟨f1, F1, hF1, hj1, hF2⟩ := fl2 hm
  refine c_joinP (n := 0) (fun sh G => ∃ (c3 : Int), ∃ (c4 : Int), sh = [(3, .int .i64 c3), (4, .int .i64 c4)] ∧ G = [] ∧ F1 (c3, c4) = some rc1) (s_take (s_take (s_take (s_take (s_take (s_take (s_take (s_take (s_take s_nil))))))))) .z (fun _ _ h => h) ?_ ?_
  · skip
    refine c_block ?_
    refine c_loopP (n := 0) (fun mm sh G => ∃ (c1 : Int), ∃ (c2 : Int), sh = [(3, .int .i64 c1), (4, .int .i64 c2)] ∧ G = [] ∧ m198_w1 n g t s d mm c1 c2 = some f1) n (s_take (s_take (s_take (s_take (s_take (s_take (s_take (s_take (s_take s_nil))))))))) .z ⟨_, _, ⟨_, _, rfl, rfl, hj1⟩, ⟨rfl, rfl, trivial⟩, _, (s_take (s_take (s_take (s_take (s_take (s_take (s_take (s_take (s_take s_nil)))))))))⟩ ?_
    rintro mm sh G ⟨c1, c2, rfl, rfl, hm⟩
    obtain ⟨mm1, rfl, hm⟩ := it2_s hm
    refine c_seq ?_
    refine c_seq ?_
    refine c_region ?_
    refine o_T (y_move rfl) rfl ?_
    refine o_T (y_move rfl) rfl ?_
    refine o_T (y_nilck rfl) rfl ?_
    refine o_T (y_fa fl_179_3 rfl) rfl ?_
    refine o_ld one_3 rfl m0 (At.got (At.refl.comp Graph.a_n)) rfl ?_
    refine o_T (y_lss rfl rfl) rfl ?_
    refine o_nil1 13 rfl rfl ?_
    refine c_cond rfl (fun h1 => ?_) (fun h1 => ?_)
    · have hm := cd_t h1 hm
      refine c_skip ?_
      refine c_seq ?_
      refine c_block ?_
      refine c_seq ?_
      refine c_region ?_
      refine o_T (y_move rfl) rfl ?_
      refine o_T (y_move rfl) rfl ?_
      refine o_T (y_nilck rfl) rfl ?_
      refine o_T (y_fa fl_179_2 rfl) rfl ?_
      obtain ⟨_, hx1, hm⟩ := bd hm
      have hx1 := ckA_some hx1
      refine o_T (y_ia ar_174 rfl rfl hx1.1 hx1.2) rfl ?_
      refine o_ld one_3 rfl m0 (At.got ((At.refl.comp Graph.a_order).comp (encN_a encI_len _ _ hx1.1 _ hx1.2))) rfl ?_
      refine o_L (y_assign rfl) rfl rfl ?_
      refine o_nil0 rfl ?_
      refine c_seq ?_
      refine c_seq ?_
      refine c_region ?_
      refine o_T (y_move rfl) rfl ?_
      refine o_T (y_move rfl) rfl ?_
      obtain ⟨c5, hx2, hm⟩ := bd1 hm
      refine o_callC en_264 rfl (s_take s_nil) (t264 hx2) rfl (fun u1 S1 hR1 => ?_)
      obtain ⟨rfl, rfl⟩ := hR1
      refine o_rest ?_
      refine o_T (y_not rfl) rfl ?_
      refine o_nil1 25 rfl rfl ?_
      refine c_cond rfl (fun h2 => ?_) (fun h2 => ?_)
      · have hm := cd_t h2 hm
        refine c_seq ?_
        refine c_region ?_
        refine o_L (y_assign rfl) rfl rfl ?_
        refine o_nil0 rfl ?_
        refine c_ret ?_
        obtain ⟨q1, hq1, hm⟩ := bd hm
        have hm := fl_ret hm hF2
        have hm := hq1.trans hm
        obtain rfl := p1 hm
        refine fun aX wX heX hsX => ret1 Tryz.results198 heX rfl (s_take (s_take (s_take (s_take (s_take (s_take (s_take (s_take (s_take s_nil))))))))) ?_
        exact ⟨rfl, rfl⟩
      · have hm := cd_f h2 hm
        refine c_skip ?_
        refine c_seq ?_
        refine c_region ?_
        refine o_T (y_move rfl) rfl ?_
        refine o_T (y_move rfl) rfl ?_
        refine o_T (y_nilck rfl) rfl ?_
        refine o_T (y_fa fl_179_1 rfl) rfl ?_
        obtain ⟨_, hx3, hm⟩ := bd hm
        have hx3 := ckA_some hx3
        refine o_T (y_ia ar_173 rfl rfl hx3.1 hx3.2) rfl ?_
        refine o_lda ag_172 rfl m0 (At.exs ((At.refl.comp Graph.a_com).comp (encN_a Com.len _ _ hx3.1 _ hx3.2)) (Com.len _)) (At.fits ((At.refl.comp Graph.a_com).comp (encN_a Com.len _ _ hx3.1 _ hx3.2)) (Com.len _)) rfl ?_
        refine o_alloc ze_172 rfl rfl (fun b5 => ?_)
        obtain ⟨z1, hn1, hm⟩ := nm_s hm
        refine o_stNA ag_172 rfl rfl (Com.plain _) (Com.len _) (Upd.refl ((Com.len _).trans (Com.len _).symm)) r0 (show (Com.enc z1) = _ from by subst hn1; rfl) ?_
        refine o_nil0 rfl ?_
        refine c_seq ?_
        refine c_seq ?_
        refine c_joinP (n := 0) (fun sh G => sh = [(54, .bool ((((decide (z1.seq ≤ c1)) || (decide (g.nxt ≤ z1.seq))) || (decide (z1.np < 0))) || (decide ((2 : Int) < z1.np))))] ∧ G = []) Sel.all' .z (fun _ _ h => h) ?_ ?_
        · skip
          refine c_draw #[true, true, true, true, true, true, true, true, true, true, true, true, true, true, true, true, true, true, true, true, true, true, true] rfl (n := 23) rfl ?_
          refine d_T 0 rfl sb_198_9_0 rfl (y_fa fl_172_1 rfl) rfl ?_
          refine d_ld 1 rfl sb_198_9_1 one_3 rfl (fun x hx => hx) m0 (At.got (At.refl.comp Com.a_seq)) rfl ?_
          refine d_T 2 rfl sb_198_9_2 rfl (y_move rfl) rfl ?_
          refine d_T 3 rfl sb_198_9_3 rfl (y_leq rfl rfl) rfl ?_
          refine d_T 4 rfl sb_198_9_4 rfl (y_move rfl) rfl ?_
          refine d_split 36 rfl (fun h3 => ?_) (fun h3 => ?_)
          · skip
            refine d_pass 5 rfl rfl rfl rfl rfl sb_198_9_5 (fun x hx => hx) rfl ?_
            refine d_pass 6 rfl rfl rfl rfl rfl sb_198_9_6 (fun x hx => hx) rfl ?_
            refine d_pass 7 rfl rfl rfl rfl rfl sb_198_9_7 (fun x hx => hx) rfl ?_
            refine d_pass 8 rfl rfl rfl rfl rfl sb_198_9_8 (fun x hx => hx) rfl ?_
            refine d_pass 9 rfl rfl rfl rfl rfl sb_198_9_9 (fun x hx => hx) rfl ?_
            refine d_pass 10 rfl rfl rfl rfl rfl sb_198_9_10 (fun x hx => hx) rfl ?_
            refine d_pass 11 rfl rfl rfl rfl rfl sb_198_9_11 (fun x hx => hx) rfl ?_
            refine d_T 12 rfl sb_198_9_12 rfl (y_pickT rfl rfl) rfl ?_
            refine d_T 13 rfl sb_198_9_13 rfl (y_move rfl) rfl ?_
            refine d_pass 14 rfl rfl rfl rfl rfl sb_198_9_14 (fun x hx => hx) rfl ?_
            refine d_pass 15 rfl rfl rfl rfl rfl sb_198_9_15 (fun x hx => hx) rfl ?_
            refine d_pass 16 rfl rfl rfl rfl rfl sb_198_9_16 (fun x hx => hx) rfl ?_
            refine d_T 17 rfl sb_198_9_17 rfl (y_pickT rfl rfl) rfl ?_
            refine d_T 18 rfl sb_198_9_18 rfl (y_move rfl) rfl ?_
            refine d_pass 19 rfl rfl rfl rfl rfl sb_198_9_19 (fun x hx => hx) rfl ?_
            refine d_pass 20 rfl rfl rfl rfl rfl sb_198_9_20 (fun x hx => hx) rfl ?_
            refine d_pass 21 rfl rfl rfl rfl rfl sb_198_9_21 (fun x hx => hx) rfl ?_
            refine d_T 22 rfl sb_198_9_22 rfl (y_pickT rfl rfl) rfl ?_
            refine d_nil1 54 sb_198_9_23 rfl rfl ?_
            refine ⟨_, _, ⟨rfl, rfl⟩, ⟨by first | rfl | exact gtb rfl (by simp only [h3, Bool.true_and, Bool.false_and, Bool.true_or, Bool.false_or, Bool.and_true, Bool.and_false, Bool.or_true, Bool.or_false, Bool.not_true, Bool.not_false]), trivial⟩, ⟨rfl, rfl⟩, _, (s_take (s_take (s_take (s_take (s_take (s_take (s_take (s_take (s_take (s_take s_nil))))))))))⟩
          · skip
            refine d_Tg 5 rfl rfl rfl rfl sb_198_9_5 rfl (y_fa fl_172_1 rfl) rfl ?_
            refine d_ldt 6 rfl rfl rfl rfl sb_198_9_6 one_3 rfl (fun x hx => hx) m0 (At.got (At.refl.comp Com.a_seq)) rfl ?_
            refine d_Tg 7 rfl rfl rfl rfl sb_198_9_7 rfl (y_move rfl) rfl ?_
            refine d_Tg 8 rfl rfl rfl rfl sb_198_9_8 rfl (y_nilck rfl) rfl ?_
            refine d_Tg 9 rfl rfl rfl rfl sb_198_9_9 rfl (y_fa fl_179_10 rfl) rfl ?_
            refine d_ldt 10 rfl rfl rfl rfl sb_198_9_10 one_3 rfl (fun x hx => hx) (ms m0) (At.got (At.refl.comp Graph.a_nxt)) rfl ?_
            refine d_Tg 11 rfl rfl rfl rfl sb_198_9_11 rfl (y_geq rfl rfl) rfl ?_
            refine d_T 12 rfl sb_198_9_12 rfl (y_pickF rfl rfl) rfl ?_
            refine d_T 13 rfl sb_198_9_13 rfl (y_move rfl) rfl ?_
            refine d_split 45 rfl (fun h4 => ?_) (fun h4 => ?_)
            · skip
              refine d_pass 14 rfl rfl rfl rfl rfl sb_198_9_14 (fun x hx => hx) rfl ?_
              refine d_pass 15 rfl rfl rfl rfl rfl sb_198_9_15 (fun x hx => hx) rfl ?_
              refine d_pass 16 rfl rfl rfl rfl rfl sb_198_9_16 (fun x hx => hx) rfl ?_
              refine d_T 17 rfl sb_198_9_17 rfl (y_pickT rfl rfl) rfl ?_
              refine d_T 18 rfl sb_198_9_18 rfl (y_move rfl) rfl ?_
              refine d_pass 19 rfl rfl rfl rfl rfl sb_198_9_19 (fun x hx => hx) rfl ?_
              refine d_pass 20 rfl rfl rfl rfl rfl sb_198_9_20 (fun x hx => hx) rfl ?_
              refine d_pass 21 rfl rfl rfl rfl rfl sb_198_9_21 (fun x hx => hx) rfl ?_
              refine d_T 22 rfl sb_198_9_22 rfl (y_pickT rfl rfl) rfl ?_
              refine d_nil1 54 sb_198_9_23 rfl rfl ?_
              refine ⟨_, _, ⟨rfl, rfl⟩, ⟨by first | rfl | exact gtb rfl (by simp only [h3, h4, Bool.true_and, Bool.false_and, Bool.true_or, Bool.false_or, Bool.and_true, Bool.and_false, Bool.or_true, Bool.or_false, Bool.not_true, Bool.not_false]), trivial⟩, ⟨rfl, rfl⟩, _, (s_take (s_take (s_take (s_take (s_take (s_take (s_take (s_take (s_take (s_take s_nil))))))))))⟩
            · skip
              refine d_Tg 14 rfl rfl rfl rfl sb_198_9_14 rfl (y_fa fl_172_3 rfl) rfl ?_
              refine d_ldt 15 rfl rfl rfl rfl sb_198_9_15 one_3 rfl (fun x hx => hx) m0 (At.got (At.refl.comp Com.a_np)) rfl ?_
              refine d_Tg 16 rfl rfl rfl rfl sb_198_9_16 rfl (y_lss rfl rfl) rfl ?_
              refine d_T 17 rfl sb_198_9_17 rfl (y_pickF rfl rfl) rfl ?_
              refine d_T 18 rfl sb_198_9_18 rfl (y_move rfl) rfl ?_
              refine d_split 50 rfl (fun h5 => ?_) (fun h5 => ?_)
              · skip
                refine d_pass 19 rfl rfl rfl rfl rfl sb_198_9_19 (fun x hx => hx) rfl ?_
                refine d_pass 20 rfl rfl rfl rfl rfl sb_198_9_20 (fun x hx => hx) rfl ?_
                refine d_pass 21 rfl rfl rfl rfl rfl sb_198_9_21 (fun x hx => hx) rfl ?_
                refine d_T 22 rfl sb_198_9_22 rfl (y_pickT rfl rfl) rfl ?_
                refine d_nil1 54 sb_198_9_23 rfl rfl ?_
                refine ⟨_, _, ⟨rfl, rfl⟩, ⟨by first | rfl | exact gtb rfl (by simp only [h3, h4, h5, Bool.true_and, Bool.false_and, Bool.true_or, Bool.false_or, Bool.and_true, Bool.and_false, Bool.or_true, Bool.or_false, Bool.not_true, Bool.not_false]), trivial⟩, ⟨rfl, rfl⟩, _, (s_take (s_take (s_take (s_take (s_take (s_take (s_take (s_take (s_take (s_take s_nil))))))))))⟩
              · skip
                refine d_Tg 19 rfl rfl rfl rfl sb_198_9_19 rfl (y_fa fl_172_3 rfl) rfl ?_
                refine d_ldt 20 rfl rfl rfl rfl sb_198_9_20 one_3 rfl (fun x hx => hx) m0 (At.got (At.refl.comp Com.a_np)) rfl ?_
                refine d_Tg 21 rfl rfl rfl rfl sb_198_9_21 rfl (y_gtr rfl rfl) rfl ?_
                refine d_T 22 rfl sb_198_9_22 rfl (y_pickF rfl rfl) rfl ?_
                refine d_nil1 54 sb_198_9_23 rfl rfl ?_
                refine ⟨_, _, ⟨rfl, rfl⟩, ⟨by first | rfl | exact gtb rfl (by simp only [h3, h4, h5, Bool.true_and, Bool.false_and, Bool.true_or, Bool.false_or, Bool.and_true, Bool.and_false, Bool.or_true, Bool.or_false, Bool.not_true, Bool.not_false]), trivial⟩, ⟨rfl, rfl⟩, _, (s_take (s_take (s_take (s_take (s_take (s_take (s_take (s_take (s_take (s_take s_nil))))))))))⟩
        · rintro sh G ⟨rfl, rfl⟩
          refine c_cond rfl (fun h6 => ?_) (fun h6 => ?_)
          · have hm := cd_t h6 hm
            refine c_seq ?_
            refine c_region ?_
            refine o_L (y_assign rfl) rfl rfl ?_
            refine o_nil0 rfl ?_
            refine c_ret ?_
            obtain ⟨q2, hq2, hm⟩ := bd hm
            have hm := fl_ret hm hF2
            have hm := hq2.trans hm
            obtain rfl := p1 hm
            refine fun aX wX heX hsX => ret1 Tryz.results198 heX rfl (s_skip (s_take (s_take (s_take (s_take (s_take (s_take (s_take (s_take (s_take s_nil)))))))))) ?_
            exact ⟨rfl, rfl⟩
          · have hm := cd_f h6 hm
            refine c_skip ?_
            refine c_seq ?_
            refine c_region ?_
            refine o_T (y_fa fl_172_1 rfl) rfl ?_
            refine o_ld one_3 rfl m0 (At.got (At.refl.comp Com.a_seq)) rfl ?_
            refine o_L (y_assign rfl) rfl rfl ?_
            refine o_nil0 rfl ?_
            refine c_seq ?_
            refine c_seq ?_
            refine c_region ?_
            refine o_T (y_move rfl) rfl ?_
            refine o_T (y_fa fl_172_2 rfl) rfl ?_
            refine o_ld one_3 rfl m0 (At.got (At.refl.comp Com.a_tree)) rfl ?_
            obtain ⟨c6, hx4, hm⟩ := bd1 hm
            refine o_callC en_265 rfl (s_skip (s_take (s_take (s_take (s_take (s_take (s_take (s_take (s_take s_nil))))))))) (t265 ho1 ho2 ho3 ho4 hx4) rfl (fun u2 S2 hR2 => ?_)
            obtain ⟨rfl, rfl⟩ := hR2
            refine o_rest ?_
            refine o_T (y_not rfl) rfl ?_
            refine o_nil1 61 rfl rfl ?_
            refine c_cond rfl (fun h7 => ?_) (fun h7 => ?_)
            · have hm := cd_t h7 hm
              refine c_seq ?_
              refine c_region ?_
              refine o_L (y_assign rfl) rfl rfl ?_
              refine o_nil0 rfl ?_
              refine c_ret ?_
              obtain ⟨q3, hq3, hm⟩ := bd hm
              have hm := fl_ret hm hF2
              have hm := hq3.trans hm
              obtain rfl := p1 hm
              refine fun aX wX heX hsX => ret1 Tryz.results198 heX rfl (s_take (s_take (s_take (s_take (s_take (s_take (s_take (s_take (s_skip (s_take s_nil)))))))))) ?_
              exact ⟨rfl, rfl⟩
            · have hm := cd_f h7 hm
              refine c_skip ?_
              refine c_seq ?_
              refine c_region ?_
              refine o_L (y_assign rfl) rfl rfl ?_
              refine o_nil0 rfl ?_
              obtain ⟨f2, F2, hF3, hj2, hF4⟩ := fl2 hm
              refine c_joinP (n := 0) (fun sh G => ∃ (c8 : Int), sh = [(7, .int .i64 c8)] ∧ G = [] ∧ F2 c8 = some f1) (s_take (s_take (s_take (s_take (s_take (s_take (s_take (s_take (s_take (s_take s_nil)))))))))) .z (fun _ _ h => h) ?_ ?_
              · skip
                refine c_block ?_
                refine c_loopP (n := 0) (fun mm sh G => ∃ (c7 : Int), sh = [(7, .int .i64 c7)] ∧ G = [] ∧ m198_w2 n g z1 mm c7 = some f2) n (s_take (s_take (s_take (s_take (s_take (s_take (s_take (s_take (s_take (s_take s_nil)))))))))) .z ⟨_, _, ⟨_, rfl, rfl, hj2⟩, ⟨rfl, trivial⟩, _, (s_take (s_take (s_take (s_take (s_take (s_take (s_take (s_take (s_take (s_take s_nil))))))))))⟩ ?_
                rintro mm sh G ⟨c7, rfl, rfl, hm⟩
                obtain ⟨mm2, rfl, hm⟩ := it1_s hm
                refine c_seq ?_
                refine c_seq ?_
                refine c_region ?_
                refine o_T (y_move rfl) rfl ?_
                refine o_T (y_fa fl_172_3 rfl) rfl ?_
                refine o_ld one_3 rfl (ms (ms (ms (ms (ms (ms (ms (ms m0)))))))) (At.got (At.refl.comp Com.a_np)) rfl ?_
                refine o_T (y_lss rfl rfl) rfl ?_
                refine o_nil1 65 rfl rfl ?_
                refine c_cond rfl (fun h8 => ?_) (fun h8 => ?_)
                · have hm := cd_t h8 hm
                  refine c_skip ?_
                  refine c_seq ?_
                  refine c_block ?_
                  refine c_seq ?_
                  refine c_seq ?_
                  refine c_region ?_
                  refine o_T (y_move rfl) rfl ?_
                  refine o_T (y_move rfl) rfl ?_
                  refine o_T (y_fa fl_172_4 rfl) rfl ?_
                  obtain ⟨_, hx5, hm⟩ := bd hm
                  have hx5 := ckA_some hx5
                  refine o_T (y_ia ar_170 rfl rfl hx5.1 hx5.2) rfl ?_
                  refine o_ld one_3 rfl (ms (ms (ms (ms (ms (ms (ms (ms m0)))))))) (At.got ((At.refl.comp Com.a_par).comp (encN_a encI_len _ _ hx5.1 _ hx5.2))) rfl ?_
                  obtain ⟨c9, hx6, hm⟩ := bd1 hm
                  refine o_callC en_264 rfl (s_take s_nil) (t264 hx6) rfl (fun u3 S3 hR3 => ?_)
                  obtain ⟨rfl, rfl⟩ := hR3
                  refine o_rest ?_
                  refine o_T (y_not rfl) rfl ?_
                  refine o_nil1 74 rfl rfl ?_
                  refine c_cond rfl (fun h9 => ?_) (fun h9 => ?_)
                  · have hm := cd_t h9 hm
                    refine c_seq ?_
                    refine c_region ?_
                    refine o_L (y_assign rfl) rfl rfl ?_
                    refine o_nil0 rfl ?_
                    refine c_ret ?_
                    obtain ⟨q4, hq4, hm⟩ := bd hm
                    have hm := fl_ret hm hF4
                    have hm := hq4.trans hm
                    obtain ⟨q5, hq5, hm⟩ := bd hm
                    have hm := fl_ret hm hF2
                    have hm := hq5.trans hm
                    obtain rfl := p1 hm
                    refine fun aX wX heX hsX => ret1 Tryz.results198 heX rfl (s_take (s_take (s_take (s_take (s_take (s_take (s_take (s_take (s_skip (s_take s_nil)))))))))) ?_
                    exact ⟨rfl, rfl⟩
                  · have hm := cd_f h9 hm
                    refine c_skip ?_
                    refine c_seq ?_
                    refine c_draw #[true, true, true, true, true, true, true, true, true, true, true, true, true] rfl (n := 13) rfl ?_
                    refine d_T 0 rfl sb_198_19_0 rfl (y_move rfl) rfl ?_
                    refine d_T 1 rfl sb_198_19_1 rfl (y_move rfl) rfl ?_
                    refine d_T 2 rfl sb_198_19_2 rfl (y_fa fl_172_4 rfl) rfl ?_
                    obtain ⟨_, hx7, hm⟩ := bd hm
                    have hx7 := ckA_some hx7
                    refine d_T 3 rfl sb_198_19_3 rfl (y_ia ar_170 rfl rfl hx7.1 hx7.2) rfl ?_
                    refine d_ld 4 rfl sb_198_19_4 one_3 rfl (fun x hx => hx) (ms (ms (ms (ms (ms (ms (ms (ms m0)))))))) (At.got ((At.refl.comp Com.a_par).comp (encN_a encI_len _ _ hx7.1 _ hx7.2))) rfl ?_
                    refine d_T 5 rfl sb_198_19_5 rfl (y_nilck rfl) rfl ?_
                    refine d_T 6 rfl sb_198_19_6 rfl (y_fa fl_179_1 rfl) rfl ?_
                    obtain ⟨_, hx8, hm⟩ := bd hm
                    have hx8 := ckA_some hx8
                    refine d_T 7 rfl sb_198_19_7 rfl (y_ia ar_173 rfl rfl hx8.1 hx8.2) rfl ?_
                    refine d_T 8 rfl sb_198_19_8 rfl (y_fa fl_172_1 rfl) rfl ?_
                    refine d_ld 9 rfl sb_198_19_9 one_3 rfl (fun x hx => hx) m0 (At.got (((At.refl.comp Graph.a_com).comp (encN_a Com.len _ _ hx8.1 _ hx8.2)).comp Com.a_seq)) rfl ?_
                    refine d_T 10 rfl sb_198_19_10 rfl (y_fa fl_172_1 rfl) rfl ?_
                    refine d_ld 11 rfl sb_198_19_11 one_3 rfl (fun x hx => hx) (ms (ms (ms (ms (ms (ms (ms (ms m0)))))))) (At.got (At.refl.comp Com.a_seq)) rfl ?_
                    refine d_T 12 rfl sb_198_19_12 rfl (y_geq rfl rfl) rfl ?_
                    refine d_nil1 87 sb_198_19_13 rfl rfl ?_
                    refine c_cond rfl (fun h10 => ?_) (fun h10 => ?_)
                    · have hm := cd_t h10 hm
                      refine c_seq ?_
                      refine c_region ?_
                      refine o_L (y_assign rfl) rfl rfl ?_
                      refine o_nil0 rfl ?_
                      refine c_ret ?_
                      obtain ⟨q6, hq6, hm⟩ := bd hm
                      have hm := fl_ret hm hF4
                      have hm := hq6.trans hm
                      obtain ⟨q7, hq7, hm⟩ := bd hm
                      have hm := fl_ret hm hF2
                      have hm := hq7.trans hm
                      obtain rfl := p1 hm
                      refine fun aX wX heX hsX => ret1 Tryz.results198 heX rfl (s_take (s_take (s_take (s_take (s_take (s_take (s_take (s_take (s_skip (s_take s_nil)))))))))) ?_
                      exact ⟨rfl, rfl⟩
                    · have hm := cd_f h10 hm
                      refine c_skip ?_
                      refine c_region ?_
                      refine o_T (y_move rfl) rfl ?_
                      refine o_T (y_add rfl rfl rfl) rfl ?_
                      refine o_L (y_assign rfl) rfl rfl ?_
                      refine o_nil0 rfl ?_
                      exact ⟨mm2, Nat.lt_succ_self _, _, _, ⟨_, rfl, rfl, hm⟩, ⟨rfl, trivial⟩, ⟨rfl, rfl⟩, _, (s_take (s_take (s_take (s_take (s_take (s_take (s_take (s_take (s_take (s_take s_nil))))))))))⟩
                · have hm := cd_f h8 hm
                  refine c_exit ?_
                  have hm := fl_nx hm hF4
                  exact ⟨_, _, ⟨_, rfl, rfl, hm⟩, ⟨rfl, trivial⟩, ⟨rfl, rfl⟩, _, (s_take (s_take (s_take (s_take (s_take (s_take (s_take (s_take (s_take (s_take s_nil))))))))))⟩
              · rintro sh G ⟨c8, rfl, rfl, hm⟩
                subst hF3
                refine c_region ?_
                refine o_T (y_move rfl) rfl ?_
                refine o_T (y_add rfl rfl rfl) rfl ?_
                refine o_L (y_assign rfl) rfl rfl ?_
                refine o_nil0 rfl ?_
                exact ⟨mm1, Nat.lt_succ_self _, _, _, ⟨_, _, rfl, rfl, hm⟩, ⟨rfl, rfl, trivial⟩, ⟨rfl, rfl⟩, _, (s_take (s_take (s_take (s_take (s_take (s_take (s_take (s_take (s_skip (s_take s_nil))))))))))⟩
    · have hm := cd_f h1 hm
      refine c_exit ?_
      have hm := fl_nx hm hF2
      exact ⟨_, _, ⟨_, _, rfl, rfl, hm⟩, ⟨rfl, rfl, trivial⟩, ⟨rfl, rfl⟩, _, (s_take (s_take (s_take (s_take (s_take (s_take (s_take (s_take (s_take s_nil)))))))))⟩
  · rintro sh G ⟨c3, c4, rfl, rfl, hm⟩
    subst hF1
    refine c_seq ?_
    refine c_region ?_
    refine o_L (y_assign rfl) rfl rfl ?_
    refine o_nil0 rfl ?_
    refine c_ret ?_
    obtain rfl := p1 hm
    refine fun aX wX heX hsX => ret1 Tryz.results198 heX rfl (s_take (s_take (s_take (s_take (s_take (s_take (s_take (s_take (s_take s_nil))))))))) ?_
    exact ⟨rfl, rfl⟩
end Go.Proofs.Qxb6500350aGreat
