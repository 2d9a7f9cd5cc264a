/- MADE BY PROGRAM (tools350/mir.py): mirror and walk. -/
import Derived.Test.Qxb6500350aGreatF2
set_option linter.unusedVariables false
set_option linter.unusedSimpArgs false
set_option maxRecDepth 20000
set_option maxHeartbeats 4000000
namespace Go.Proofs.Qxb6500350aGreat
open Go.Eng

def op_252_7 : Array Go.Oper := #[{ dst := some 21, op := Go.Op.move (Go.Operand.tmp 0), type := 57, pos := "status.go:14", after := #[], guard := none }, { dst := some 22, op := Go.Op.move (Go.Operand.tmp 1), type := 3, pos := "status.go:14", after := #[], guard := none }, { dst := some 23, op := Go.Op.indexAddr 57 (Go.Operand.tmp 21) (Go.Operand.tmp 22), type := 0, pos := "status.go:14", after := #[{ on := 0, ground := Go.Ground.data }, { on := 1, ground := Go.Ground.data }], guard := none }, { dst := some 24, op := Go.Op.fieldAddr 71 (Go.Operand.tmp 23) 1, type := 0, pos := "status.go:14", after := #[{ on := 2, ground := Go.Ground.data }], guard := none }, { dst := some 25, op := Go.Op.load 9 (Go.Operand.tmp 24), type := 9, pos := "status.go:14", after := #[{ on := 3, ground := Go.Ground.data }], guard := none }, { dst := some 26, op := Go.Op.move (Go.Operand.tmp 2), type := 57, pos := "status.go:14", after := #[], guard := none }, { dst := some 27, op := Go.Op.move (Go.Operand.tmp 3), type := 3, pos := "status.go:14", after := #[], guard := none }, { dst := some 28, op := Go.Op.indexAddr 57 (Go.Operand.tmp 26) (Go.Operand.tmp 27), type := 0, pos := "status.go:14", after := #[{ on := 5, ground := Go.Ground.data }, { on := 6, ground := Go.Ground.data }], guard := none }, { dst := some 29, op := Go.Op.fieldAddr 71 (Go.Operand.tmp 28) 1, type := 0, pos := "status.go:14", after := #[{ on := 7, ground := Go.Ground.data }], guard := none }, { dst := some 30, op := Go.Op.load 9 (Go.Operand.tmp 29), type := 9, pos := "status.go:14", after := #[{ on := 8, ground := Go.Ground.data }], guard := none }, { dst := some 31, op := Go.Op.binOp Go.BinOp.neq 9 (Go.Operand.tmp 25) (Go.Operand.tmp 30) 9, type := 4, pos := "status.go:14", after := #[{ on := 4, ground := Go.Ground.data }, { on := 9, ground := Go.Ground.data }], guard := none }, { dst := some 32, op := Go.Op.move (Go.Operand.tmp 31), type := 4, pos := "status.go:14", after := #[{ on := 10, ground := Go.Ground.data }], guard := none }, { dst := some 33, op := Go.Op.move (Go.Operand.tmp 4), type := 4, pos := "status.go:14", after := #[{ on := 11, ground := Go.Ground.guard }], guard := some (11, false) }, { dst := some 34, op := Go.Op.move (Go.Operand.tmp 33), type := 4, pos := "status.go:14", after := #[{ on := 12, ground := Go.Ground.data }, { on := 11, ground := Go.Ground.chain }, { on := 11, ground := Go.Ground.guard }], guard := some (11, false) }, { dst := some 35, op := Go.Op.move (Go.Operand.tmp 0), type := 57, pos := "status.go:14", after := #[{ on := 13, ground := Go.Ground.guard }], guard := some (13, true) }, { dst := some 36, op := Go.Op.move (Go.Operand.tmp 1), type := 3, pos := "status.go:14", after := #[{ on := 13, ground := Go.Ground.guard }], guard := some (13, true) }, { dst := some 37, op := Go.Op.indexAddr 57 (Go.Operand.tmp 35) (Go.Operand.tmp 36), type := 0, pos := "status.go:14", after := #[{ on := 14, ground := Go.Ground.data }, { on := 15, ground := Go.Ground.data }, { on := 13, ground := Go.Ground.guard }], guard := some (13, true) }, { dst := some 38, op := Go.Op.fieldAddr 71 (Go.Operand.tmp 37) 2, type := 0, pos := "status.go:14", after := #[{ on := 16, ground := Go.Ground.data }, { on := 13, ground := Go.Ground.guard }], guard := some (13, true) }, { dst := some 39, op := Go.Op.load 3 (Go.Operand.tmp 38), type := 3, pos := "status.go:14", after := #[{ on := 17, ground := Go.Ground.data }, { on := 13, ground := Go.Ground.guard }], guard := some (13, true) }, { dst := some 40, op := Go.Op.move (Go.Operand.tmp 2), type := 57, pos := "status.go:14", after := #[{ on := 13, ground := Go.Ground.guard }], guard := some (13, true) }, { dst := some 41, op := Go.Op.move (Go.Operand.tmp 3), type := 3, pos := "status.go:14", after := #[{ on := 13, ground := Go.Ground.guard }], guard := some (13, true) }, { dst := some 42, op := Go.Op.indexAddr 57 (Go.Operand.tmp 40) (Go.Operand.tmp 41), type := 0, pos := "status.go:14", after := #[{ on := 19, ground := Go.Ground.data }, { on := 20, ground := Go.Ground.data }, { on := 13, ground := Go.Ground.guard }], guard := some (13, true) }, { dst := some 43, op := Go.Op.fieldAddr 71 (Go.Operand.tmp 42) 2, type := 0, pos := "status.go:14", after := #[{ on := 21, ground := Go.Ground.data }, { on := 13, ground := Go.Ground.guard }], guard := some (13, true) }, { dst := some 44, op := Go.Op.load 3 (Go.Operand.tmp 43), type := 3, pos := "status.go:14", after := #[{ on := 22, ground := Go.Ground.data }, { on := 13, ground := Go.Ground.guard }], guard := some (13, true) }, { dst := some 45, op := Go.Op.binOp Go.BinOp.neq 3 (Go.Operand.tmp 39) (Go.Operand.tmp 44) 3, type := 4, pos := "status.go:14", after := #[{ on := 18, ground := Go.Ground.data }, { on := 23, ground := Go.Ground.data }, { on := 13, ground := Go.Ground.guard }], guard := some (13, true) }, { dst := some 46, op := Go.Op.pick (Go.Operand.tmp 34) (Go.Operand.tmp 45) (Go.Operand.const (Go.Value.bool false)), type := 4, pos := "status.go:14", after := #[{ on := 13, ground := Go.Ground.data }, { on := 24, ground := Go.Ground.data }, { on := 11, ground := Go.Ground.guard }], guard := some (11, false) }, { dst := some 47, op := Go.Op.pick (Go.Operand.tmp 32) (Go.Operand.const (Go.Value.bool true)) (Go.Operand.tmp 46), type := 4, pos := "status.go:14", after := #[{ on := 11, ground := Go.Ground.data }, { on := 25, ground := Go.Ground.data }], guard := none }]
theorem sb_252_7_0 : softB op_252_7 #[true, true, true, true, true, true, true, true, true, true, true, true, true, true, true, true, true, true, true, true, true, true, true, true, true, true, true] (Array.replicate 27 false) 0 = true := by kernel_rfl
theorem sb_252_7_1 : softB op_252_7 #[true, true, true, true, true, true, true, true, true, true, true, true, true, true, true, true, true, true, true, true, true, true, true, true, true, true, true] ((Array.replicate 27 false).setIfInBounds 0 true) 1 = true := by kernel_rfl
theorem sb_252_7_2 : softB op_252_7 #[true, true, true, true, true, true, true, true, true, true, true, true, true, true, true, true, true, true, true, true, true, true, true, true, true, true, true] (((Array.replicate 27 false).setIfInBounds 0 true).setIfInBounds 1 true) 2 = true := by kernel_rfl
theorem sb_252_7_3 : softB op_252_7 #[true, true, true, true, true, true, true, true, true, true, true, true, true, true, true, true, true, true, true, true, true, true, true, true, true, true, true] ((((Array.replicate 27 false).setIfInBounds 0 true).setIfInBounds 1 true).setIfInBounds 2 true) 3 = true := by kernel_rfl
theorem sb_252_7_4 : softB op_252_7 #[true, true, true, true, true, true, true, true, true, true, true, true, true, true, true, true, true, true, true, true, true, true, true, true, true, true, true] (((((Array.replicate 27 false).setIfInBounds 0 true).setIfInBounds 1 true).setIfInBounds 2 true).setIfInBounds 3 true) 4 = true := by kernel_rfl
theorem sb_252_7_5 : softB op_252_7 #[true, true, true, true, true, true, true, true, true, true, true, true, true, true, true, true, true, true, true, true, true, true, true, true, true, true, true] ((((((Array.replicate 27 false).setIfInBounds 0 true).setIfInBounds 1 true).setIfInBounds 2 true).setIfInBounds 3 true).setIfInBounds 4 true) 5 = true := by kernel_rfl
theorem sb_252_7_6 : softB op_252_7 #[true, true, true, true, true, true, true, true, true, true, true, true, true, true, true, true, true, true, true, true, true, true, true, true, true, true, true] (((((((Array.replicate 27 false).setIfInBounds 0 true).setIfInBounds 1 true).setIfInBounds 2 true).setIfInBounds 3 true).setIfInBounds 4 true).setIfInBounds 5 true) 6 = true := by kernel_rfl
theorem sb_252_7_7 : softB op_252_7 #[true, true, true, true, true, true, true, true, true, true, true, true, true, true, true, true, true, true, true, true, true, true, true, true, true, true, true] ((((((((Array.replicate 27 false).setIfInBounds 0 true).setIfInBounds 1 true).setIfInBounds 2 true).setIfInBounds 3 true).setIfInBounds 4 true).setIfInBounds 5 true).setIfInBounds 6 true) 7 = true := by kernel_rfl
theorem sb_252_7_8 : softB op_252_7 #[true, true, true, true, true, true, true, true, true, true, true, true, true, true, true, true, true, true, true, true, true, true, true, true, true, true, true] (((((((((Array.replicate 27 false).setIfInBounds 0 true).setIfInBounds 1 true).setIfInBounds 2 true).setIfInBounds 3 true).setIfInBounds 4 true).setIfInBounds 5 true).setIfInBounds 6 true).setIfInBounds 7 true) 8 = true := by kernel_rfl
theorem sb_252_7_9 : softB op_252_7 #[true, true, true, true, true, true, true, true, true, true, true, true, true, true, true, true, true, true, true, true, true, true, true, true, true, true, true] ((((((((((Array.replicate 27 false).setIfInBounds 0 true).setIfInBounds 1 true).setIfInBounds 2 true).setIfInBounds 3 true).setIfInBounds 4 true).setIfInBounds 5 true).setIfInBounds 6 true).setIfInBounds 7 true).setIfInBounds 8 true) 9 = true := by kernel_rfl
theorem sb_252_7_10 : softB op_252_7 #[true, true, true, true, true, true, true, true, true, true, true, true, true, true, true, true, true, true, true, true, true, true, true, true, true, true, true] (((((((((((Array.replicate 27 false).setIfInBounds 0 true).setIfInBounds 1 true).setIfInBounds 2 true).setIfInBounds 3 true).setIfInBounds 4 true).setIfInBounds 5 true).setIfInBounds 6 true).setIfInBounds 7 true).setIfInBounds 8 true).setIfInBounds 9 true) 10 = true := by kernel_rfl
theorem sb_252_7_11 : softB op_252_7 #[true, true, true, true, true, true, true, true, true, true, true, true, true, true, true, true, true, true, true, true, true, true, true, true, true, true, true] ((((((((((((Array.replicate 27 false).setIfInBounds 0 true).setIfInBounds 1 true).setIfInBounds 2 true).setIfInBounds 3 true).setIfInBounds 4 true).setIfInBounds 5 true).setIfInBounds 6 true).setIfInBounds 7 true).setIfInBounds 8 true).setIfInBounds 9 true).setIfInBounds 10 true) 11 = true := by kernel_rfl
theorem sb_252_7_12 : softB op_252_7 #[true, true, true, true, true, true, true, true, true, true, true, true, true, true, true, true, true, true, true, true, true, true, true, true, true, true, true] (((((((((((((Array.replicate 27 false).setIfInBounds 0 true).setIfInBounds 1 true).setIfInBounds 2 true).setIfInBounds 3 true).setIfInBounds 4 true).setIfInBounds 5 true).setIfInBounds 6 true).setIfInBounds 7 true).setIfInBounds 8 true).setIfInBounds 9 true).setIfInBounds 10 true).setIfInBounds 11 true) 12 = true := by kernel_rfl
theorem sb_252_7_13 : softB op_252_7 #[true, true, true, true, true, true, true, true, true, true, true, true, true, true, true, true, true, true, true, true, true, true, true, true, true, true, true] ((((((((((((((Array.replicate 27 false).setIfInBounds 0 true).setIfInBounds 1 true).setIfInBounds 2 true).setIfInBounds 3 true).setIfInBounds 4 true).setIfInBounds 5 true).setIfInBounds 6 true).setIfInBounds 7 true).setIfInBounds 8 true).setIfInBounds 9 true).setIfInBounds 10 true).setIfInBounds 11 true).setIfInBounds 12 true) 13 = true := by kernel_rfl
theorem sb_252_7_14 : softB op_252_7 #[true, true, true, true, true, true, true, true, true, true, true, true, true, true, true, true, true, true, true, true, true, true, true, true, true, true, true] (((((((((((((((Array.replicate 27 false).setIfInBounds 0 true).setIfInBounds 1 true).setIfInBounds 2 true).setIfInBounds 3 true).setIfInBounds 4 true).setIfInBounds 5 true).setIfInBounds 6 true).setIfInBounds 7 true).setIfInBounds 8 true).setIfInBounds 9 true).setIfInBounds 10 true).setIfInBounds 11 true).setIfInBounds 12 true).setIfInBounds 13 true) 14 = true := by kernel_rfl
theorem sb_252_7_15 : softB op_252_7 #[true, true, true, true, true, true, true, true, true, true, true, true, true, true, true, true, true, true, true, true, true, true, true, true, true, true, true] ((((((((((((((((Array.replicate 27 false).setIfInBounds 0 true).setIfInBounds 1 true).setIfInBounds 2 true).setIfInBounds 3 true).setIfInBounds 4 true).setIfInBounds 5 true).setIfInBounds 6 true).setIfInBounds 7 true).setIfInBounds 8 true).setIfInBounds 9 true).setIfInBounds 10 true).setIfInBounds 11 true).setIfInBounds 12 true).setIfInBounds 13 true).setIfInBounds 14 true) 15 = true := by kernel_rfl
theorem sb_252_7_16 : softB op_252_7 #[true, true, true, true, true, true, true, true, true, true, true, true, true, true, true, true, true, true, true, true, true, true, true, true, true, true, true] (((((((((((((((((Array.replicate 27 false).setIfInBounds 0 true).setIfInBounds 1 true).setIfInBounds 2 true).setIfInBounds 3 true).setIfInBounds 4 true).setIfInBounds 5 true).setIfInBounds 6 true).setIfInBounds 7 true).setIfInBounds 8 true).setIfInBounds 9 true).setIfInBounds 10 true).setIfInBounds 11 true).setIfInBounds 12 true).setIfInBounds 13 true).setIfInBounds 14 true).setIfInBounds 15 true) 16 = true := by kernel_rfl
theorem sb_252_7_17 : softB op_252_7 #[true, true, true, true, true, true, true, true, true, true, true, true, true, true, true, true, true, true, true, true, true, true, true, true, true, true, true] ((((((((((((((((((Array.replicate 27 false).setIfInBounds 0 true).setIfInBounds 1 true).setIfInBounds 2 true).setIfInBounds 3 true).setIfInBounds 4 true).setIfInBounds 5 true).setIfInBounds 6 true).setIfInBounds 7 true).setIfInBounds 8 true).setIfInBounds 9 true).setIfInBounds 10 true).setIfInBounds 11 true).setIfInBounds 12 true).setIfInBounds 13 true).setIfInBounds 14 true).setIfInBounds 15 true).setIfInBounds 16 true) 17 = true := by kernel_rfl
theorem sb_252_7_18 : softB op_252_7 #[true, true, true, true, true, true, true, true, true, true, true, true, true, true, true, true, true, true, true, true, true, true, true, true, true, true, true] (((((((((((((((((((Array.replicate 27 false).setIfInBounds 0 true).setIfInBounds 1 true).setIfInBounds 2 true).setIfInBounds 3 true).setIfInBounds 4 true).setIfInBounds 5 true).setIfInBounds 6 true).setIfInBounds 7 true).setIfInBounds 8 true).setIfInBounds 9 true).setIfInBounds 10 true).setIfInBounds 11 true).setIfInBounds 12 true).setIfInBounds 13 true).setIfInBounds 14 true).setIfInBounds 15 true).setIfInBounds 16 true).setIfInBounds 17 true) 18 = true := by kernel_rfl
theorem sb_252_7_19 : softB op_252_7 #[true, true, true, true, true, true, true, true, true, true, true, true, true, true, true, true, true, true, true, true, true, true, true, true, true, true, true] ((((((((((((((((((((Array.replicate 27 false).setIfInBounds 0 true).setIfInBounds 1 true).setIfInBounds 2 true).setIfInBounds 3 true).setIfInBounds 4 true).setIfInBounds 5 true).setIfInBounds 6 true).setIfInBounds 7 true).setIfInBounds 8 true).setIfInBounds 9 true).setIfInBounds 10 true).setIfInBounds 11 true).setIfInBounds 12 true).setIfInBounds 13 true).setIfInBounds 14 true).setIfInBounds 15 true).setIfInBounds 16 true).setIfInBounds 17 true).setIfInBounds 18 true) 19 = true := by kernel_rfl
theorem sb_252_7_20 : softB op_252_7 #[true, true, true, true, true, true, true, true, true, true, true, true, true, true, true, true, true, true, true, true, true, true, true, true, true, true, true] (((((((((((((((((((((Array.replicate 27 false).setIfInBounds 0 true).setIfInBounds 1 true).setIfInBounds 2 true).setIfInBounds 3 true).setIfInBounds 4 true).setIfInBounds 5 true).setIfInBounds 6 true).setIfInBounds 7 true).setIfInBounds 8 true).setIfInBounds 9 true).setIfInBounds 10 true).setIfInBounds 11 true).setIfInBounds 12 true).setIfInBounds 13 true).setIfInBounds 14 true).setIfInBounds 15 true).setIfInBounds 16 true).setIfInBounds 17 true).setIfInBounds 18 true).setIfInBounds 19 true) 20 = true := by kernel_rfl
theorem sb_252_7_21 : softB op_252_7 #[true, true, true, true, true, true, true, true, true, true, true, true, true, true, true, true, true, true, true, true, true, true, true, true, true, true, true] ((((((((((((((((((((((Array.replicate 27 false).setIfInBounds 0 true).setIfInBounds 1 true).setIfInBounds 2 true).setIfInBounds 3 true).setIfInBounds 4 true).setIfInBounds 5 true).setIfInBounds 6 true).setIfInBounds 7 true).setIfInBounds 8 true).setIfInBounds 9 true).setIfInBounds 10 true).setIfInBounds 11 true).setIfInBounds 12 true).setIfInBounds 13 true).setIfInBounds 14 true).setIfInBounds 15 true).setIfInBounds 16 true).setIfInBounds 17 true).setIfInBounds 18 true).setIfInBounds 19 true).setIfInBounds 20 true) 21 = true := by kernel_rfl
theorem sb_252_7_22 : softB op_252_7 #[true, true, true, true, true, true, true, true, true, true, true, true, true, true, true, true, true, true, true, true, true, true, true, true, true, true, true] (((((((((((((((((((((((Array.replicate 27 false).setIfInBounds 0 true).setIfInBounds 1 true).setIfInBounds 2 true).setIfInBounds 3 true).setIfInBounds 4 true).setIfInBounds 5 true).setIfInBounds 6 true).setIfInBounds 7 true).setIfInBounds 8 true).setIfInBounds 9 true).setIfInBounds 10 true).setIfInBounds 11 true).setIfInBounds 12 true).setIfInBounds 13 true).setIfInBounds 14 true).setIfInBounds 15 true).setIfInBounds 16 true).setIfInBounds 17 true).setIfInBounds 18 true).setIfInBounds 19 true).setIfInBounds 20 true).setIfInBounds 21 true) 22 = true := by kernel_rfl
theorem sb_252_7_23 : softB op_252_7 #[true, true, true, true, true, true, true, true, true, true, true, true, true, true, true, true, true, true, true, true, true, true, true, true, true, true, true] ((((((((((((((((((((((((Array.replicate 27 false).setIfInBounds 0 true).setIfInBounds 1 true).setIfInBounds 2 true).setIfInBounds 3 true).setIfInBounds 4 true).setIfInBounds 5 true).setIfInBounds 6 true).setIfInBounds 7 true).setIfInBounds 8 true).setIfInBounds 9 true).setIfInBounds 10 true).setIfInBounds 11 true).setIfInBounds 12 true).setIfInBounds 13 true).setIfInBounds 14 true).setIfInBounds 15 true).setIfInBounds 16 true).setIfInBounds 17 true).setIfInBounds 18 true).setIfInBounds 19 true).setIfInBounds 20 true).setIfInBounds 21 true).setIfInBounds 22 true) 23 = true := by kernel_rfl
theorem sb_252_7_24 : softB op_252_7 #[true, true, true, true, true, true, true, true, true, true, true, true, true, true, true, true, true, true, true, true, true, true, true, true, true, true, true] (((((((((((((((((((((((((Array.replicate 27 false).setIfInBounds 0 true).setIfInBounds 1 true).setIfInBounds 2 true).setIfInBounds 3 true).setIfInBounds 4 true).setIfInBounds 5 true).setIfInBounds 6 true).setIfInBounds 7 true).setIfInBounds 8 true).setIfInBounds 9 true).setIfInBounds 10 true).setIfInBounds 11 true).setIfInBounds 12 true).setIfInBounds 13 true).setIfInBounds 14 true).setIfInBounds 15 true).setIfInBounds 16 true).setIfInBounds 17 true).setIfInBounds 18 true).setIfInBounds 19 true).setIfInBounds 20 true).setIfInBounds 21 true).setIfInBounds 22 true).setIfInBounds 23 true) 24 = true := by kernel_rfl
theorem sb_252_7_25 : softB op_252_7 #[true, true, true, true, true, true, true, true, true, true, true, true, true, true, true, true, true, true, true, true, true, true, true, true, true, true, true] ((((((((((((((((((((((((((Array.replicate 27 false).setIfInBounds 0 true).setIfInBounds 1 true).setIfInBounds 2 true).setIfInBounds 3 true).setIfInBounds 4 true).setIfInBounds 5 true).setIfInBounds 6 true).setIfInBounds 7 true).setIfInBounds 8 true).setIfInBounds 9 true).setIfInBounds 10 true).setIfInBounds 11 true).setIfInBounds 12 true).setIfInBounds 13 true).setIfInBounds 14 true).setIfInBounds 15 true).setIfInBounds 16 true).setIfInBounds 17 true).setIfInBounds 18 true).setIfInBounds 19 true).setIfInBounds 20 true).setIfInBounds 21 true).setIfInBounds 22 true).setIfInBounds 23 true).setIfInBounds 24 true) 25 = true := by kernel_rfl
theorem sb_252_7_26 : softB op_252_7 #[true, true, true, true, true, true, true, true, true, true, true, true, true, true, true, true, true, true, true, true, true, true, true, true, true, true, true] (((((((((((((((((((((((((((Array.replicate 27 false).setIfInBounds 0 true).setIfInBounds 1 true).setIfInBounds 2 true).setIfInBounds 3 true).setIfInBounds 4 true).setIfInBounds 5 true).setIfInBounds 6 true).setIfInBounds 7 true).setIfInBounds 8 true).setIfInBounds 9 true).setIfInBounds 10 true).setIfInBounds 11 true).setIfInBounds 12 true).setIfInBounds 13 true).setIfInBounds 14 true).setIfInBounds 15 true).setIfInBounds 16 true).setIfInBounds 17 true).setIfInBounds 18 true).setIfInBounds 19 true).setIfInBounds 20 true).setIfInBounds 21 true).setIfInBounds 22 true).setIfInBounds 23 true).setIfInBounds 24 true).setIfInBounds 25 true) 26 = true := by kernel_rfl
theorem sb_252_7_27 : hardB op_252_7 ((((((((((((((((((((((((((((Array.replicate 27 false).setIfInBounds 0 true).setIfInBounds 1 true).setIfInBounds 2 true).setIfInBounds 3 true).setIfInBounds 4 true).setIfInBounds 5 true).setIfInBounds 6 true).setIfInBounds 7 true).setIfInBounds 8 true).setIfInBounds 9 true).setIfInBounds 10 true).setIfInBounds 11 true).setIfInBounds 12 true).setIfInBounds 13 true).setIfInBounds 14 true).setIfInBounds 15 true).setIfInBounds 16 true).setIfInBounds 17 true).setIfInBounds 18 true).setIfInBounds 19 true).setIfInBounds 20 true).setIfInBounds 21 true).setIfInBounds 22 true).setIfInBounds 23 true).setIfInBounds 24 true).setIfInBounds 25 true).setIfInBounds 26 true) [] = true := by kernel_rfl
/- api.code -/
def m252 (n : Nat) (before : (List File)) (i : Int) (now : (List File)) (j : Int) (withMode : Bool) : Option (Int) :=
cond ((decide (i < 0)) && (decide (j < 0))) (
some 0) (
cond (decide (i < 0)) (
some 1) (
cond (decide (j < 0)) (
some 3) (
ob1 (Option.bind (ixL before i) fun x1 =>
Option.bind (ixL now j) fun x2 =>
cond (!(decide (x1.data = x2.data))) (some (true)) (cond withMode (Option.bind (ixL before i) fun x3 =>
Option.bind (ixL now j) fun x4 =>
some ((decide (¬ (x3.mode = x4.mode))))) (some (false)))) fun c1 =>
cond c1 (
some 2) (
some 0))))
theorem t252 {n : Nat} {C : List Chunk} {rc1 : Int} {v1 : Value} {before : (List File)} {i : Int} {v2 : Value} {now : (List File)} {j : Int} {withMode : Bool} (hr1 : Rd rFile C v1 before) (hr2 : Rd rFile C v2 now)  (hm : m252 n before i now j withMode = some rc1) : Trip Tryz.prog 252 #[v1, .int .i64 i, v2, .int .i64 j, .bool withMode] ([] ++ [C]) (fun u S' => .int .i64 rc1 = u ∧ S' = [] ++ [C]) := by
  refine fn_entry (args := [v1, .int .i64 i, v2, .int .i64 j, .bool withMode]) Tryz.func252 rfl Tryz.ntmps252 rfl (fun w0 => ?_)
  refine c_seq ?_
  refine c_region ?_
  refine o_L (y_assign rfl) rfl rfl ?_
  refine o_nil0 rfl ?_
  refine c_seq ?_
  refine c_seq ?_
  refine c_joinP (n := 0) (fun sh G => sh = [(16, .bool ((decide (i < 0)) && (decide (j < 0))))] ∧ G = []) Sel.all' .z (fun _ _ h => h) ?_ ?_
  · skip
    refine c_region ?_
    refine o_T (y_move rfl) rfl ?_
    refine o_T (y_lss rfl rfl) rfl ?_
    refine o_T (y_move rfl) rfl ?_
    refine o_split 13 rfl (fun h1 => ?_) (fun h1 => ?_)
    · skip
      refine o_take rfl rfl rfl ?_
      refine o_T (y_move rfl) rfl ?_
      refine o_take rfl rfl rfl ?_
      refine o_T (y_lss rfl rfl) rfl ?_
      refine o_T (y_pickT rfl rfl) rfl ?_
      refine o_nil1 16 rfl rfl ?_
      refine ⟨_, _, ⟨rfl, rfl⟩, ⟨by first | rfl | exact gtb rfl (by simp only [h1, Bool.true_and, Bool.false_and, Bool.true_or, Bool.false_or, Bool.and_true, Bool.and_false, Bool.or_true, Bool.or_false, Bool.not_true, Bool.not_false]), trivial⟩, ⟨rfl, rfl⟩, _, (s_take s_nil)⟩
    · skip
      refine o_pass rfl rfl rfl rfl rfl ?_
      refine o_pass rfl rfl rfl rfl rfl ?_
      refine o_T (y_pickF rfl rfl) rfl ?_
      refine o_nil1 16 rfl rfl ?_
      refine ⟨_, _, ⟨rfl, rfl⟩, ⟨by first | rfl | exact gtb rfl (by simp only [h1, Bool.true_and, Bool.false_and, Bool.true_or, Bool.false_or, Bool.and_true, Bool.and_false, Bool.or_true, Bool.or_false, Bool.not_true, Bool.not_false]), trivial⟩, ⟨rfl, rfl⟩, _, (s_take s_nil)⟩
  · rintro sh G ⟨rfl, rfl⟩
    refine c_cond rfl (fun h2 => ?_) (fun h2 => ?_)
    · have hm := cd_t h2 hm
      refine c_seq ?_
      refine c_region ?_
      refine o_L (y_assign rfl) rfl rfl ?_
      refine o_nil0 rfl ?_
      refine c_ret ?_
      obtain rfl := p1 hm
      refine fun aX wX heX hsX => ret1 Tryz.results252 heX rfl (s_take s_nil) ?_
      exact ⟨rfl, rfl⟩
    · have hm := cd_f h2 hm
      refine c_skip ?_
      refine c_seq ?_
      refine c_seq ?_
      refine c_region ?_
      refine o_T (y_move rfl) rfl ?_
      refine o_T (y_lss rfl rfl) rfl ?_
      refine o_nil1 18 rfl rfl ?_
      refine c_cond rfl (fun h3 => ?_) (fun h3 => ?_)
      · have hm := cd_t h3 hm
        refine c_seq ?_
        refine c_region ?_
        refine o_L (y_assign rfl) rfl rfl ?_
        refine o_nil0 rfl ?_
        refine c_ret ?_
        obtain rfl := p1 hm
        refine fun aX wX heX hsX => ret1 Tryz.results252 heX rfl (s_take s_nil) ?_
        exact ⟨rfl, rfl⟩
      · have hm := cd_f h3 hm
        refine c_skip ?_
        refine c_seq ?_
        refine c_seq ?_
        refine c_region ?_
        refine o_T (y_move rfl) rfl ?_
        refine o_T (y_lss rfl rfl) rfl ?_
        refine o_nil1 20 rfl rfl ?_
        refine c_cond rfl (fun h4 => ?_) (fun h4 => ?_)
        · have hm := cd_t h4 hm
          refine c_seq ?_
          refine c_region ?_
          refine o_L (y_assign rfl) rfl rfl ?_
          refine o_nil0 rfl ?_
          refine c_ret ?_
          obtain rfl := p1 hm
          refine fun aX wX heX hsX => ret1 Tryz.results252 heX rfl (s_take s_nil) ?_
          exact ⟨rfl, rfl⟩
        · have hm := cd_f h4 hm
          refine c_skip ?_
          refine c_seq ?_
          refine c_seq ?_
          obtain ⟨c1, hj1, hm⟩ := bd1 hm
          refine c_joinP (n := 0) (fun sh G => sh = [(47, .bool c1)] ∧ G = []) Sel.all' .z (fun _ _ h => h) ?_ ?_
          · have hm := hj1
            refine c_draw #[true, true, true, true, true, true, true, true, true, true, true, true, true, true, true, true, true, true, true, true, true, true, true, true, true, true, true] rfl (n := 27) rfl ?_
            refine d_T 0 rfl sb_252_7_0 rfl (y_move rfl) rfl ?_
            refine d_T 1 rfl sb_252_7_1 rfl (y_move rfl) rfl ?_
            obtain ⟨x1, hx1, hm⟩ := bd hm
            obtain ⟨b1, w1, cs1, y1, z1, vs1, hc1, ha1, hr3, hy1⟩ := hr1.ix hx1
            obtain rfl : vs1 = File.enc x1 := hr3
            refine d_T 2 rfl sb_252_7_2 rfl (hy1 sl_57 rfl rfl rfl) rfl ?_
            refine d_T 3 rfl sb_252_7_3 rfl (y_fa fl_71_1 rfl) rfl ?_
            refine d_ld 4 rfl sb_252_7_4 one_9 rfl (fun x hx => hx) (mg hc1) (At.getA (ha1.comp File.a_data)) rfl ?_
            refine d_T 5 rfl sb_252_7_5 rfl (y_move rfl) rfl ?_
            refine d_T 6 rfl sb_252_7_6 rfl (y_move rfl) rfl ?_
            obtain ⟨x2, hx2, hm⟩ := bd hm
            obtain ⟨b2, w2, cs2, y2, z2, vs2, hc2, ha2, hr4, hy2⟩ := hr2.ix hx2
            obtain rfl : vs2 = File.enc x2 := hr4
            refine d_T 7 rfl sb_252_7_7 rfl (hy2 sl_57 rfl rfl rfl) rfl ?_
            refine d_T 8 rfl sb_252_7_8 rfl (y_fa fl_71_1 rfl) rfl ?_
            refine d_ld 9 rfl sb_252_7_9 one_9 rfl (fun x hx => hx) (mg hc2) (At.getA (ha2.comp File.a_data)) rfl ?_
            refine d_T 10 rfl sb_252_7_10 rfl (y_sne rfl rfl) rfl ?_
            refine d_T 11 rfl sb_252_7_11 rfl (y_move rfl) rfl ?_
            refine d_split 32 rfl (fun h5 => ?_) (fun h5 => ?_)
            · have hm := cd_t h5 hm
              refine d_pass 12 rfl rfl rfl rfl rfl sb_252_7_12 (fun x hx => hx) rfl ?_
              refine d_pass 13 rfl rfl rfl rfl rfl sb_252_7_13 (fun x hx => hx) rfl ?_
              refine d_passU 14 rfl rfl rfl rfl sb_252_7_14 (fun x hx => hx) rfl ?_
              refine d_passU 15 rfl rfl rfl rfl sb_252_7_15 (fun x hx => hx) rfl ?_
              refine d_passU 16 rfl rfl rfl rfl sb_252_7_16 (fun x hx => hx) rfl ?_
              refine d_passU 17 rfl rfl rfl rfl sb_252_7_17 (fun x hx => hx) rfl ?_
              refine d_passU 18 rfl rfl rfl rfl sb_252_7_18 (fun x hx => hx) rfl ?_
              refine d_passU 19 rfl rfl rfl rfl sb_252_7_19 (fun x hx => hx) rfl ?_
              refine d_passU 20 rfl rfl rfl rfl sb_252_7_20 (fun x hx => hx) rfl ?_
              refine d_passU 21 rfl rfl rfl rfl sb_252_7_21 (fun x hx => hx) rfl ?_
              refine d_passU 22 rfl rfl rfl rfl sb_252_7_22 (fun x hx => hx) rfl ?_
              refine d_passU 23 rfl rfl rfl rfl sb_252_7_23 (fun x hx => hx) rfl ?_
              refine d_passU 24 rfl rfl rfl rfl sb_252_7_24 (fun x hx => hx) rfl ?_
              refine d_pass 25 rfl rfl rfl rfl rfl sb_252_7_25 (fun x hx => hx) rfl ?_
              refine d_T 26 rfl sb_252_7_26 rfl (y_pickT rfl rfl) rfl ?_
              refine d_nil1 47 sb_252_7_27 rfl rfl ?_
              obtain rfl := p1 hm
              exact ⟨_, _, ⟨rfl, rfl⟩, ⟨rfl, trivial⟩, ⟨rfl, rfl⟩, _, (s_take s_nil)⟩
            · have hm := cd_f h5 hm
              refine d_Tg 12 rfl rfl rfl rfl sb_252_7_12 rfl (y_move rfl) rfl ?_
              refine d_Tg 13 rfl rfl rfl rfl sb_252_7_13 rfl (y_move rfl) rfl ?_
              refine d_split 34 rfl (fun h6 => ?_) (fun h6 => ?_)
              · have hm := cd_t h6 hm
                refine d_Tg 14 rfl rfl rfl rfl sb_252_7_14 rfl (y_move rfl) rfl ?_
                refine d_Tg 15 rfl rfl rfl rfl sb_252_7_15 rfl (y_move rfl) rfl ?_
                obtain ⟨x3, hx3, hm⟩ := bd hm
                obtain ⟨b3, w3, cs3, y3, z3, vs3, hc3, ha3, hr5, hy3⟩ := hr1.ix hx3
                obtain rfl : vs3 = File.enc x3 := hr5
                refine d_Tg 16 rfl rfl rfl rfl sb_252_7_16 rfl (hy3 sl_57 rfl rfl rfl) rfl ?_
                refine d_Tg 17 rfl rfl rfl rfl sb_252_7_17 rfl (y_fa fl_71_2 rfl) rfl ?_
                refine d_ldt 18 rfl rfl rfl rfl sb_252_7_18 one_3 rfl (fun x hx => hx) (mg hc3) (At.getA (ha3.comp File.a_mode)) rfl ?_
                refine d_Tg 19 rfl rfl rfl rfl sb_252_7_19 rfl (y_move rfl) rfl ?_
                refine d_Tg 20 rfl rfl rfl rfl sb_252_7_20 rfl (y_move rfl) rfl ?_
                obtain ⟨x4, hx4, hm⟩ := bd hm
                obtain ⟨b4, w4, cs4, y4, z4, vs4, hc4, ha4, hr6, hy4⟩ := hr2.ix hx4
                obtain rfl : vs4 = File.enc x4 := hr6
                refine d_Tg 21 rfl rfl rfl rfl sb_252_7_21 rfl (hy4 sl_57 rfl rfl rfl) rfl ?_
                refine d_Tg 22 rfl rfl rfl rfl sb_252_7_22 rfl (y_fa fl_71_2 rfl) rfl ?_
                refine d_ldt 23 rfl rfl rfl rfl sb_252_7_23 one_3 rfl (fun x hx => hx) (mg hc4) (At.getA (ha4.comp File.a_mode)) rfl ?_
                refine d_Tg 24 rfl rfl rfl rfl sb_252_7_24 rfl (y_neq rfl rfl) rfl ?_
                refine d_Tg 25 rfl rfl rfl rfl sb_252_7_25 rfl (y_pickT rfl rfl) rfl ?_
                refine d_T 26 rfl sb_252_7_26 rfl (y_pickF rfl rfl) rfl ?_
                refine d_nil1 47 sb_252_7_27 rfl rfl ?_
                obtain rfl := p1 hm
                exact ⟨_, _, ⟨rfl, rfl⟩, ⟨rfl, trivial⟩, ⟨rfl, rfl⟩, _, (s_take s_nil)⟩
              · have hm := cd_f h6 hm
                refine d_pass 14 rfl rfl rfl rfl rfl sb_252_7_14 (fun x hx => hx) rfl ?_
                refine d_pass 15 rfl rfl rfl rfl rfl sb_252_7_15 (fun x hx => hx) rfl ?_
                refine d_pass 16 rfl rfl rfl rfl rfl sb_252_7_16 (fun x hx => hx) rfl ?_
                refine d_pass 17 rfl rfl rfl rfl rfl sb_252_7_17 (fun x hx => hx) rfl ?_
                refine d_pass 18 rfl rfl rfl rfl rfl sb_252_7_18 (fun x hx => hx) rfl ?_
                refine d_pass 19 rfl rfl rfl rfl rfl sb_252_7_19 (fun x hx => hx) rfl ?_
                refine d_pass 20 rfl rfl rfl rfl rfl sb_252_7_20 (fun x hx => hx) rfl ?_
                refine d_pass 21 rfl rfl rfl rfl rfl sb_252_7_21 (fun x hx => hx) rfl ?_
                refine d_pass 22 rfl rfl rfl rfl rfl sb_252_7_22 (fun x hx => hx) rfl ?_
                refine d_pass 23 rfl rfl rfl rfl rfl sb_252_7_23 (fun x hx => hx) rfl ?_
                refine d_pass 24 rfl rfl rfl rfl rfl sb_252_7_24 (fun x hx => hx) rfl ?_
                refine d_Tg 25 rfl rfl rfl rfl sb_252_7_25 rfl (y_pickF rfl rfl) rfl ?_
                refine d_T 26 rfl sb_252_7_26 rfl (y_pickF rfl rfl) rfl ?_
                refine d_nil1 47 sb_252_7_27 rfl rfl ?_
                obtain rfl := p1 hm
                exact ⟨_, _, ⟨rfl, rfl⟩, ⟨rfl, trivial⟩, ⟨rfl, rfl⟩, _, (s_take s_nil)⟩
          · rintro sh G ⟨rfl, rfl⟩
            refine c_cond rfl (fun h7 => ?_) (fun h7 => ?_)
            · have hm := cd_t h7 hm
              refine c_seq ?_
              refine c_region ?_
              refine o_L (y_assign rfl) rfl rfl ?_
              refine o_nil0 rfl ?_
              refine c_ret ?_
              obtain rfl := p1 hm
              refine fun aX wX heX hsX => ret1 Tryz.results252 heX rfl (s_take s_nil) ?_
              exact ⟨rfl, rfl⟩
            · have hm := cd_f h7 hm
              refine c_skip ?_
              refine c_seq ?_
              refine c_region ?_
              refine o_L (y_assign rfl) rfl rfl ?_
              refine o_nil0 rfl ?_
              refine c_ret ?_
              obtain rfl := p1 hm
              refine fun aX wX heX hsX => ret1 Tryz.results252 heX rfl (s_take s_nil) ?_
              exact ⟨rfl, rfl⟩
end Go.Proofs.Qxb6500350aGreat
