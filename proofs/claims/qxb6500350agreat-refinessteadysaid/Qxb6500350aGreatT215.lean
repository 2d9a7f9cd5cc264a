/- MADE BY PROGRAM (tools350/mir.py): mirror and walk. -/
import Derived.Test.Qxb6500350aGreatF2
set_option linter.unusedVariables false
set_option linter.unusedSimpArgs false
set_option maxRecDepth 20000
set_option maxHeartbeats 4000000
namespace Go.Proofs.Qxb6500350aGreat
open Go.Eng

def op_215_1 : Array Go.Oper := #[{ dst := some 9, op := Go.Op.move (Go.Operand.tmp 4), type := 3, pos := "graph.go:109", after := #[], guard := none }, { dst := some 10, op := Go.Op.binOp Go.BinOp.gtr 3 (Go.Operand.tmp 9) (Go.Operand.const (Go.Value.int Go.IntKind.i64 0)) 3, type := 4, pos := "graph.go:109", after := #[{ on := 0, ground := Go.Ground.data }], guard := none }, { dst := some 11, op := Go.Op.move (Go.Operand.tmp 10), type := 4, pos := "graph.go:109", after := #[{ on := 1, ground := Go.Ground.data }], guard := none }, { dst := some 12, op := Go.Op.move (Go.Operand.tmp 0), type := 30, pos := "graph.go:109", after := #[{ on := 2, ground := Go.Ground.guard }], guard := some (2, true) }, { dst := some 13, op := Go.Op.move (Go.Operand.tmp 0), type := 30, pos := "graph.go:109", after := #[{ on := 2, ground := Go.Ground.guard }], guard := some (2, true) }, { dst := some 14, op := Go.Op.move (Go.Operand.tmp 4), type := 3, pos := "graph.go:109", after := #[{ on := 2, ground := Go.Ground.guard }], guard := some (2, true) }, { dst := some 15, op := Go.Op.binOp Go.BinOp.sub 3 (Go.Operand.tmp 14) (Go.Operand.const (Go.Value.int Go.IntKind.i64 1)) 3, type := 3, pos := "graph.go:109", after := #[{ on := 5, ground := Go.Ground.data }, { on := 2, ground := Go.Ground.guard }], guard := some (2, true) }, { dst := some 16, op := Go.Op.nilCheck (Go.Operand.tmp 13), type := 0, pos := "graph.go:109", after := #[{ on := 4, ground := Go.Ground.data }, { on := 2, ground := Go.Ground.guard }], guard := some (2, true) }, { dst := some 17, op := Go.Op.fieldAddr 179 (Go.Operand.tmp 16) 2, type := 0, pos := "graph.go:109", after := #[{ on := 7, ground := Go.Ground.data }, { on := 2, ground := Go.Ground.guard }], guard := some (2, true) }, { dst := some 18, op := Go.Op.indexAddr 174 (Go.Operand.tmp 17) (Go.Operand.tmp 15), type := 0, pos := "graph.go:109", after := #[{ on := 8, ground := Go.Ground.data }, { on := 6, ground := Go.Ground.data }, { on := 2, ground := Go.Ground.guard }], guard := some (2, true) }, { dst := some 19, op := Go.Op.load 3 (Go.Operand.tmp 18), type := 3, pos := "graph.go:109", after := #[{ on := 9, ground := Go.Ground.data }, { on := 2, ground := Go.Ground.guard }], guard := some (2, true) }, { dst := some 20, op := Go.Op.nilCheck (Go.Operand.tmp 12), type := 0, pos := "graph.go:109", after := #[{ on := 3, ground := Go.Ground.data }, { on := 2, ground := Go.Ground.guard }], guard := some (2, true) }, { dst := some 21, op := Go.Op.fieldAddr 179 (Go.Operand.tmp 20) 1, type := 0, pos := "graph.go:109", after := #[{ on := 11, ground := Go.Ground.data }, { on := 2, ground := Go.Ground.guard }], guard := some (2, true) }, { dst := some 22, op := Go.Op.indexAddr 173 (Go.Operand.tmp 21) (Go.Operand.tmp 19), type := 0, pos := "graph.go:109", after := #[{ on := 12, ground := Go.Ground.data }, { on := 10, ground := Go.Ground.data }, { on := 2, ground := Go.Ground.guard }], guard := some (2, true) }, { dst := some 23, op := Go.Op.fieldAddr 172 (Go.Operand.tmp 22) 1, type := 0, pos := "graph.go:109", after := #[{ on := 13, ground := Go.Ground.data }, { on := 2, ground := Go.Ground.guard }], guard := some (2, true) }, { dst := some 24, op := Go.Op.load 3 (Go.Operand.tmp 23), type := 3, pos := "graph.go:109", after := #[{ on := 14, ground := Go.Ground.data }, { on := 2, ground := Go.Ground.guard }], guard := some (2, true) }, { dst := some 25, op := Go.Op.move (Go.Operand.tmp 0), type := 30, pos := "graph.go:109", after := #[{ on := 2, ground := Go.Ground.guard }], guard := some (2, true) }, { dst := some 26, op := Go.Op.move (Go.Operand.tmp 1), type := 3, pos := "graph.go:109", after := #[{ on := 2, ground := Go.Ground.guard }], guard := some (2, true) }, { dst := some 27, op := Go.Op.nilCheck (Go.Operand.tmp 25), type := 0, pos := "graph.go:109", after := #[{ on := 16, ground := Go.Ground.data }, { on := 2, ground := Go.Ground.guard }], guard := some (2, true) }, { dst := some 28, op := Go.Op.fieldAddr 179 (Go.Operand.tmp 27) 1, type := 0, pos := "graph.go:109", after := #[{ on := 18, ground := Go.Ground.data }, { on := 2, ground := Go.Ground.guard }], guard := some (2, true) }, { dst := some 29, op := Go.Op.indexAddr 173 (Go.Operand.tmp 28) (Go.Operand.tmp 26), type := 0, pos := "graph.go:109", after := #[{ on := 19, ground := Go.Ground.data }, { on := 17, ground := Go.Ground.data }, { on := 2, ground := Go.Ground.guard }], guard := some (2, true) }, { dst := some 30, op := Go.Op.fieldAddr 172 (Go.Operand.tmp 29) 1, type := 0, pos := "graph.go:109", after := #[{ on := 20, ground := Go.Ground.data }, { on := 2, ground := Go.Ground.guard }], guard := some (2, true) }, { dst := some 31, op := Go.Op.load 3 (Go.Operand.tmp 30), type := 3, pos := "graph.go:109", after := #[{ on := 21, ground := Go.Ground.data }, { on := 2, ground := Go.Ground.guard }], guard := some (2, true) }, { dst := some 32, op := Go.Op.binOp Go.BinOp.gtr 3 (Go.Operand.tmp 24) (Go.Operand.tmp 31) 3, type := 4, pos := "graph.go:109", after := #[{ on := 15, ground := Go.Ground.data }, { on := 22, ground := Go.Ground.data }, { on := 2, ground := Go.Ground.guard }], guard := some (2, true) }, { dst := some 33, op := Go.Op.pick (Go.Operand.tmp 11) (Go.Operand.tmp 32) (Go.Operand.const (Go.Value.bool false)), type := 4, pos := "graph.go:109", after := #[{ on := 2, ground := Go.Ground.data }, { on := 23, ground := Go.Ground.data }], guard := none }]
def op_215_2 : Array Go.Oper := #[{ dst := some 34, op := Go.Op.move (Go.Operand.tmp 0), type := 30, pos := "graph.go:110", after := #[], guard := none }, { dst := some 35, op := Go.Op.move (Go.Operand.tmp 4), type := 3, pos := "graph.go:110", after := #[], guard := none }, { dst := some 36, op := Go.Op.move (Go.Operand.tmp 0), type := 30, pos := "graph.go:110", after := #[], guard := none }, { dst := some 37, op := Go.Op.move (Go.Operand.tmp 4), type := 3, pos := "graph.go:110", after := #[], guard := none }, { dst := some 38, op := Go.Op.binOp Go.BinOp.sub 3 (Go.Operand.tmp 37) (Go.Operand.const (Go.Value.int Go.IntKind.i64 1)) 3, type := 3, pos := "graph.go:110", after := #[{ on := 3, ground := Go.Ground.data }], guard := none }, { dst := some 39, op := Go.Op.nilCheck (Go.Operand.tmp 36), type := 0, pos := "graph.go:110", after := #[{ on := 2, ground := Go.Ground.data }], guard := none }, { dst := some 40, op := Go.Op.fieldAddr 179 (Go.Operand.tmp 39) 2, type := 0, pos := "graph.go:110", after := #[{ on := 5, ground := Go.Ground.data }], guard := none }, { dst := some 41, op := Go.Op.indexAddr 174 (Go.Operand.tmp 40) (Go.Operand.tmp 38), type := 0, pos := "graph.go:110", after := #[{ on := 6, ground := Go.Ground.data }, { on := 4, ground := Go.Ground.data }], guard := none }, { dst := some 42, op := Go.Op.load 3 (Go.Operand.tmp 41), type := 3, pos := "graph.go:110", after := #[{ on := 7, ground := Go.Ground.data }], guard := none }, { dst := some 43, op := Go.Op.nilCheck (Go.Operand.tmp 34), type := 0, pos := "graph.go:110", after := #[{ on := 0, ground := Go.Ground.data }], guard := none }, { dst := some 44, op := Go.Op.fieldAddr 179 (Go.Operand.tmp 43) 2, type := 0, pos := "graph.go:110", after := #[{ on := 9, ground := Go.Ground.data }], guard := none }, { dst := some 45, op := Go.Op.indexAddr 174 (Go.Operand.tmp 44) (Go.Operand.tmp 35), type := 0, pos := "graph.go:110", after := #[{ on := 10, ground := Go.Ground.data }, { on := 1, ground := Go.Ground.data }, { on := 0, ground := Go.Ground.phase }, { on := 1, ground := Go.Ground.phase }, { on := 2, ground := Go.Ground.phase }, { on := 3, ground := Go.Ground.phase }, { on := 4, ground := Go.Ground.phase }, { on := 5, ground := Go.Ground.phase }, { on := 6, ground := Go.Ground.phase }, { on := 7, ground := Go.Ground.phase }, { on := 8, ground := Go.Ground.phase }], guard := none }, { dst := none, op := Go.Op.store 3 (Go.Operand.tmp 45) (Go.Operand.tmp 42), type := 0, pos := "graph.go:110", after := #[{ on := 11, ground := Go.Ground.data }, { on := 8, ground := Go.Ground.data }, { on := 0, ground := Go.Ground.phase }, { on := 1, ground := Go.Ground.phase }, { on := 2, ground := Go.Ground.phase }, { on := 3, ground := Go.Ground.phase }, { on := 4, ground := Go.Ground.phase }, { on := 5, ground := Go.Ground.phase }, { on := 6, ground := Go.Ground.phase }, { on := 7, ground := Go.Ground.phase }, { on := 8, ground := Go.Ground.phase }], guard := none }]
theorem sb_215_1_0 : softB op_215_1 #[true, true, true, true, true, true, true, true, true, true, true, true, true, true, true, true, true, true, true, true, true, true, true, true, true] (Array.replicate 25 false) 0 = true := by kernel_rfl
theorem sb_215_1_1 : softB op_215_1 #[true, true, true, true, true, true, true, true, true, true, true, true, true, true, true, true, true, true, true, true, true, true, true, true, true] ((Array.replicate 25 false).setIfInBounds 0 true) 1 = true := by kernel_rfl
theorem sb_215_1_2 : softB op_215_1 #[true, true, true, true, true, true, true, true, true, true, true, true, true, true, true, true, true, true, true, true, true, true, true, true, true] (((Array.replicate 25 false).setIfInBounds 0 true).setIfInBounds 1 true) 2 = true := by kernel_rfl
theorem sb_215_1_3 : softB op_215_1 #[true, true, true, true, true, true, true, true, true, true, true, true, true, true, true, true, true, true, true, true, true, true, true, true, true] ((((Array.replicate 25 false).setIfInBounds 0 true).setIfInBounds 1 true).setIfInBounds 2 true) 3 = true := by kernel_rfl
theorem sb_215_1_4 : softB op_215_1 #[true, true, true, true, true, true, true, true, true, true, true, true, true, true, true, true, true, true, true, true, true, true, true, true, true] (((((Array.replicate 25 false).setIfInBounds 0 true).setIfInBounds 1 true).setIfInBounds 2 true).setIfInBounds 3 true) 4 = true := by kernel_rfl
theorem sb_215_1_5 : softB op_215_1 #[true, true, true, true, true, true, true, true, true, true, true, true, true, true, true, true, true, true, true, true, true, true, true, true, true] ((((((Array.replicate 25 false).setIfInBounds 0 true).setIfInBounds 1 true).setIfInBounds 2 true).setIfInBounds 3 true).setIfInBounds 4 true) 5 = true := by kernel_rfl
theorem sb_215_1_6 : softB op_215_1 #[true, true, true, true, true, true, true, true, true, true, true, true, true, true, true, true, true, true, true, true, true, true, true, true, true] (((((((Array.replicate 25 false).setIfInBounds 0 true).setIfInBounds 1 true).setIfInBounds 2 true).setIfInBounds 3 true).setIfInBounds 4 true).setIfInBounds 5 true) 6 = true := by kernel_rfl
theorem sb_215_1_7 : softB op_215_1 #[true, true, true, true, true, true, true, true, true, true, true, true, true, true, true, true, true, true, true, true, true, true, true, true, true] ((((((((Array.replicate 25 false).setIfInBounds 0 true).setIfInBounds 1 true).setIfInBounds 2 true).setIfInBounds 3 true).setIfInBounds 4 true).setIfInBounds 5 true).setIfInBounds 6 true) 7 = true := by kernel_rfl
theorem sb_215_1_8 : softB op_215_1 #[true, true, true, true, true, true, true, true, true, true, true, true, true, true, true, true, true, true, true, true, true, true, true, true, true] (((((((((Array.replicate 25 false).setIfInBounds 0 true).setIfInBounds 1 true).setIfInBounds 2 true).setIfInBounds 3 true).setIfInBounds 4 true).setIfInBounds 5 true).setIfInBounds 6 true).setIfInBounds 7 true) 8 = true := by kernel_rfl
theorem sb_215_1_9 : softB op_215_1 #[true, true, true, true, true, true, true, true, true, true, true, true, true, true, true, true, true, true, true, true, true, true, true, true, true] ((((((((((Array.replicate 25 false).setIfInBounds 0 true).setIfInBounds 1 true).setIfInBounds 2 true).setIfInBounds 3 true).setIfInBounds 4 true).setIfInBounds 5 true).setIfInBounds 6 true).setIfInBounds 7 true).setIfInBounds 8 true) 9 = true := by kernel_rfl
theorem sb_215_1_10 : softB op_215_1 #[true, true, true, true, true, true, true, true, true, true, true, true, true, true, true, true, true, true, true, true, true, true, true, true, true] (((((((((((Array.replicate 25 false).setIfInBounds 0 true).setIfInBounds 1 true).setIfInBounds 2 true).setIfInBounds 3 true).setIfInBounds 4 true).setIfInBounds 5 true).setIfInBounds 6 true).setIfInBounds 7 true).setIfInBounds 8 true).setIfInBounds 9 true) 10 = true := by kernel_rfl
theorem sb_215_1_11 : softB op_215_1 #[true, true, true, true, true, true, true, true, true, true, true, true, true, true, true, true, true, true, true, true, true, true, true, true, true] ((((((((((((Array.replicate 25 false).setIfInBounds 0 true).setIfInBounds 1 true).setIfInBounds 2 true).setIfInBounds 3 true).setIfInBounds 4 true).setIfInBounds 5 true).setIfInBounds 6 true).setIfInBounds 7 true).setIfInBounds 8 true).setIfInBounds 9 true).setIfInBounds 10 true) 11 = true := by kernel_rfl
theorem sb_215_1_12 : softB op_215_1 #[true, true, true, true, true, true, true, true, true, true, true, true, true, true, true, true, true, true, true, true, true, true, true, true, true] (((((((((((((Array.replicate 25 false).setIfInBounds 0 true).setIfInBounds 1 true).setIfInBounds 2 true).setIfInBounds 3 true).setIfInBounds 4 true).setIfInBounds 5 true).setIfInBounds 6 true).setIfInBounds 7 true).setIfInBounds 8 true).setIfInBounds 9 true).setIfInBounds 10 true).setIfInBounds 11 true) 12 = true := by kernel_rfl
theorem sb_215_1_13 : softB op_215_1 #[true, true, true, true, true, true, true, true, true, true, true, true, true, true, true, true, true, true, true, true, true, true, true, true, true] ((((((((((((((Array.replicate 25 false).setIfInBounds 0 true).setIfInBounds 1 true).setIfInBounds 2 true).setIfInBounds 3 true).setIfInBounds 4 true).setIfInBounds 5 true).setIfInBounds 6 true).setIfInBounds 7 true).setIfInBounds 8 true).setIfInBounds 9 true).setIfInBounds 10 true).setIfInBounds 11 true).setIfInBounds 12 true) 13 = true := by kernel_rfl
theorem sb_215_1_14 : softB op_215_1 #[true, true, true, true, true, true, true, true, true, true, true, true, true, true, true, true, true, true, true, true, true, true, true, true, true] (((((((((((((((Array.replicate 25 false).setIfInBounds 0 true).setIfInBounds 1 true).setIfInBounds 2 true).setIfInBounds 3 true).setIfInBounds 4 true).setIfInBounds 5 true).setIfInBounds 6 true).setIfInBounds 7 true).setIfInBounds 8 true).setIfInBounds 9 true).setIfInBounds 10 true).setIfInBounds 11 true).setIfInBounds 12 true).setIfInBounds 13 true) 14 = true := by kernel_rfl
theorem sb_215_1_15 : softB op_215_1 #[true, true, true, true, true, true, true, true, true, true, true, true, true, true, true, true, true, true, true, true, true, true, true, true, true] ((((((((((((((((Array.replicate 25 false).setIfInBounds 0 true).setIfInBounds 1 true).setIfInBounds 2 true).setIfInBounds 3 true).setIfInBounds 4 true).setIfInBounds 5 true).setIfInBounds 6 true).setIfInBounds 7 true).setIfInBounds 8 true).setIfInBounds 9 true).setIfInBounds 10 true).setIfInBounds 11 true).setIfInBounds 12 true).setIfInBounds 13 true).setIfInBounds 14 true) 15 = true := by kernel_rfl
theorem sb_215_1_16 : softB op_215_1 #[true, true, true, true, true, true, true, true, true, true, true, true, true, true, true, true, true, true, true, true, true, true, true, true, true] (((((((((((((((((Array.replicate 25 false).setIfInBounds 0 true).setIfInBounds 1 true).setIfInBounds 2 true).setIfInBounds 3 true).setIfInBounds 4 true).setIfInBounds 5 true).setIfInBounds 6 true).setIfInBounds 7 true).setIfInBounds 8 true).setIfInBounds 9 true).setIfInBounds 10 true).setIfInBounds 11 true).setIfInBounds 12 true).setIfInBounds 13 true).setIfInBounds 14 true).setIfInBounds 15 true) 16 = true := by kernel_rfl
theorem sb_215_1_17 : softB op_215_1 #[true, true, true, true, true, true, true, true, true, true, true, true, true, true, true, true, true, true, true, true, true, true, true, true, true] ((((((((((((((((((Array.replicate 25 false).setIfInBounds 0 true).setIfInBounds 1 true).setIfInBounds 2 true).setIfInBounds 3 true).setIfInBounds 4 true).setIfInBounds 5 true).setIfInBounds 6 true).setIfInBounds 7 true).setIfInBounds 8 true).setIfInBounds 9 true).setIfInBounds 10 true).setIfInBounds 11 true).setIfInBounds 12 true).setIfInBounds 13 true).setIfInBounds 14 true).setIfInBounds 15 true).setIfInBounds 16 true) 17 = true := by kernel_rfl
theorem sb_215_1_18 : softB op_215_1 #[true, true, true, true, true, true, true, true, true, true, true, true, true, true, true, true, true, true, true, true, true, true, true, true, true] (((((((((((((((((((Array.replicate 25 false).setIfInBounds 0 true).setIfInBounds 1 true).setIfInBounds 2 true).setIfInBounds 3 true).setIfInBounds 4 true).setIfInBounds 5 true).setIfInBounds 6 true).setIfInBounds 7 true).setIfInBounds 8 true).setIfInBounds 9 true).setIfInBounds 10 true).setIfInBounds 11 true).setIfInBounds 12 true).setIfInBounds 13 true).setIfInBounds 14 true).setIfInBounds 15 true).setIfInBounds 16 true).setIfInBounds 17 true) 18 = true := by kernel_rfl
theorem sb_215_1_19 : softB op_215_1 #[true, true, true, true, true, true, true, true, true, true, true, true, true, true, true, true, true, true, true, true, true, true, true, true, true] ((((((((((((((((((((Array.replicate 25 false).setIfInBounds 0 true).setIfInBounds 1 true).setIfInBounds 2 true).setIfInBounds 3 true).setIfInBounds 4 true).setIfInBounds 5 true).setIfInBounds 6 true).setIfInBounds 7 true).setIfInBounds 8 true).setIfInBounds 9 true).setIfInBounds 10 true).setIfInBounds 11 true).setIfInBounds 12 true).setIfInBounds 13 true).setIfInBounds 14 true).setIfInBounds 15 true).setIfInBounds 16 true).setIfInBounds 17 true).setIfInBounds 18 true) 19 = true := by kernel_rfl
theorem sb_215_1_20 : softB op_215_1 #[true, true, true, true, true, true, true, true, true, true, true, true, true, true, true, true, true, true, true, true, true, true, true, true, true] (((((((((((((((((((((Array.replicate 25 false).setIfInBounds 0 true).setIfInBounds 1 true).setIfInBounds 2 true).setIfInBounds 3 true).setIfInBounds 4 true).setIfInBounds 5 true).setIfInBounds 6 true).setIfInBounds 7 true).setIfInBounds 8 true).setIfInBounds 9 true).setIfInBounds 10 true).setIfInBounds 11 true).setIfInBounds 12 true).setIfInBounds 13 true).setIfInBounds 14 true).setIfInBounds 15 true).setIfInBounds 16 true).setIfInBounds 17 true).setIfInBounds 18 true).setIfInBounds 19 true) 20 = true := by kernel_rfl
theorem sb_215_1_21 : softB op_215_1 #[true, true, true, true, true, true, true, true, true, true, true, true, true, true, true, true, true, true, true, true, true, true, true, true, true] ((((((((((((((((((((((Array.replicate 25 false).setIfInBounds 0 true).setIfInBounds 1 true).setIfInBounds 2 true).setIfInBounds 3 true).setIfInBounds 4 true).setIfInBounds 5 true).setIfInBounds 6 true).setIfInBounds 7 true).setIfInBounds 8 true).setIfInBounds 9 true).setIfInBounds 10 true).setIfInBounds 11 true).setIfInBounds 12 true).setIfInBounds 13 true).setIfInBounds 14 true).setIfInBounds 15 true).setIfInBounds 16 true).setIfInBounds 17 true).setIfInBounds 18 true).setIfInBounds 19 true).setIfInBounds 20 true) 21 = true := by kernel_rfl
theorem sb_215_1_22 : softB op_215_1 #[true, true, true, true, true, true, true, true, true, true, true, true, true, true, true, true, true, true, true, true, true, true, true, true, true] (((((((((((((((((((((((Array.replicate 25 false).setIfInBounds 0 true).setIfInBounds 1 true).setIfInBounds 2 true).setIfInBounds 3 true).setIfInBounds 4 true).setIfInBounds 5 true).setIfInBounds 6 true).setIfInBounds 7 true).setIfInBounds 8 true).setIfInBounds 9 true).setIfInBounds 10 true).setIfInBounds 11 true).setIfInBounds 12 true).setIfInBounds 13 true).setIfInBounds 14 true).setIfInBounds 15 true).setIfInBounds 16 true).setIfInBounds 17 true).setIfInBounds 18 true).setIfInBounds 19 true).setIfInBounds 20 true).setIfInBounds 21 true) 22 = true := by kernel_rfl
theorem sb_215_1_23 : softB op_215_1 #[true, true, true, true, true, true, true, true, true, true, true, true, true, true, true, true, true, true, true, true, true, true, true, true, true] ((((((((((((((((((((((((Array.replicate 25 false).setIfInBounds 0 true).setIfInBounds 1 true).setIfInBounds 2 true).setIfInBounds 3 true).setIfInBounds 4 true).setIfInBounds 5 true).setIfInBounds 6 true).setIfInBounds 7 true).setIfInBounds 8 true).setIfInBounds 9 true).setIfInBounds 10 true).setIfInBounds 11 true).setIfInBounds 12 true).setIfInBounds 13 true).setIfInBounds 14 true).setIfInBounds 15 true).setIfInBounds 16 true).setIfInBounds 17 true).setIfInBounds 18 true).setIfInBounds 19 true).setIfInBounds 20 true).setIfInBounds 21 true).setIfInBounds 22 true) 23 = true := by kernel_rfl
theorem sb_215_1_24 : softB op_215_1 #[true, true, true, true, true, true, true, true, true, true, true, true, true, true, true, true, true, true, true, true, true, true, true, true, true] (((((((((((((((((((((((((Array.replicate 25 false).setIfInBounds 0 true).setIfInBounds 1 true).setIfInBounds 2 true).setIfInBounds 3 true).setIfInBounds 4 true).setIfInBounds 5 true).setIfInBounds 6 true).setIfInBounds 7 true).setIfInBounds 8 true).setIfInBounds 9 true).setIfInBounds 10 true).setIfInBounds 11 true).setIfInBounds 12 true).setIfInBounds 13 true).setIfInBounds 14 true).setIfInBounds 15 true).setIfInBounds 16 true).setIfInBounds 17 true).setIfInBounds 18 true).setIfInBounds 19 true).setIfInBounds 20 true).setIfInBounds 21 true).setIfInBounds 22 true).setIfInBounds 23 true) 24 = true := by kernel_rfl
theorem sb_215_1_25 : hardB op_215_1 ((((((((((((((((((((((((((Array.replicate 25 false).setIfInBounds 0 true).setIfInBounds 1 true).setIfInBounds 2 true).setIfInBounds 3 true).setIfInBounds 4 true).setIfInBounds 5 true).setIfInBounds 6 true).setIfInBounds 7 true).setIfInBounds 8 true).setIfInBounds 9 true).setIfInBounds 10 true).setIfInBounds 11 true).setIfInBounds 12 true).setIfInBounds 13 true).setIfInBounds 14 true).setIfInBounds 15 true).setIfInBounds 16 true).setIfInBounds 17 true).setIfInBounds 18 true).setIfInBounds 19 true).setIfInBounds 20 true).setIfInBounds 21 true).setIfInBounds 22 true).setIfInBounds 23 true).setIfInBounds 24 true) [] = true := by kernel_rfl
theorem sb_215_2_0 : softB op_215_2 #[true, true, true, true, true, true, true, true, true, true, true, true, false] (Array.replicate 13 false) 0 = true := by kernel_rfl
theorem sb_215_2_1 : softB op_215_2 #[true, true, true, true, true, true, true, true, true, true, true, true, false] ((Array.replicate 13 false).setIfInBounds 0 true) 1 = true := by kernel_rfl
theorem sb_215_2_2 : softB op_215_2 #[true, true, true, true, true, true, true, true, true, true, true, true, false] (((Array.replicate 13 false).setIfInBounds 0 true).setIfInBounds 1 true) 2 = true := by kernel_rfl
theorem sb_215_2_3 : softB op_215_2 #[true, true, true, true, true, true, true, true, true, true, true, true, false] ((((Array.replicate 13 false).setIfInBounds 0 true).setIfInBounds 1 true).setIfInBounds 2 true) 3 = true := by kernel_rfl
theorem sb_215_2_4 : softB op_215_2 #[true, true, true, true, true, true, true, true, true, true, true, true, false] (((((Array.replicate 13 false).setIfInBounds 0 true).setIfInBounds 1 true).setIfInBounds 2 true).setIfInBounds 3 true) 4 = true := by kernel_rfl
theorem sb_215_2_5 : softB op_215_2 #[true, true, true, true, true, true, true, true, true, true, true, true, false] ((((((Array.replicate 13 false).setIfInBounds 0 true).setIfInBounds 1 true).setIfInBounds 2 true).setIfInBounds 3 true).setIfInBounds 4 true) 5 = true := by kernel_rfl
theorem sb_215_2_6 : softB op_215_2 #[true, true, true, true, true, true, true, true, true, true, true, true, false] (((((((Array.replicate 13 false).setIfInBounds 0 true).setIfInBounds 1 true).setIfInBounds 2 true).setIfInBounds 3 true).setIfInBounds 4 true).setIfInBounds 5 true) 6 = true := by kernel_rfl
theorem sb_215_2_7 : softB op_215_2 #[true, true, true, true, true, true, true, true, true, true, true, true, false] ((((((((Array.replicate 13 false).setIfInBounds 0 true).setIfInBounds 1 true).setIfInBounds 2 true).setIfInBounds 3 true).setIfInBounds 4 true).setIfInBounds 5 true).setIfInBounds 6 true) 7 = true := by kernel_rfl
theorem sb_215_2_8 : softB op_215_2 #[true, true, true, true, true, true, true, true, true, true, true, true, false] (((((((((Array.replicate 13 false).setIfInBounds 0 true).setIfInBounds 1 true).setIfInBounds 2 true).setIfInBounds 3 true).setIfInBounds 4 true).setIfInBounds 5 true).setIfInBounds 6 true).setIfInBounds 7 true) 8 = true := by kernel_rfl
theorem sb_215_2_9 : softB op_215_2 #[true, true, true, true, true, true, true, true, true, true, true, true, false] ((((((((((Array.replicate 13 false).setIfInBounds 0 true).setIfInBounds 1 true).setIfInBounds 2 true).setIfInBounds 3 true).setIfInBounds 4 true).setIfInBounds 5 true).setIfInBounds 6 true).setIfInBounds 7 true).setIfInBounds 8 true) 9 = true := by kernel_rfl
theorem sb_215_2_10 : softB op_215_2 #[true, true, true, true, true, true, true, true, true, true, true, true, false] (((((((((((Array.replicate 13 false).setIfInBounds 0 true).setIfInBounds 1 true).setIfInBounds 2 true).setIfInBounds 3 true).setIfInBounds 4 true).setIfInBounds 5 true).setIfInBounds 6 true).setIfInBounds 7 true).setIfInBounds 8 true).setIfInBounds 9 true) 10 = true := by kernel_rfl
theorem sb_215_2_11 : softB op_215_2 #[true, true, true, true, true, true, true, true, true, true, true, true, false] ((((((((((((Array.replicate 13 false).setIfInBounds 0 true).setIfInBounds 1 true).setIfInBounds 2 true).setIfInBounds 3 true).setIfInBounds 4 true).setIfInBounds 5 true).setIfInBounds 6 true).setIfInBounds 7 true).setIfInBounds 8 true).setIfInBounds 9 true).setIfInBounds 10 true) 11 = true := by kernel_rfl
theorem sb_215_2_12 : hardB op_215_2 (((((((((((((Array.replicate 13 false).setIfInBounds 0 true).setIfInBounds 1 true).setIfInBounds 2 true).setIfInBounds 3 true).setIfInBounds 4 true).setIfInBounds 5 true).setIfInBounds 6 true).setIfInBounds 7 true).setIfInBounds 8 true).setIfInBounds 9 true).setIfInBounds 10 true).setIfInBounds 11 true) [12] = true := by kernel_rfl
theorem sb_215_2_13 : hardB op_215_2 ((((((((((((((Array.replicate 13 false).setIfInBounds 0 true).setIfInBounds 1 true).setIfInBounds 2 true).setIfInBounds 3 true).setIfInBounds 4 true).setIfInBounds 5 true).setIfInBounds 6 true).setIfInBounds 7 true).setIfInBounds 8 true).setIfInBounds 9 true).setIfInBounds 10 true).setIfInBounds 11 true).setIfInBounds 12 true) [] = true := by kernel_rfl
/- (*graph.Graph).place -/
def m215_w1 (n : Nat) (id : Int) (mm : Nat) : Int → Graph → Option (Int × Graph) := it2 (fun lp1 c1 z1 =>
ob1 (cond (decide ((0 : Int) < c1)) (Option.bind (ckA (wi (c1 - 1)) 48) fun _ =>
Option.bind (ckA (z1.order (wi (c1 - 1))) 49) fun _ =>
Option.bind (ckA id 49) fun _ =>
some ((decide ((z1.com id).seq < (z1.com (z1.order (wi (c1 - 1)))).seq)))) (some (false))) fun c3 =>
cond c3 (
Option.bind (ckA (wi (c1 - 1)) 48) fun _ =>
Option.bind (ckA c1 48) fun _ =>
nm ({ z1 with order := (upI z1.order c1 (z1.order (wi (c1 - 1)))) } : Graph) fun z3 =>
lp1 (wi (c1 - 1)) z3) (
some (c1, z1))) mm
def m215 (n : Nat) (g : Graph) (id : Int) : Option (Graph) :=
ob2 (m215_w1 n id n g.n g) fun c2 z2 =>
Option.bind (ckA c2 48) fun _ =>
nm ({ z2 with order := (upI z2.order c2 id) } : Graph) fun z4 =>
nm ({ z4 with n := (wi (z4.n + 1)) } : Graph) fun z5 =>
some z5
theorem t215 {n : Nat} {C : List Chunk} {rz1 : Graph} {b1 : Nat} {g : Graph} {q1 : Option Addr} {id : Int}   (hm : m215 n g id = some rz1) : Trip Tryz.prog 215 #[.pointer (some ⟨b1, 0, none⟩), .int .i64 id] ([[(b1, .cells (Graph.enc ((.pointer q1)) g).toArray 179 (0, 0))]] ++ [C]) (fun u S' => .tuple #[] = u ∧ S' = [[(b1, .cells (Graph.enc ((.pointer q1)) rz1).toArray 179 (0, 0))]] ++ [C]) := by
  refine fn_entry (args := [.pointer (some ⟨b1, 0, none⟩), .int .i64 id]) Tryz.func215 rfl Tryz.ntmps215 rfl (fun w0 => ?_)
  refine c_seq ?_
  refine c_region ?_
  refine o_T (y_move rfl) rfl ?_
  refine o_T (y_nilck rfl) rfl ?_
  refine o_T (y_fa fl_179_3 rfl) rfl ?_
  refine o_ld one_3 rfl m0 (At.got (At.refl.comp Graph.a_n)) rfl ?_
  refine o_L (y_assign rfl) rfl rfl ?_
  refine o_nil0 rfl ?_
  refine c_seq ?_
  obtain ⟨c2, z2, hj1, hm⟩ := bd2 hm
  refine c_joinP (n := 1) (fun sh G => sh = [(4, .int .i64 c2)] ∧ G = [[(b1, .cells (Graph.enc ((.pointer q1)) z2).toArray 179 (0, 0))]]) (s_take (s_take s_nil)) (.s .z) (fun _ _ h => h) ?_ ?_
  · skip
    refine c_block ?_
    refine c_loopP (n := 1) (fun mm sh G => ∃ (c1 : Int), ∃ (z1 : Graph), sh = [(4, .int .i64 c1)] ∧ G = [[(b1, .cells (Graph.enc ((.pointer q1)) z1).toArray 179 (0, 0))]] ∧ m215_w1 n id mm c1 z1 = some (c2, z2)) n (s_take (s_take s_nil)) (.s .z) ⟨_, _, ⟨_, _, rfl, rfl, hj1⟩, ⟨rfl, trivial⟩, _, (s_take (s_take s_nil))⟩ ?_
    rintro mm sh G ⟨c1, z1, rfl, rfl, hm⟩
    obtain ⟨mm1, rfl, hm⟩ := it2_s hm
    refine c_seq ?_
    refine c_seq ?_
    obtain ⟨c3, hj2, hm⟩ := bd1 hm
    refine c_joinP (n := 0) (fun sh G => sh = [(33, .bool c3)] ∧ G = []) Sel.all' .z (fun _ _ h => h) ?_ ?_
    · have hm := hj2
      refine c_draw #[true, true, true, true, true, true, true, true, true, true, true, true, true, true, true, true, true, true, true, true, true, true, true, true, true] rfl (n := 25) rfl ?_
      refine d_T 0 rfl sb_215_1_0 rfl (y_move rfl) rfl ?_
      refine d_T 1 rfl sb_215_1_1 rfl (y_gtr rfl rfl) rfl ?_
      refine d_T 2 rfl sb_215_1_2 rfl (y_move rfl) rfl ?_
      refine d_split 11 rfl (fun h1 => ?_) (fun h1 => ?_)
      · have hm := cd_t h1 hm
        refine d_Tg 3 rfl rfl rfl rfl sb_215_1_3 rfl (y_move rfl) rfl ?_
        refine d_Tg 4 rfl rfl rfl rfl sb_215_1_4 rfl (y_move rfl) rfl ?_
        refine d_Tg 5 rfl rfl rfl rfl sb_215_1_5 rfl (y_move rfl) rfl ?_
        refine d_Tg 6 rfl rfl rfl rfl sb_215_1_6 rfl (y_sub rfl rfl rfl) rfl ?_
        refine d_Tg 7 rfl rfl rfl rfl sb_215_1_7 rfl (y_nilck rfl) rfl ?_
        refine d_Tg 8 rfl rfl rfl rfl sb_215_1_8 rfl (y_fa fl_179_2 rfl) rfl ?_
        obtain ⟨_, hx1, hm⟩ := bd hm
        have hx1 := ckA_some hx1
        refine d_Tg 9 rfl rfl rfl rfl sb_215_1_9 rfl (y_ia ar_174 rfl rfl hx1.1 hx1.2) rfl ?_
        refine d_ldt 10 rfl rfl rfl rfl sb_215_1_10 one_3 rfl (fun x hx => hx) m0 (At.got ((At.refl.comp Graph.a_order).comp (encN_a encI_len _ _ hx1.1 _ hx1.2))) rfl ?_
        refine d_Tg 11 rfl rfl rfl rfl sb_215_1_11 rfl (y_nilck rfl) rfl ?_
        refine d_Tg 12 rfl rfl rfl rfl sb_215_1_12 rfl (y_fa fl_179_1 rfl) rfl ?_
        obtain ⟨_, hx2, hm⟩ := bd hm
        have hx2 := ckA_some hx2
        refine d_Tg 13 rfl rfl rfl rfl sb_215_1_13 rfl (y_ia ar_173 rfl rfl hx2.1 hx2.2) rfl ?_
        refine d_Tg 14 rfl rfl rfl rfl sb_215_1_14 rfl (y_fa fl_172_1 rfl) rfl ?_
        refine d_ldt 15 rfl rfl rfl rfl sb_215_1_15 one_3 rfl (fun x hx => hx) m0 (At.got (((At.refl.comp Graph.a_com).comp (encN_a Com.len _ _ hx2.1 _ hx2.2)).comp Com.a_seq)) rfl ?_
        refine d_Tg 16 rfl rfl rfl rfl sb_215_1_16 rfl (y_move rfl) rfl ?_
        refine d_Tg 17 rfl rfl rfl rfl sb_215_1_17 rfl (y_move rfl) rfl ?_
        refine d_Tg 18 rfl rfl rfl rfl sb_215_1_18 rfl (y_nilck rfl) rfl ?_
        refine d_Tg 19 rfl rfl rfl rfl sb_215_1_19 rfl (y_fa fl_179_1 rfl) rfl ?_
        obtain ⟨_, hx3, hm⟩ := bd hm
        have hx3 := ckA_some hx3
        refine d_Tg 20 rfl rfl rfl rfl sb_215_1_20 rfl (y_ia ar_173 rfl rfl hx3.1 hx3.2) rfl ?_
        refine d_Tg 21 rfl rfl rfl rfl sb_215_1_21 rfl (y_fa fl_172_1 rfl) rfl ?_
        refine d_ldt 22 rfl rfl rfl rfl sb_215_1_22 one_3 rfl (fun x hx => hx) m0 (At.got (((At.refl.comp Graph.a_com).comp (encN_a Com.len _ _ hx3.1 _ hx3.2)).comp Com.a_seq)) rfl ?_
        refine d_Tg 23 rfl rfl rfl rfl sb_215_1_23 rfl (y_gtr rfl rfl) rfl ?_
        refine d_T 24 rfl sb_215_1_24 rfl (y_pickT rfl rfl) rfl ?_
        refine d_nil1 33 sb_215_1_25 rfl rfl ?_
        obtain rfl := p1 hm
        exact ⟨_, _, ⟨rfl, rfl⟩, ⟨rfl, trivial⟩, ⟨rfl, rfl⟩, _, (s_take (s_take s_nil))⟩
      · have hm := cd_f h1 hm
        refine d_pass 3 rfl rfl rfl rfl rfl sb_215_1_3 (fun x hx => hx) rfl ?_
        refine d_pass 4 rfl rfl rfl rfl rfl sb_215_1_4 (fun x hx => hx) rfl ?_
        refine d_pass 5 rfl rfl rfl rfl rfl sb_215_1_5 (fun x hx => hx) rfl ?_
        refine d_pass 6 rfl rfl rfl rfl rfl sb_215_1_6 (fun x hx => hx) rfl ?_
        refine d_pass 7 rfl rfl rfl rfl rfl sb_215_1_7 (fun x hx => hx) rfl ?_
        refine d_pass 8 rfl rfl rfl rfl rfl sb_215_1_8 (fun x hx => hx) rfl ?_
        refine d_pass 9 rfl rfl rfl rfl rfl sb_215_1_9 (fun x hx => hx) rfl ?_
        refine d_pass 10 rfl rfl rfl rfl rfl sb_215_1_10 (fun x hx => hx) rfl ?_
        refine d_pass 11 rfl rfl rfl rfl rfl sb_215_1_11 (fun x hx => hx) rfl ?_
        refine d_pass 12 rfl rfl rfl rfl rfl sb_215_1_12 (fun x hx => hx) rfl ?_
        refine d_pass 13 rfl rfl rfl rfl rfl sb_215_1_13 (fun x hx => hx) rfl ?_
        refine d_pass 14 rfl rfl rfl rfl rfl sb_215_1_14 (fun x hx => hx) rfl ?_
        refine d_pass 15 rfl rfl rfl rfl rfl sb_215_1_15 (fun x hx => hx) rfl ?_
        refine d_pass 16 rfl rfl rfl rfl rfl sb_215_1_16 (fun x hx => hx) rfl ?_
        refine d_pass 17 rfl rfl rfl rfl rfl sb_215_1_17 (fun x hx => hx) rfl ?_
        refine d_pass 18 rfl rfl rfl rfl rfl sb_215_1_18 (fun x hx => hx) rfl ?_
        refine d_pass 19 rfl rfl rfl rfl rfl sb_215_1_19 (fun x hx => hx) rfl ?_
        refine d_pass 20 rfl rfl rfl rfl rfl sb_215_1_20 (fun x hx => hx) rfl ?_
        refine d_pass 21 rfl rfl rfl rfl rfl sb_215_1_21 (fun x hx => hx) rfl ?_
        refine d_pass 22 rfl rfl rfl rfl rfl sb_215_1_22 (fun x hx => hx) rfl ?_
        refine d_pass 23 rfl rfl rfl rfl rfl sb_215_1_23 (fun x hx => hx) rfl ?_
        refine d_T 24 rfl sb_215_1_24 rfl (y_pickF rfl rfl) rfl ?_
        refine d_nil1 33 sb_215_1_25 rfl rfl ?_
        obtain rfl := p1 hm
        exact ⟨_, _, ⟨rfl, rfl⟩, ⟨rfl, trivial⟩, ⟨rfl, rfl⟩, _, (s_take (s_take s_nil))⟩
    · rintro sh G ⟨rfl, rfl⟩
      refine c_cond rfl (fun h2 => ?_) (fun h2 => ?_)
      · have hm := cd_t h2 hm
        refine c_skip ?_
        refine c_block ?_
        refine c_seq ?_
        refine c_draw #[true, true, true, true, true, true, true, true, true, true, true, true, false] rfl (n := 13) rfl ?_
        refine d_T 0 rfl sb_215_2_0 rfl (y_move rfl) rfl ?_
        refine d_T 1 rfl sb_215_2_1 rfl (y_move rfl) rfl ?_
        refine d_T 2 rfl sb_215_2_2 rfl (y_move rfl) rfl ?_
        refine d_T 3 rfl sb_215_2_3 rfl (y_move rfl) rfl ?_
        refine d_T 4 rfl sb_215_2_4 rfl (y_sub rfl rfl rfl) rfl ?_
        refine d_T 5 rfl sb_215_2_5 rfl (y_nilck rfl) rfl ?_
        refine d_T 6 rfl sb_215_2_6 rfl (y_fa fl_179_2 rfl) rfl ?_
        obtain ⟨_, hx4, hm⟩ := bd hm
        have hx4 := ckA_some hx4
        refine d_T 7 rfl sb_215_2_7 rfl (y_ia ar_174 rfl rfl hx4.1 hx4.2) rfl ?_
        refine d_ld 8 rfl sb_215_2_8 one_3 rfl (fun x hx => hx) m0 (At.got ((At.refl.comp Graph.a_order).comp (encN_a encI_len _ _ hx4.1 _ hx4.2))) rfl ?_
        refine d_T 9 rfl sb_215_2_9 rfl (y_nilck rfl) rfl ?_
        refine d_T 10 rfl sb_215_2_10 rfl (y_fa fl_179_2 rfl) rfl ?_
        obtain ⟨_, hx5, hm⟩ := bd hm
        have hx5 := ckA_some hx5
        refine d_T 11 rfl sb_215_2_11 rfl (y_ia ar_174 rfl rfl hx5.1 hx5.2) rfl ?_
        refine d_hard 12 rfl sb_215_2_12 ?_
        obtain ⟨z3, hn1, hm⟩ := nm_s hm
        refine o_stN one_3 rfl rfl rfl ((Upd.z Graph.u_order).comp (encN_u encI_len _ _ _ hx5.1 _ hx5.2)) r0 (show (Graph.enc ((.pointer q1)) z3) = _ from by subst hn1; rfl) ?_
        refine o_stop (fun h => nomatch h) ?_
        refine d_nil0 sb_215_2_13 rfl ?_
        refine c_region ?_
        refine o_T (y_move rfl) rfl ?_
        refine o_T (y_sub rfl rfl rfl) rfl ?_
        refine o_L (y_assign rfl) rfl rfl ?_
        refine o_nil0 rfl ?_
        exact ⟨mm1, Nat.lt_succ_self _, _, _, ⟨_, _, rfl, rfl, hm⟩, ⟨rfl, trivial⟩, ⟨rfl, rfl⟩, _, (s_take (s_take s_nil))⟩
      · have hm := cd_f h2 hm
        refine c_exit ?_
        obtain ⟨rfl, rfl⟩ := pr2 hm
        exact ⟨_, _, ⟨rfl, rfl⟩, ⟨rfl, trivial⟩, ⟨rfl, rfl⟩, _, (s_take (s_take s_nil))⟩
  · rintro sh G ⟨rfl, rfl⟩
    refine c_seq ?_
    refine c_region ?_
    refine o_T (y_move rfl) rfl ?_
    refine o_T (y_move rfl) rfl ?_
    refine o_T (y_move rfl) rfl ?_
    refine o_T (y_nilck rfl) rfl ?_
    refine o_T (y_fa fl_179_2 rfl) rfl ?_
    obtain ⟨_, hx6, hm⟩ := bd hm
    have hx6 := ckA_some hx6
    refine o_T (y_ia ar_174 rfl rfl hx6.1 hx6.2) rfl ?_
    obtain ⟨z4, hn2, hm⟩ := nm_s hm
    refine o_stN one_3 rfl rfl rfl ((Upd.z Graph.u_order).comp (encN_u encI_len _ _ _ hx6.1 _ hx6.2)) r0 (show (Graph.enc ((.pointer q1)) z4) = _ from by subst hn2; rfl) ?_
    refine o_nil0 rfl ?_
    refine c_region ?_
    refine o_T (y_move rfl) rfl ?_
    refine o_T (y_nilck rfl) rfl ?_
    refine o_T (y_fa fl_179_3 rfl) rfl ?_
    refine o_ld one_3 rfl m0 (At.got (At.refl.comp Graph.a_n)) rfl ?_
    refine o_T (y_add rfl rfl rfl) rfl ?_
    refine o_T (y_nilck rfl) rfl ?_
    refine o_T (y_fa fl_179_3 rfl) rfl ?_
    obtain ⟨z5, hn3, hm⟩ := nm_s hm
    refine o_stN one_3 rfl rfl rfl (Upd.z Graph.u_n) r0 (show (Graph.enc ((.pointer q1)) z5) = _ from by subst hn3; rfl) ?_
    refine o_nil0 rfl ?_
    obtain rfl := p1 hm
    refine fun aX wX heX hsX => ret0 Tryz.results215 (s_take (s_take s_nil)) ?_
    exact ⟨rfl, rfl⟩
end Go.Proofs.Qxb6500350aGreat
