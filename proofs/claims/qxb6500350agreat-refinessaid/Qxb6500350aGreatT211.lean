/- MADE BY PROGRAM (tools350/mir.py): mirror and walk. -/
import Derived.Test.Qxb6500350aGreatF2
set_option linter.unusedVariables false
set_option linter.unusedSimpArgs false
set_option maxRecDepth 20000
set_option maxHeartbeats 4000000
namespace Go.Proofs.Qxb6500350aGreat
open Go.Eng

def op_211_1 : Array Go.Oper := #[{ dst := some 8, op := Go.Op.move (Go.Operand.tmp 0), type := 30, pos := "graph.go:119", after := #[{ on := 4, ground := Go.Ground.gcOnly Go.Departure.lateStores }], guard := none }, { dst := some 9, op := Go.Op.nilCheck (Go.Operand.tmp 8), type := 0, pos := "graph.go:119", after := #[{ on := 0, ground := Go.Ground.data }, { on := 4, ground := Go.Ground.gcOnly Go.Departure.lateStores }], guard := none }, { dst := some 10, op := Go.Op.fieldAddr 179 (Go.Operand.tmp 9) 3, type := 0, pos := "graph.go:119", after := #[{ on := 1, ground := Go.Ground.data }, { on := 4, ground := Go.Ground.gcOnly Go.Departure.lateStores }], guard := none }, { dst := some 11, op := Go.Op.load 3 (Go.Operand.tmp 10), type := 3, pos := "graph.go:119", after := #[{ on := 2, ground := Go.Ground.data }, { on := 4, ground := Go.Ground.gcOnly Go.Departure.lateStores }], guard := none }, { dst := some 5, op := Go.Op.assign (Go.Operand.const (Go.Value.int Go.IntKind.i64 0)), type := 3, pos := "graph.go:119", after := #[{ on := 0, ground := Go.Ground.textOnly Go.Departure.lateStores }, { on := 1, ground := Go.Ground.textOnly Go.Departure.lateStores }, { on := 2, ground := Go.Ground.textOnly Go.Departure.lateStores }, { on := 3, ground := Go.Ground.textOnly Go.Departure.lateStores }], guard := none }, { dst := some 6, op := Go.Op.assign (Go.Operand.tmp 11), type := 3, pos := "graph.go:119", after := #[{ on := 3, ground := Go.Ground.data }, { on := 4, ground := Go.Ground.chain }, { on := 0, ground := Go.Ground.phase }, { on := 1, ground := Go.Ground.phase }, { on := 2, ground := Go.Ground.phase }, { on := 3, ground := Go.Ground.phase }, { on := 4, ground := Go.Ground.phase }], guard := none }]
def op_211_4 : Array Go.Oper := #[{ dst := some 19, op := Go.Op.move (Go.Operand.tmp 0), type := 30, pos := "graph.go:122", after := #[], guard := none }, { dst := some 20, op := Go.Op.move (Go.Operand.tmp 0), type := 30, pos := "graph.go:122", after := #[], guard := none }, { dst := some 21, op := Go.Op.move (Go.Operand.tmp 7), type := 3, pos := "graph.go:122", after := #[], guard := none }, { dst := some 22, op := Go.Op.nilCheck (Go.Operand.tmp 20), type := 0, pos := "graph.go:122", after := #[{ on := 1, ground := Go.Ground.data }], guard := none }, { dst := some 23, op := Go.Op.fieldAddr 179 (Go.Operand.tmp 22) 2, type := 0, pos := "graph.go:122", after := #[{ on := 3, ground := Go.Ground.data }], guard := none }, { dst := some 24, op := Go.Op.indexAddr 174 (Go.Operand.tmp 23) (Go.Operand.tmp 21), type := 0, pos := "graph.go:122", after := #[{ on := 4, ground := Go.Ground.data }, { on := 2, ground := Go.Ground.data }], guard := none }, { dst := some 25, op := Go.Op.load 3 (Go.Operand.tmp 24), type := 3, pos := "graph.go:122", after := #[{ on := 5, ground := Go.Ground.data }], guard := none }, { dst := some 26, op := Go.Op.nilCheck (Go.Operand.tmp 19), type := 0, pos := "graph.go:122", after := #[{ on := 0, ground := Go.Ground.data }], guard := none }, { dst := some 27, op := Go.Op.fieldAddr 179 (Go.Operand.tmp 26) 1, type := 0, pos := "graph.go:122", after := #[{ on := 7, ground := Go.Ground.data }], guard := none }, { dst := some 28, op := Go.Op.indexAddr 173 (Go.Operand.tmp 27) (Go.Operand.tmp 25), type := 0, pos := "graph.go:122", after := #[{ on := 8, ground := Go.Ground.data }, { on := 6, ground := Go.Ground.data }], guard := none }, { dst := some 29, op := Go.Op.fieldAddr 172 (Go.Operand.tmp 28) 1, type := 0, pos := "graph.go:122", after := #[{ on := 9, ground := Go.Ground.data }], guard := none }, { dst := some 30, op := Go.Op.load 3 (Go.Operand.tmp 29), type := 3, pos := "graph.go:122", after := #[{ on := 10, ground := Go.Ground.data }], guard := none }, { dst := some 31, op := Go.Op.move (Go.Operand.tmp 1), type := 3, pos := "graph.go:122", after := #[], guard := none }, { dst := some 32, op := Go.Op.binOp Go.BinOp.lss 3 (Go.Operand.tmp 30) (Go.Operand.tmp 31) 3, type := 4, pos := "graph.go:122", after := #[{ on := 11, ground := Go.Ground.data }, { on := 12, ground := Go.Ground.data }], guard := none }]
def op_211_7 : Array Go.Oper := #[{ dst := some 36, op := Go.Op.move (Go.Operand.tmp 5), type := 3, pos := "graph.go:128", after := #[], guard := none }, { dst := some 37, op := Go.Op.move (Go.Operand.tmp 0), type := 30, pos := "graph.go:128", after := #[], guard := none }, { dst := some 38, op := Go.Op.nilCheck (Go.Operand.tmp 37), type := 0, pos := "graph.go:128", after := #[{ on := 1, ground := Go.Ground.data }], guard := none }, { dst := some 39, op := Go.Op.fieldAddr 179 (Go.Operand.tmp 38) 3, type := 0, pos := "graph.go:128", after := #[{ on := 2, ground := Go.Ground.data }], guard := none }, { dst := some 40, op := Go.Op.load 3 (Go.Operand.tmp 39), type := 3, pos := "graph.go:128", after := #[{ on := 3, ground := Go.Ground.data }], guard := none }, { dst := some 41, op := Go.Op.binOp Go.BinOp.lss 3 (Go.Operand.tmp 36) (Go.Operand.tmp 40) 3, type := 4, pos := "graph.go:128", after := #[{ on := 0, ground := Go.Ground.data }, { on := 4, ground := Go.Ground.data }], guard := none }, { dst := some 42, op := Go.Op.move (Go.Operand.tmp 41), type := 4, pos := "graph.go:128", after := #[{ on := 5, ground := Go.Ground.data }], guard := none }, { dst := some 43, op := Go.Op.move (Go.Operand.tmp 0), type := 30, pos := "graph.go:128", after := #[{ on := 6, ground := Go.Ground.guard }], guard := some (6, true) }, { dst := some 44, op := Go.Op.move (Go.Operand.tmp 0), type := 30, pos := "graph.go:128", after := #[{ on := 6, ground := Go.Ground.guard }], guard := some (6, true) }, { dst := some 45, op := Go.Op.move (Go.Operand.tmp 5), type := 3, pos := "graph.go:128", after := #[{ on := 6, ground := Go.Ground.guard }], guard := some (6, true) }, { dst := some 46, op := Go.Op.nilCheck (Go.Operand.tmp 44), type := 0, pos := "graph.go:128", after := #[{ on := 8, ground := Go.Ground.data }, { on := 6, ground := Go.Ground.guard }], guard := some (6, true) }, { dst := some 47, op := Go.Op.fieldAddr 179 (Go.Operand.tmp 46) 2, type := 0, pos := "graph.go:128", after := #[{ on := 10, ground := Go.Ground.data }, { on := 6, ground := Go.Ground.guard }], guard := some (6, true) }, { dst := some 48, op := Go.Op.indexAddr 174 (Go.Operand.tmp 47) (Go.Operand.tmp 45), type := 0, pos := "graph.go:128", after := #[{ on := 11, ground := Go.Ground.data }, { on := 9, ground := Go.Ground.data }, { on := 6, ground := Go.Ground.guard }], guard := some (6, true) }, { dst := some 49, op := Go.Op.load 3 (Go.Operand.tmp 48), type := 3, pos := "graph.go:128", after := #[{ on := 12, ground := Go.Ground.data }, { on := 6, ground := Go.Ground.guard }], guard := some (6, true) }, { dst := some 50, op := Go.Op.nilCheck (Go.Operand.tmp 43), type := 0, pos := "graph.go:128", after := #[{ on := 7, ground := Go.Ground.data }, { on := 6, ground := Go.Ground.guard }], guard := some (6, true) }, { dst := some 51, op := Go.Op.fieldAddr 179 (Go.Operand.tmp 50) 1, type := 0, pos := "graph.go:128", after := #[{ on := 14, ground := Go.Ground.data }, { on := 6, ground := Go.Ground.guard }], guard := some (6, true) }, { dst := some 52, op := Go.Op.indexAddr 173 (Go.Operand.tmp 51) (Go.Operand.tmp 49), type := 0, pos := "graph.go:128", after := #[{ on := 15, ground := Go.Ground.data }, { on := 13, ground := Go.Ground.data }, { on := 6, ground := Go.Ground.guard }], guard := some (6, true) }, { dst := some 53, op := Go.Op.fieldAddr 172 (Go.Operand.tmp 52) 1, type := 0, pos := "graph.go:128", after := #[{ on := 16, ground := Go.Ground.data }, { on := 6, ground := Go.Ground.guard }], guard := some (6, true) }, { dst := some 54, op := Go.Op.load 3 (Go.Operand.tmp 53), type := 3, pos := "graph.go:128", after := #[{ on := 17, ground := Go.Ground.data }, { on := 6, ground := Go.Ground.guard }], guard := some (6, true) }, { dst := some 55, op := Go.Op.move (Go.Operand.tmp 1), type := 3, pos := "graph.go:128", after := #[{ on := 6, ground := Go.Ground.guard }], guard := some (6, true) }, { dst := some 56, op := Go.Op.binOp Go.BinOp.eql 3 (Go.Operand.tmp 54) (Go.Operand.tmp 55) 3, type := 4, pos := "graph.go:128", after := #[{ on := 18, ground := Go.Ground.data }, { on := 19, ground := Go.Ground.data }, { on := 6, ground := Go.Ground.guard }], guard := some (6, true) }, { dst := some 57, op := Go.Op.pick (Go.Operand.tmp 42) (Go.Operand.tmp 56) (Go.Operand.const (Go.Value.bool false)), type := 4, pos := "graph.go:128", after := #[{ on := 6, ground := Go.Ground.data }, { on := 20, ground := Go.Ground.data }], guard := none }]
theorem sb_211_1_0 : softB op_211_1 #[true, true, true, true, true, true] (Array.replicate 6 false) 0 = true := by kernel_rfl
theorem sb_211_1_1 : softB op_211_1 #[true, true, true, true, true, true] ((Array.replicate 6 false).setIfInBounds 0 true) 1 = true := by kernel_rfl
theorem sb_211_1_2 : softB op_211_1 #[true, true, true, true, true, true] (((Array.replicate 6 false).setIfInBounds 0 true).setIfInBounds 1 true) 2 = true := by kernel_rfl
theorem sb_211_1_3 : softB op_211_1 #[true, true, true, true, true, true] ((((Array.replicate 6 false).setIfInBounds 0 true).setIfInBounds 1 true).setIfInBounds 2 true) 3 = true := by kernel_rfl
theorem sb_211_1_4 : softB op_211_1 #[true, true, true, true, true, true] (((((Array.replicate 6 false).setIfInBounds 0 true).setIfInBounds 1 true).setIfInBounds 2 true).setIfInBounds 3 true) 4 = true := by kernel_rfl
theorem sb_211_1_5 : softB op_211_1 #[true, true, true, true, true, true] ((((((Array.replicate 6 false).setIfInBounds 0 true).setIfInBounds 1 true).setIfInBounds 2 true).setIfInBounds 3 true).setIfInBounds 4 true) 5 = true := by kernel_rfl
theorem sb_211_1_6 : hardB op_211_1 (((((((Array.replicate 6 false).setIfInBounds 0 true).setIfInBounds 1 true).setIfInBounds 2 true).setIfInBounds 3 true).setIfInBounds 4 true).setIfInBounds 5 true) [] = true := by kernel_rfl
theorem sb_211_4_0 : softB op_211_4 #[true, true, true, true, true, true, true, true, true, true, true, true, true, true] (Array.replicate 14 false) 0 = true := by kernel_rfl
theorem sb_211_4_1 : softB op_211_4 #[true, true, true, true, true, true, true, true, true, true, true, true, true, true] ((Array.replicate 14 false).setIfInBounds 0 true) 1 = true := by kernel_rfl
theorem sb_211_4_2 : softB op_211_4 #[true, true, true, true, true, true, true, true, true, true, true, true, true, true] (((Array.replicate 14 false).setIfInBounds 0 true).setIfInBounds 1 true) 2 = true := by kernel_rfl
theorem sb_211_4_3 : softB op_211_4 #[true, true, true, true, true, true, true, true, true, true, true, true, true, true] ((((Array.replicate 14 false).setIfInBounds 0 true).setIfInBounds 1 true).setIfInBounds 2 true) 3 = true := by kernel_rfl
theorem sb_211_4_4 : softB op_211_4 #[true, true, true, true, true, true, true, true, true, true, true, true, true, true] (((((Array.replicate 14 false).setIfInBounds 0 true).setIfInBounds 1 true).setIfInBounds 2 true).setIfInBounds 3 true) 4 = true := by kernel_rfl
theorem sb_211_4_5 : softB op_211_4 #[true, true, true, true, true, true, true, true, true, true, true, true, true, true] ((((((Array.replicate 14 false).setIfInBounds 0 true).setIfInBounds 1 true).setIfInBounds 2 true).setIfInBounds 3 true).setIfInBounds 4 true) 5 = true := by kernel_rfl
theorem sb_211_4_6 : softB op_211_4 #[true, true, true, true, true, true, true, true, true, true, true, true, true, true] (((((((Array.replicate 14 false).setIfInBounds 0 true).setIfInBounds 1 true).setIfInBounds 2 true).setIfInBounds 3 true).setIfInBounds 4 true).setIfInBounds 5 true) 6 = true := by kernel_rfl
theorem sb_211_4_7 : softB op_211_4 #[true, true, true, true, true, true, true, true, true, true, true, true, true, true] ((((((((Array.replicate 14 false).setIfInBounds 0 true).setIfInBounds 1 true).setIfInBounds 2 true).setIfInBounds 3 true).setIfInBounds 4 true).setIfInBounds 5 true).setIfInBounds 6 true) 7 = true := by kernel_rfl
theorem sb_211_4_8 : softB op_211_4 #[true, true, true, true, true, true, true, true, true, true, true, true, true, true] (((((((((Array.replicate 14 false).setIfInBounds 0 true).setIfInBounds 1 true).setIfInBounds 2 true).setIfInBounds 3 true).setIfInBounds 4 true).setIfInBounds 5 true).setIfInBounds 6 true).setIfInBounds 7 true) 8 = true := by kernel_rfl
theorem sb_211_4_9 : softB op_211_4 #[true, true, true, true, true, true, true, true, true, true, true, true, true, true] ((((((((((Array.replicate 14 false).setIfInBounds 0 true).setIfInBounds 1 true).setIfInBounds 2 true).setIfInBounds 3 true).setIfInBounds 4 true).setIfInBounds 5 true).setIfInBounds 6 true).setIfInBounds 7 true).setIfInBounds 8 true) 9 = true := by kernel_rfl
theorem sb_211_4_10 : softB op_211_4 #[true, true, true, true, true, true, true, true, true, true, true, true, true, true] (((((((((((Array.replicate 14 false).setIfInBounds 0 true).setIfInBounds 1 true).setIfInBounds 2 true).setIfInBounds 3 true).setIfInBounds 4 true).setIfInBounds 5 true).setIfInBounds 6 true).setIfInBounds 7 true).setIfInBounds 8 true).setIfInBounds 9 true) 10 = true := by kernel_rfl
theorem sb_211_4_11 : softB op_211_4 #[true, true, true, true, true, true, true, true, true, true, true, true, true, true] ((((((((((((Array.replicate 14 false).setIfInBounds 0 true).setIfInBounds 1 true).setIfInBounds 2 true).setIfInBounds 3 true).setIfInBounds 4 true).setIfInBounds 5 true).setIfInBounds 6 true).setIfInBounds 7 true).setIfInBounds 8 true).setIfInBounds 9 true).setIfInBounds 10 true) 11 = true := by kernel_rfl
theorem sb_211_4_12 : softB op_211_4 #[true, true, true, true, true, true, true, true, true, true, true, true, true, true] (((((((((((((Array.replicate 14 false).setIfInBounds 0 true).setIfInBounds 1 true).setIfInBounds 2 true).setIfInBounds 3 true).setIfInBounds 4 true).setIfInBounds 5 true).setIfInBounds 6 true).setIfInBounds 7 true).setIfInBounds 8 true).setIfInBounds 9 true).setIfInBounds 10 true).setIfInBounds 11 true) 12 = true := by kernel_rfl
theorem sb_211_4_13 : softB op_211_4 #[true, true, true, true, true, true, true, true, true, true, true, true, true, true] ((((((((((((((Array.replicate 14 false).setIfInBounds 0 true).setIfInBounds 1 true).setIfInBounds 2 true).setIfInBounds 3 true).setIfInBounds 4 true).setIfInBounds 5 true).setIfInBounds 6 true).setIfInBounds 7 true).setIfInBounds 8 true).setIfInBounds 9 true).setIfInBounds 10 true).setIfInBounds 11 true).setIfInBounds 12 true) 13 = true := by kernel_rfl
theorem sb_211_4_14 : hardB op_211_4 (((((((((((((((Array.replicate 14 false).setIfInBounds 0 true).setIfInBounds 1 true).setIfInBounds 2 true).setIfInBounds 3 true).setIfInBounds 4 true).setIfInBounds 5 true).setIfInBounds 6 true).setIfInBounds 7 true).setIfInBounds 8 true).setIfInBounds 9 true).setIfInBounds 10 true).setIfInBounds 11 true).setIfInBounds 12 true).setIfInBounds 13 true) [] = true := by kernel_rfl
theorem sb_211_7_0 : softB op_211_7 #[true, true, true, true, true, true, true, true, true, true, true, true, true, true, true, true, true, true, true, true, true, true] (Array.replicate 22 false) 0 = true := by kernel_rfl
theorem sb_211_7_1 : softB op_211_7 #[true, true, true, true, true, true, true, true, true, true, true, true, true, true, true, true, true, true, true, true, true, true] ((Array.replicate 22 false).setIfInBounds 0 true) 1 = true := by kernel_rfl
theorem sb_211_7_2 : softB op_211_7 #[true, true, true, true, true, true, true, true, true, true, true, true, true, true, true, true, true, true, true, true, true, true] (((Array.replicate 22 false).setIfInBounds 0 true).setIfInBounds 1 true) 2 = true := by kernel_rfl
theorem sb_211_7_3 : softB op_211_7 #[true, true, true, true, true, true, true, true, true, true, true, true, true, true, true, true, true, true, true, true, true, true] ((((Array.replicate 22 false).setIfInBounds 0 true).setIfInBounds 1 true).setIfInBounds 2 true) 3 = true := by kernel_rfl
theorem sb_211_7_4 : softB op_211_7 #[true, true, true, true, true, true, true, true, true, true, true, true, true, true, true, true, true, true, true, true, true, true] (((((Array.replicate 22 false).setIfInBounds 0 true).setIfInBounds 1 true).setIfInBounds 2 true).setIfInBounds 3 true) 4 = true := by kernel_rfl
theorem sb_211_7_5 : softB op_211_7 #[true, true, true, true, true, true, true, true, true, true, true, true, true, true, true, true, true, true, true, true, true, true] ((((((Array.replicate 22 false).setIfInBounds 0 true).setIfInBounds 1 true).setIfInBounds 2 true).setIfInBounds 3 true).setIfInBounds 4 true) 5 = true := by kernel_rfl
theorem sb_211_7_6 : softB op_211_7 #[true, true, true, true, true, true, true, true, true, true, true, true, true, true, true, true, true, true, true, true, true, true] (((((((Array.replicate 22 false).setIfInBounds 0 true).setIfInBounds 1 true).setIfInBounds 2 true).setIfInBounds 3 true).setIfInBounds 4 true).setIfInBounds 5 true) 6 = true := by kernel_rfl
theorem sb_211_7_7 : softB op_211_7 #[true, true, true, true, true, true, true, true, true, true, true, true, true, true, true, true, true, true, true, true, true, true] ((((((((Array.replicate 22 false).setIfInBounds 0 true).setIfInBounds 1 true).setIfInBounds 2 true).setIfInBounds 3 true).setIfInBounds 4 true).setIfInBounds 5 true).setIfInBounds 6 true) 7 = true := by kernel_rfl
theorem sb_211_7_8 : softB op_211_7 #[true, true, true, true, true, true, true, true, true, true, true, true, true, true, true, true, true, true, true, true, true, true] (((((((((Array.replicate 22 false).setIfInBounds 0 true).setIfInBounds 1 true).setIfInBounds 2 true).setIfInBounds 3 true).setIfInBounds 4 true).setIfInBounds 5 true).setIfInBounds 6 true).setIfInBounds 7 true) 8 = true := by kernel_rfl
theorem sb_211_7_9 : softB op_211_7 #[true, true, true, true, true, true, true, true, true, true, true, true, true, true, true, true, true, true, true, true, true, true] ((((((((((Array.replicate 22 false).setIfInBounds 0 true).setIfInBounds 1 true).setIfInBounds 2 true).setIfInBounds 3 true).setIfInBounds 4 true).setIfInBounds 5 true).setIfInBounds 6 true).setIfInBounds 7 true).setIfInBounds 8 true) 9 = true := by kernel_rfl
theorem sb_211_7_10 : softB op_211_7 #[true, true, true, true, true, true, true, true, true, true, true, true, true, true, true, true, true, true, true, true, true, true] (((((((((((Array.replicate 22 false).setIfInBounds 0 true).setIfInBounds 1 true).setIfInBounds 2 true).setIfInBounds 3 true).setIfInBounds 4 true).setIfInBounds 5 true).setIfInBounds 6 true).setIfInBounds 7 true).setIfInBounds 8 true).setIfInBounds 9 true) 10 = true := by kernel_rfl
theorem sb_211_7_11 : softB op_211_7 #[true, true, true, true, true, true, true, true, true, true, true, true, true, true, true, true, true, true, true, true, true, true] ((((((((((((Array.replicate 22 false).setIfInBounds 0 true).setIfInBounds 1 true).setIfInBounds 2 true).setIfInBounds 3 true).setIfInBounds 4 true).setIfInBounds 5 true).setIfInBounds 6 true).setIfInBounds 7 true).setIfInBounds 8 true).setIfInBounds 9 true).setIfInBounds 10 true) 11 = true := by kernel_rfl
theorem sb_211_7_12 : softB op_211_7 #[true, true, true, true, true, true, true, true, true, true, true, true, true, true, true, true, true, true, true, true, true, true] (((((((((((((Array.replicate 22 false).setIfInBounds 0 true).setIfInBounds 1 true).setIfInBounds 2 true).setIfInBounds 3 true).setIfInBounds 4 true).setIfInBounds 5 true).setIfInBounds 6 true).setIfInBounds 7 true).setIfInBounds 8 true).setIfInBounds 9 true).setIfInBounds 10 true).setIfInBounds 11 true) 12 = true := by kernel_rfl
theorem sb_211_7_13 : softB op_211_7 #[true, true, true, true, true, true, true, true, true, true, true, true, true, true, true, true, true, true, true, true, true, true] ((((((((((((((Array.replicate 22 false).setIfInBounds 0 true).setIfInBounds 1 true).setIfInBounds 2 true).setIfInBounds 3 true).setIfInBounds 4 true).setIfInBounds 5 true).setIfInBounds 6 true).setIfInBounds 7 true).setIfInBounds 8 true).setIfInBounds 9 true).setIfInBounds 10 true).setIfInBounds 11 true).setIfInBounds 12 true) 13 = true := by kernel_rfl
theorem sb_211_7_14 : softB op_211_7 #[true, true, true, true, true, true, true, true, true, true, true, true, true, true, true, true, true, true, true, true, true, true] (((((((((((((((Array.replicate 22 false).setIfInBounds 0 true).setIfInBounds 1 true).setIfInBounds 2 true).setIfInBounds 3 true).setIfInBounds 4 true).setIfInBounds 5 true).setIfInBounds 6 true).setIfInBounds 7 true).setIfInBounds 8 true).setIfInBounds 9 true).setIfInBounds 10 true).setIfInBounds 11 true).setIfInBounds 12 true).setIfInBounds 13 true) 14 = true := by kernel_rfl
theorem sb_211_7_15 : softB op_211_7 #[true, true, true, true, true, true, true, true, true, true, true, true, true, true, true, true, true, true, true, true, true, true] ((((((((((((((((Array.replicate 22 false).setIfInBounds 0 true).setIfInBounds 1 true).setIfInBounds 2 true).setIfInBounds 3 true).setIfInBounds 4 true).setIfInBounds 5 true).setIfInBounds 6 true).setIfInBounds 7 true).setIfInBounds 8 true).setIfInBounds 9 true).setIfInBounds 10 true).setIfInBounds 11 true).setIfInBounds 12 true).setIfInBounds 13 true).setIfInBounds 14 true) 15 = true := by kernel_rfl
theorem sb_211_7_16 : softB op_211_7 #[true, true, true, true, true, true, true, true, true, true, true, true, true, true, true, true, true, true, true, true, true, true] (((((((((((((((((Array.replicate 22 false).setIfInBounds 0 true).setIfInBounds 1 true).setIfInBounds 2 true).setIfInBounds 3 true).setIfInBounds 4 true).setIfInBounds 5 true).setIfInBounds 6 true).setIfInBounds 7 true).setIfInBounds 8 true).setIfInBounds 9 true).setIfInBounds 10 true).setIfInBounds 11 true).setIfInBounds 12 true).setIfInBounds 13 true).setIfInBounds 14 true).setIfInBounds 15 true) 16 = true := by kernel_rfl
theorem sb_211_7_17 : softB op_211_7 #[true, true, true, true, true, true, true, true, true, true, true, true, true, true, true, true, true, true, true, true, true, true] ((((((((((((((((((Array.replicate 22 false).setIfInBounds 0 true).setIfInBounds 1 true).setIfInBounds 2 true).setIfInBounds 3 true).setIfInBounds 4 true).setIfInBounds 5 true).setIfInBounds 6 true).setIfInBounds 7 true).setIfInBounds 8 true).setIfInBounds 9 true).setIfInBounds 10 true).setIfInBounds 11 true).setIfInBounds 12 true).setIfInBounds 13 true).setIfInBounds 14 true).setIfInBounds 15 true).setIfInBounds 16 true) 17 = true := by kernel_rfl
theorem sb_211_7_18 : softB op_211_7 #[true, true, true, true, true, true, true, true, true, true, true, true, true, true, true, true, true, true, true, true, true, true] (((((((((((((((((((Array.replicate 22 false).setIfInBounds 0 true).setIfInBounds 1 true).setIfInBounds 2 true).setIfInBounds 3 true).setIfInBounds 4 true).setIfInBounds 5 true).setIfInBounds 6 true).setIfInBounds 7 true).setIfInBounds 8 true).setIfInBounds 9 true).setIfInBounds 10 true).setIfInBounds 11 true).setIfInBounds 12 true).setIfInBounds 13 true).setIfInBounds 14 true).setIfInBounds 15 true).setIfInBounds 16 true).setIfInBounds 17 true) 18 = true := by kernel_rfl
theorem sb_211_7_19 : softB op_211_7 #[true, true, true, true, true, true, true, true, true, true, true, true, true, true, true, true, true, true, true, true, true, true] ((((((((((((((((((((Array.replicate 22 false).setIfInBounds 0 true).setIfInBounds 1 true).setIfInBounds 2 true).setIfInBounds 3 true).setIfInBounds 4 true).setIfInBounds 5 true).setIfInBounds 6 true).setIfInBounds 7 true).setIfInBounds 8 true).setIfInBounds 9 true).setIfInBounds 10 true).setIfInBounds 11 true).setIfInBounds 12 true).setIfInBounds 13 true).setIfInBounds 14 true).setIfInBounds 15 true).setIfInBounds 16 true).setIfInBounds 17 true).setIfInBounds 18 true) 19 = true := by kernel_rfl
theorem sb_211_7_20 : softB op_211_7 #[true, true, true, true, true, true, true, true, true, true, true, true, true, true, true, true, true, true, true, true, true, true] (((((((((((((((((((((Array.replicate 22 false).setIfInBounds 0 true).setIfInBounds 1 true).setIfInBounds 2 true).setIfInBounds 3 true).setIfInBounds 4 true).setIfInBounds 5 true).setIfInBounds 6 true).setIfInBounds 7 true).setIfInBounds 8 true).setIfInBounds 9 true).setIfInBounds 10 true).setIfInBounds 11 true).setIfInBounds 12 true).setIfInBounds 13 true).setIfInBounds 14 true).setIfInBounds 15 true).setIfInBounds 16 true).setIfInBounds 17 true).setIfInBounds 18 true).setIfInBounds 19 true) 20 = true := by kernel_rfl
theorem sb_211_7_21 : softB op_211_7 #[true, true, true, true, true, true, true, true, true, true, true, true, true, true, true, true, true, true, true, true, true, true] ((((((((((((((((((((((Array.replicate 22 false).setIfInBounds 0 true).setIfInBounds 1 true).setIfInBounds 2 true).setIfInBounds 3 true).setIfInBounds 4 true).setIfInBounds 5 true).setIfInBounds 6 true).setIfInBounds 7 true).setIfInBounds 8 true).setIfInBounds 9 true).setIfInBounds 10 true).setIfInBounds 11 true).setIfInBounds 12 true).setIfInBounds 13 true).setIfInBounds 14 true).setIfInBounds 15 true).setIfInBounds 16 true).setIfInBounds 17 true).setIfInBounds 18 true).setIfInBounds 19 true).setIfInBounds 20 true) 21 = true := by kernel_rfl
theorem sb_211_7_22 : hardB op_211_7 (((((((((((((((((((((((Array.replicate 22 false).setIfInBounds 0 true).setIfInBounds 1 true).setIfInBounds 2 true).setIfInBounds 3 true).setIfInBounds 4 true).setIfInBounds 5 true).setIfInBounds 6 true).setIfInBounds 7 true).setIfInBounds 8 true).setIfInBounds 9 true).setIfInBounds 10 true).setIfInBounds 11 true).setIfInBounds 12 true).setIfInBounds 13 true).setIfInBounds 14 true).setIfInBounds 15 true).setIfInBounds 16 true).setIfInBounds 17 true).setIfInBounds 18 true).setIfInBounds 19 true).setIfInBounds 20 true).setIfInBounds 21 true) [] = true := by kernel_rfl
/- (*graph.Graph).find -/
def m211_w1 (n : Nat) (g : Graph) (seq : Int) (mm : Nat) : Int → Int → Option (Int × Int) := it2 (fun lp1 c1 c2 =>
cond (decide (c1 < c2)) (
Option.bind (ckA (wi (Int.tdiv (wi (c1 + c2)) 2)) 48) fun _ =>
Option.bind (ckA (g.order (wi (Int.tdiv (wi (c1 + c2)) 2))) 49) fun _ =>
cond (decide ((g.com (g.order (wi (Int.tdiv (wi (c1 + c2)) 2)))).seq < seq)) (
lp1 (wi ((wi (Int.tdiv (wi (c1 + c2)) 2)) + 1)) c2) (
lp1 c1 (wi (Int.tdiv (wi (c1 + c2)) 2)))) (
some (c1, c2))) mm
def m211 (n : Nat) (g : Graph) (seq : Int) : Option (Int) :=
ob2 (m211_w1 n g seq n 0 g.n) fun c3 c4 =>
ob1 (cond (decide (c3 < g.n)) (Option.bind (ckA c3 48) fun _ =>
Option.bind (ckA (g.order c3) 49) fun _ =>
some ((decide ((g.com (g.order c3)).seq = seq)))) (some (false))) fun c5 =>
cond c5 (
Option.bind (ckA c3 48) fun _ =>
some (g.order c3)) (
some 0)
theorem t211 {n : Nat} {C : List Chunk} {rc1 : Int} {b1 : Nat} {g : Graph} {q1 : Option Addr} {seq : Int}   (hm : m211 n g seq = some rc1) : Trip Tryz.prog 211 #[.pointer (some ⟨b1, 0, none⟩), .int .i64 seq] ([[(b1, .cells (Graph.enc ((.pointer q1)) g).toArray 179 (0, 0))]] ++ [C]) (fun u S' => .int .i64 rc1 = u ∧ S' = [[(b1, .cells (Graph.enc ((.pointer q1)) g).toArray 179 (0, 0))]] ++ [C]) := by
  refine fn_entry (args := [.pointer (some ⟨b1, 0, none⟩), .int .i64 seq]) Tryz.func211 rfl Tryz.ntmps211 rfl (fun w0 => ?_)
  refine c_seq ?_
  refine c_region ?_
  refine o_L (y_assign rfl) rfl rfl ?_
  refine o_nil0 rfl ?_
  refine c_seq ?_
  refine c_draw #[true, true, true, true, true, true] rfl (n := 6) rfl ?_
  refine d_T 0 rfl sb_211_1_0 rfl (y_move rfl) rfl ?_
  refine d_T 1 rfl sb_211_1_1 rfl (y_nilck rfl) rfl ?_
  refine d_T 2 rfl sb_211_1_2 rfl (y_fa fl_179_3 rfl) rfl ?_
  refine d_ld 3 rfl sb_211_1_3 one_3 rfl (fun x hx => hx) m0 (At.got (At.refl.comp Graph.a_n)) rfl ?_
  refine d_L 4 rfl sb_211_1_4 rfl (y_assign rfl) rfl rfl ?_
  refine d_L 5 rfl sb_211_1_5 rfl (y_assign rfl) rfl rfl ?_
  refine d_nil0 sb_211_1_6 rfl ?_
  refine c_seq ?_
  obtain ⟨c3, c4, hj1, hm⟩ := bd2 hm
  refine c_joinP (n := 0) (fun sh G => sh = [(5, .int .i64 c3), (6, .int .i64 c4)] ∧ G = []) (s_take (s_take s_nil)) .z (fun _ _ h => h) ?_ ?_
  · skip
    refine c_block ?_
    refine c_loopP (n := 0) (fun mm sh G => ∃ (c1 : Int), ∃ (c2 : Int), sh = [(5, .int .i64 c1), (6, .int .i64 c2)] ∧ G = [] ∧ m211_w1 n g seq mm c1 c2 = some (c3, c4)) n (s_take (s_take s_nil)) .z ⟨_, _, ⟨_, _, rfl, rfl, hj1⟩, ⟨rfl, rfl, trivial⟩, _, (s_take (s_take s_nil))⟩ ?_
    rintro mm sh G ⟨c1, c2, rfl, rfl, hm⟩
    obtain ⟨mm1, rfl, hm⟩ := it2_s hm
    refine c_seq ?_
    refine c_seq ?_
    refine c_region ?_
    refine o_T (y_move rfl) rfl ?_
    refine o_T (y_move rfl) rfl ?_
    refine o_T (y_lss rfl rfl) rfl ?_
    refine o_nil1 14 rfl rfl ?_
    refine c_cond rfl (fun h1 => ?_) (fun h1 => ?_)
    · have hm := cd_t h1 hm
      refine c_skip ?_
      refine c_block ?_
      refine c_seq ?_
      refine c_region ?_
      refine o_T (y_move rfl) rfl ?_
      refine o_T (y_move rfl) rfl ?_
      refine o_T (y_add rfl rfl rfl) rfl ?_
      refine o_T (y_quo rfl rfl (by decide) rfl) rfl ?_
      refine o_L (y_assign rfl) rfl rfl ?_
      refine o_nil0 rfl ?_
      refine c_seq ?_
      refine c_draw #[true, true, true, true, true, true, true, true, true, true, true, true, true, true] rfl (n := 14) rfl ?_
      refine d_T 0 rfl sb_211_4_0 rfl (y_move rfl) rfl ?_
      refine d_T 1 rfl sb_211_4_1 rfl (y_move rfl) rfl ?_
      refine d_T 2 rfl sb_211_4_2 rfl (y_move rfl) rfl ?_
      refine d_T 3 rfl sb_211_4_3 rfl (y_nilck rfl) rfl ?_
      refine d_T 4 rfl sb_211_4_4 rfl (y_fa fl_179_2 rfl) rfl ?_
      obtain ⟨_, hx1, hm⟩ := bd hm
      have hx1 := ckA_some hx1
      refine d_T 5 rfl sb_211_4_5 rfl (y_ia ar_174 rfl rfl hx1.1 hx1.2) rfl ?_
      refine d_ld 6 rfl sb_211_4_6 one_3 rfl (fun x hx => hx) m0 (At.got ((At.refl.comp Graph.a_order).comp (encN_a encI_len _ _ hx1.1 _ hx1.2))) rfl ?_
      refine d_T 7 rfl sb_211_4_7 rfl (y_nilck rfl) rfl ?_
      refine d_T 8 rfl sb_211_4_8 rfl (y_fa fl_179_1 rfl) rfl ?_
      obtain ⟨_, hx2, hm⟩ := bd hm
      have hx2 := ckA_some hx2
      refine d_T 9 rfl sb_211_4_9 rfl (y_ia ar_173 rfl rfl hx2.1 hx2.2) rfl ?_
      refine d_T 10 rfl sb_211_4_10 rfl (y_fa fl_172_1 rfl) rfl ?_
      refine d_ld 11 rfl sb_211_4_11 one_3 rfl (fun x hx => hx) m0 (At.got (((At.refl.comp Graph.a_com).comp (encN_a Com.len _ _ hx2.1 _ hx2.2)).comp Com.a_seq)) rfl ?_
      refine d_T 12 rfl sb_211_4_12 rfl (y_move rfl) rfl ?_
      refine d_T 13 rfl sb_211_4_13 rfl (y_lss rfl rfl) rfl ?_
      refine d_nil1 32 sb_211_4_14 rfl rfl ?_
      refine c_cond rfl (fun h2 => ?_) (fun h2 => ?_)
      · have hm := cd_t h2 hm
        refine c_region ?_
        refine o_T (y_move rfl) rfl ?_
        refine o_T (y_add rfl rfl rfl) rfl ?_
        refine o_L (y_assign rfl) rfl rfl ?_
        refine o_nil0 rfl ?_
        exact ⟨mm1, Nat.lt_succ_self _, _, _, ⟨_, _, rfl, rfl, hm⟩, ⟨rfl, rfl, trivial⟩, ⟨rfl, rfl⟩, _, (s_take (s_take s_nil))⟩
      · have hm := cd_f h2 hm
        refine c_region ?_
        refine o_T (y_move rfl) rfl ?_
        refine o_L (y_assign rfl) rfl rfl ?_
        refine o_nil0 rfl ?_
        exact ⟨mm1, Nat.lt_succ_self _, _, _, ⟨_, _, rfl, rfl, hm⟩, ⟨rfl, rfl, trivial⟩, ⟨rfl, rfl⟩, _, (s_take (s_take s_nil))⟩
    · have hm := cd_f h1 hm
      refine c_exit ?_
      obtain ⟨rfl, rfl⟩ := pr2 hm
      exact ⟨_, _, ⟨rfl, rfl⟩, ⟨rfl, rfl, trivial⟩, ⟨rfl, rfl⟩, _, (s_take (s_take s_nil))⟩
  · rintro sh G ⟨rfl, rfl⟩
    refine c_seq ?_
    refine c_seq ?_
    obtain ⟨c5, hj2, hm⟩ := bd1 hm
    refine c_joinP (n := 0) (fun sh G => sh = [(57, .bool c5)] ∧ G = []) Sel.all' .z (fun _ _ h => h) ?_ ?_
    · have hm := hj2
      refine c_draw #[true, true, true, true, true, true, true, true, true, true, true, true, true, true, true, true, true, true, true, true, true, true] rfl (n := 22) rfl ?_
      refine d_T 0 rfl sb_211_7_0 rfl (y_move rfl) rfl ?_
      refine d_T 1 rfl sb_211_7_1 rfl (y_move rfl) rfl ?_
      refine d_T 2 rfl sb_211_7_2 rfl (y_nilck rfl) rfl ?_
      refine d_T 3 rfl sb_211_7_3 rfl (y_fa fl_179_3 rfl) rfl ?_
      refine d_ld 4 rfl sb_211_7_4 one_3 rfl (fun x hx => hx) m0 (At.got (At.refl.comp Graph.a_n)) rfl ?_
      refine d_T 5 rfl sb_211_7_5 rfl (y_lss rfl rfl) rfl ?_
      refine d_T 6 rfl sb_211_7_6 rfl (y_move rfl) rfl ?_
      refine d_split 42 rfl (fun h3 => ?_) (fun h3 => ?_)
      · have hm := cd_t h3 hm
        refine d_Tg 7 rfl rfl rfl rfl sb_211_7_7 rfl (y_move rfl) rfl ?_
        refine d_Tg 8 rfl rfl rfl rfl sb_211_7_8 rfl (y_move rfl) rfl ?_
        refine d_Tg 9 rfl rfl rfl rfl sb_211_7_9 rfl (y_move rfl) rfl ?_
        refine d_Tg 10 rfl rfl rfl rfl sb_211_7_10 rfl (y_nilck rfl) rfl ?_
        refine d_Tg 11 rfl rfl rfl rfl sb_211_7_11 rfl (y_fa fl_179_2 rfl) rfl ?_
        obtain ⟨_, hx3, hm⟩ := bd hm
        have hx3 := ckA_some hx3
        refine d_Tg 12 rfl rfl rfl rfl sb_211_7_12 rfl (y_ia ar_174 rfl rfl hx3.1 hx3.2) rfl ?_
        refine d_ldt 13 rfl rfl rfl rfl sb_211_7_13 one_3 rfl (fun x hx => hx) m0 (At.got ((At.refl.comp Graph.a_order).comp (encN_a encI_len _ _ hx3.1 _ hx3.2))) rfl ?_
        refine d_Tg 14 rfl rfl rfl rfl sb_211_7_14 rfl (y_nilck rfl) rfl ?_
        refine d_Tg 15 rfl rfl rfl rfl sb_211_7_15 rfl (y_fa fl_179_1 rfl) rfl ?_
        obtain ⟨_, hx4, hm⟩ := bd hm
        have hx4 := ckA_some hx4
        refine d_Tg 16 rfl rfl rfl rfl sb_211_7_16 rfl (y_ia ar_173 rfl rfl hx4.1 hx4.2) rfl ?_
        refine d_Tg 17 rfl rfl rfl rfl sb_211_7_17 rfl (y_fa fl_172_1 rfl) rfl ?_
        refine d_ldt 18 rfl rfl rfl rfl sb_211_7_18 one_3 rfl (fun x hx => hx) m0 (At.got (((At.refl.comp Graph.a_com).comp (encN_a Com.len _ _ hx4.1 _ hx4.2)).comp Com.a_seq)) rfl ?_
        refine d_Tg 19 rfl rfl rfl rfl sb_211_7_19 rfl (y_move rfl) rfl ?_
        refine d_Tg 20 rfl rfl rfl rfl sb_211_7_20 rfl (y_eql rfl rfl) rfl ?_
        refine d_T 21 rfl sb_211_7_21 rfl (y_pickT rfl rfl) rfl ?_
        refine d_nil1 57 sb_211_7_22 rfl rfl ?_
        obtain rfl := p1 hm
        exact ⟨_, _, ⟨rfl, rfl⟩, ⟨rfl, trivial⟩, ⟨rfl, rfl⟩, _, (s_take (s_take s_nil))⟩
      · have hm := cd_f h3 hm
        refine d_pass 7 rfl rfl rfl rfl rfl sb_211_7_7 (fun x hx => hx) rfl ?_
        refine d_pass 8 rfl rfl rfl rfl rfl sb_211_7_8 (fun x hx => hx) rfl ?_
        refine d_pass 9 rfl rfl rfl rfl rfl sb_211_7_9 (fun x hx => hx) rfl ?_
        refine d_pass 10 rfl rfl rfl rfl rfl sb_211_7_10 (fun x hx => hx) rfl ?_
        refine d_pass 11 rfl rfl rfl rfl rfl sb_211_7_11 (fun x hx => hx) rfl ?_
        refine d_pass 12 rfl rfl rfl rfl rfl sb_211_7_12 (fun x hx => hx) rfl ?_
        refine d_pass 13 rfl rfl rfl rfl rfl sb_211_7_13 (fun x hx => hx) rfl ?_
        refine d_pass 14 rfl rfl rfl rfl rfl sb_211_7_14 (fun x hx => hx) rfl ?_
        refine d_pass 15 rfl rfl rfl rfl rfl sb_211_7_15 (fun x hx => hx) rfl ?_
        refine d_pass 16 rfl rfl rfl rfl rfl sb_211_7_16 (fun x hx => hx) rfl ?_
        refine d_pass 17 rfl rfl rfl rfl rfl sb_211_7_17 (fun x hx => hx) rfl ?_
        refine d_pass 18 rfl rfl rfl rfl rfl sb_211_7_18 (fun x hx => hx) rfl ?_
        refine d_pass 19 rfl rfl rfl rfl rfl sb_211_7_19 (fun x hx => hx) rfl ?_
        refine d_pass 20 rfl rfl rfl rfl rfl sb_211_7_20 (fun x hx => hx) rfl ?_
        refine d_T 21 rfl sb_211_7_21 rfl (y_pickF rfl rfl) rfl ?_
        refine d_nil1 57 sb_211_7_22 rfl rfl ?_
        obtain rfl := p1 hm
        exact ⟨_, _, ⟨rfl, rfl⟩, ⟨rfl, trivial⟩, ⟨rfl, rfl⟩, _, (s_take (s_take s_nil))⟩
    · rintro sh G ⟨rfl, rfl⟩
      refine c_cond rfl (fun h4 => ?_) (fun h4 => ?_)
      · have hm := cd_t h4 hm
        refine c_seq ?_
        refine c_region ?_
        refine o_T (y_move rfl) rfl ?_
        refine o_T (y_move rfl) rfl ?_
        refine o_T (y_nilck rfl) rfl ?_
        refine o_T (y_fa fl_179_2 rfl) rfl ?_
        obtain ⟨_, hx5, hm⟩ := bd hm
        have hx5 := ckA_some hx5
        refine o_T (y_ia ar_174 rfl rfl hx5.1 hx5.2) rfl ?_
        refine o_ld one_3 rfl m0 (At.got ((At.refl.comp Graph.a_order).comp (encN_a encI_len _ _ hx5.1 _ hx5.2))) rfl ?_
        refine o_L (y_assign rfl) rfl rfl ?_
        refine o_nil0 rfl ?_
        refine c_ret ?_
        obtain rfl := p1 hm
        refine fun aX wX heX hsX => ret1 Tryz.results211 heX rfl (s_take (s_take s_nil)) ?_
        exact ⟨rfl, rfl⟩
      · have hm := cd_f h4 hm
        refine c_skip ?_
        refine c_seq ?_
        refine c_region ?_
        refine o_L (y_assign rfl) rfl rfl ?_
        refine o_nil0 rfl ?_
        refine c_ret ?_
        obtain rfl := p1 hm
        refine fun aX wX heX hsX => ret1 Tryz.results211 heX rfl (s_take (s_take s_nil)) ?_
        exact ⟨rfl, rfl⟩
end Go.Proofs.Qxb6500350aGreat
