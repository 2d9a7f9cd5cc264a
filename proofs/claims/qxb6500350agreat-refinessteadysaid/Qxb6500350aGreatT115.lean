/- MADE BY PROGRAM (tools350/mir.py): mirror and walk. -/
import Derived.Test.Qxb6500350aGreatF2
set_option linter.unusedVariables false
set_option linter.unusedSimpArgs false
set_option maxRecDepth 20000
set_option maxHeartbeats 4000000
namespace Go.Proofs.Qxb6500350aGreat
open Go.Eng

def op_115_1 : Array Go.Oper := #[{ dst := some 9, op := Go.Op.move (Go.Operand.tmp 0), type := 33, pos := "work.go:9", after := #[{ on := 4, ground := Go.Ground.gcOnly Go.Departure.lateStores }], guard := none }, { dst := some 10, op := Go.Op.nilCheck (Go.Operand.tmp 9), type := 0, pos := "work.go:9", after := #[{ on := 0, ground := Go.Ground.data }, { on := 4, ground := Go.Ground.gcOnly Go.Departure.lateStores }], guard := none }, { dst := some 11, op := Go.Op.fieldAddr 130 (Go.Operand.tmp 10) 4, type := 0, pos := "work.go:9", after := #[{ on := 1, ground := Go.Ground.data }, { on := 4, ground := Go.Ground.gcOnly Go.Departure.lateStores }], guard := none }, { dst := some 12, op := Go.Op.load 3 (Go.Operand.tmp 11), type := 3, pos := "work.go:9", after := #[{ on := 2, ground := Go.Ground.data }, { on := 4, ground := Go.Ground.gcOnly Go.Departure.lateStores }], guard := none }, { dst := some 6, op := Go.Op.assign (Go.Operand.const (Go.Value.int Go.IntKind.i64 0)), type := 3, pos := "work.go:9", after := #[{ on := 0, ground := Go.Ground.textOnly Go.Departure.lateStores }, { on := 1, ground := Go.Ground.textOnly Go.Departure.lateStores }, { on := 2, ground := Go.Ground.textOnly Go.Departure.lateStores }, { on := 3, ground := Go.Ground.textOnly Go.Departure.lateStores }], guard := none }, { dst := some 7, op := Go.Op.assign (Go.Operand.tmp 12), type := 3, pos := "work.go:9", after := #[{ on := 3, ground := Go.Ground.data }, { on := 4, ground := Go.Ground.chain }, { on := 0, ground := Go.Ground.phase }, { on := 1, ground := Go.Ground.phase }, { on := 2, ground := Go.Ground.phase }, { on := 3, ground := Go.Ground.phase }, { on := 4, ground := Go.Ground.phase }], guard := none }]
def op_115_7 : Array Go.Oper := #[{ dst := some 32, op := Go.Op.move (Go.Operand.tmp 6), type := 3, pos := "work.go:18", after := #[], guard := none }, { dst := some 33, op := Go.Op.move (Go.Operand.tmp 6), type := 3, pos := "work.go:18", after := #[], guard := none }, { dst := some 34, op := Go.Op.move (Go.Operand.tmp 0), type := 33, pos := "work.go:18", after := #[], guard := none }, { dst := some 35, op := Go.Op.nilCheck (Go.Operand.tmp 34), type := 0, pos := "work.go:18", after := #[{ on := 2, ground := Go.Ground.data }], guard := none }, { dst := some 36, op := Go.Op.fieldAddr 130 (Go.Operand.tmp 35) 4, type := 0, pos := "work.go:18", after := #[{ on := 3, ground := Go.Ground.data }], guard := none }, { dst := some 37, op := Go.Op.load 3 (Go.Operand.tmp 36), type := 3, pos := "work.go:18", after := #[{ on := 4, ground := Go.Ground.data }], guard := none }, { dst := some 38, op := Go.Op.binOp Go.BinOp.lss 3 (Go.Operand.tmp 33) (Go.Operand.tmp 37) 3, type := 4, pos := "work.go:18", after := #[{ on := 1, ground := Go.Ground.data }, { on := 5, ground := Go.Ground.data }], guard := none }, { dst := some 39, op := Go.Op.move (Go.Operand.tmp 38), type := 4, pos := "work.go:18", after := #[{ on := 6, ground := Go.Ground.data }], guard := none }, { dst := some 40, op := Go.Op.move (Go.Operand.tmp 0), type := 33, pos := "work.go:18", after := #[{ on := 7, ground := Go.Ground.guard }, { on := 18, ground := Go.Ground.gcOnly Go.Departure.lateStores }], guard := some (7, true) }, { dst := some 41, op := Go.Op.move (Go.Operand.tmp 6), type := 3, pos := "work.go:18", after := #[{ on := 7, ground := Go.Ground.guard }, { on := 18, ground := Go.Ground.gcOnly Go.Departure.lateStores }], guard := some (7, true) }, { dst := some 42, op := Go.Op.nilCheck (Go.Operand.tmp 40), type := 0, pos := "work.go:18", after := #[{ on := 8, ground := Go.Ground.data }, { on := 7, ground := Go.Ground.guard }, { on := 18, ground := Go.Ground.gcOnly Go.Departure.lateStores }], guard := some (7, true) }, { dst := some 43, op := Go.Op.fieldAddr 130 (Go.Operand.tmp 42) 3, type := 0, pos := "work.go:18", after := #[{ on := 10, ground := Go.Ground.data }, { on := 7, ground := Go.Ground.guard }, { on := 18, ground := Go.Ground.gcOnly Go.Departure.lateStores }], guard := some (7, true) }, { dst := some 44, op := Go.Op.indexAddr 128 (Go.Operand.tmp 43) (Go.Operand.tmp 41), type := 0, pos := "work.go:18", after := #[{ on := 11, ground := Go.Ground.data }, { on := 9, ground := Go.Ground.data }, { on := 7, ground := Go.Ground.guard }, { on := 18, ground := Go.Ground.gcOnly Go.Departure.lateStores }], guard := some (7, true) }, { dst := some 45, op := Go.Op.fieldAddr 71 (Go.Operand.tmp 44) 0, type := 0, pos := "work.go:18", after := #[{ on := 12, ground := Go.Ground.data }, { on := 7, ground := Go.Ground.guard }, { on := 18, ground := Go.Ground.gcOnly Go.Departure.lateStores }], guard := some (7, true) }, { dst := some 46, op := Go.Op.load 9 (Go.Operand.tmp 45), type := 9, pos := "work.go:18", after := #[{ on := 13, ground := Go.Ground.data }, { on := 7, ground := Go.Ground.guard }, { on := 18, ground := Go.Ground.gcOnly Go.Departure.lateStores }], guard := some (7, true) }, { dst := some 47, op := Go.Op.move (Go.Operand.tmp 1), type := 9, pos := "work.go:18", after := #[{ on := 7, ground := Go.Ground.guard }, { on := 18, ground := Go.Ground.gcOnly Go.Departure.lateStores }], guard := some (7, true) }, { dst := some 48, op := Go.Op.binOp Go.BinOp.eql 9 (Go.Operand.tmp 46) (Go.Operand.tmp 47) 9, type := 4, pos := "work.go:18", after := #[{ on := 14, ground := Go.Ground.data }, { on := 15, ground := Go.Ground.data }, { on := 7, ground := Go.Ground.guard }, { on := 18, ground := Go.Ground.gcOnly Go.Departure.lateStores }], guard := some (7, true) }, { dst := some 49, op := Go.Op.pick (Go.Operand.tmp 39) (Go.Operand.tmp 48) (Go.Operand.const (Go.Value.bool false)), type := 4, pos := "work.go:18", after := #[{ on := 7, ground := Go.Ground.data }, { on := 16, ground := Go.Ground.data }, { on := 18, ground := Go.Ground.gcOnly Go.Departure.lateStores }], guard := none }, { dst := some 4, op := Go.Op.assign (Go.Operand.tmp 32), type := 3, pos := "work.go:18", after := #[{ on := 0, ground := Go.Ground.data }, { on := 7, ground := Go.Ground.chain }, { on := 0, ground := Go.Ground.phase }, { on := 1, ground := Go.Ground.textOnly Go.Departure.lateStores }, { on := 2, ground := Go.Ground.textOnly Go.Departure.lateStores }, { on := 3, ground := Go.Ground.textOnly Go.Departure.lateStores }, { on := 4, ground := Go.Ground.textOnly Go.Departure.lateStores }, { on := 5, ground := Go.Ground.textOnly Go.Departure.lateStores }, { on := 6, ground := Go.Ground.textOnly Go.Departure.lateStores }, { on := 7, ground := Go.Ground.textOnly Go.Departure.lateStores }, { on := 8, ground := Go.Ground.textOnly Go.Departure.lateStores }, { on := 9, ground := Go.Ground.textOnly Go.Departure.lateStores }, { on := 10, ground := Go.Ground.textOnly Go.Departure.lateStores }, { on := 11, ground := Go.Ground.textOnly Go.Departure.lateStores }, { on := 12, ground := Go.Ground.textOnly Go.Departure.lateStores }, { on := 13, ground := Go.Ground.textOnly Go.Departure.lateStores }, { on := 14, ground := Go.Ground.textOnly Go.Departure.lateStores }, { on := 15, ground := Go.Ground.textOnly Go.Departure.lateStores }, { on := 16, ground := Go.Ground.textOnly Go.Departure.lateStores }, { on := 17, ground := Go.Ground.textOnly Go.Departure.lateStores }], guard := none }, { dst := some 5, op := Go.Op.assign (Go.Operand.tmp 49), type := 4, pos := "work.go:18", after := #[{ on := 17, ground := Go.Ground.data }, { on := 18, ground := Go.Ground.chain }, { on := 0, ground := Go.Ground.phase }, { on := 1, ground := Go.Ground.phase }, { on := 2, ground := Go.Ground.phase }, { on := 3, ground := Go.Ground.phase }, { on := 4, ground := Go.Ground.phase }, { on := 5, ground := Go.Ground.phase }, { on := 6, ground := Go.Ground.phase }, { on := 7, ground := Go.Ground.phase }, { on := 8, ground := Go.Ground.phase }, { on := 9, ground := Go.Ground.phase }, { on := 10, ground := Go.Ground.phase }, { on := 11, ground := Go.Ground.phase }, { on := 12, ground := Go.Ground.phase }, { on := 13, ground := Go.Ground.phase }, { on := 14, ground := Go.Ground.phase }, { on := 15, ground := Go.Ground.phase }, { on := 16, ground := Go.Ground.phase }, { on := 17, ground := Go.Ground.phase }, { on := 18, ground := Go.Ground.phase }], guard := none }]
theorem sb_115_1_0 : softB op_115_1 #[true, true, true, true, true, true] (Array.replicate 6 false) 0 = true := by kernel_rfl
theorem sb_115_1_1 : softB op_115_1 #[true, true, true, true, true, true] ((Array.replicate 6 false).setIfInBounds 0 true) 1 = true := by kernel_rfl
theorem sb_115_1_2 : softB op_115_1 #[true, true, true, true, true, true] (((Array.replicate 6 false).setIfInBounds 0 true).setIfInBounds 1 true) 2 = true := by kernel_rfl
theorem sb_115_1_3 : softB op_115_1 #[true, true, true, true, true, true] ((((Array.replicate 6 false).setIfInBounds 0 true).setIfInBounds 1 true).setIfInBounds 2 true) 3 = true := by kernel_rfl
theorem sb_115_1_4 : softB op_115_1 #[true, true, true, true, true, true] (((((Array.replicate 6 false).setIfInBounds 0 true).setIfInBounds 1 true).setIfInBounds 2 true).setIfInBounds 3 true) 4 = true := by kernel_rfl
theorem sb_115_1_5 : softB op_115_1 #[true, true, true, true, true, true] ((((((Array.replicate 6 false).setIfInBounds 0 true).setIfInBounds 1 true).setIfInBounds 2 true).setIfInBounds 3 true).setIfInBounds 4 true) 5 = true := by kernel_rfl
theorem sb_115_1_6 : hardB op_115_1 (((((((Array.replicate 6 false).setIfInBounds 0 true).setIfInBounds 1 true).setIfInBounds 2 true).setIfInBounds 3 true).setIfInBounds 4 true).setIfInBounds 5 true) [] = true := by kernel_rfl
theorem sb_115_7_0 : softB op_115_7 #[true, true, true, true, true, true, true, true, true, true, true, true, true, true, true, true, true, true, true, true] (Array.replicate 20 false) 0 = true := by kernel_rfl
theorem sb_115_7_1 : softB op_115_7 #[true, true, true, true, true, true, true, true, true, true, true, true, true, true, true, true, true, true, true, true] ((Array.replicate 20 false).setIfInBounds 0 true) 1 = true := by kernel_rfl
theorem sb_115_7_2 : softB op_115_7 #[true, true, true, true, true, true, true, true, true, true, true, true, true, true, true, true, true, true, true, true] (((Array.replicate 20 false).setIfInBounds 0 true).setIfInBounds 1 true) 2 = true := by kernel_rfl
theorem sb_115_7_3 : softB op_115_7 #[true, true, true, true, true, true, true, true, true, true, true, true, true, true, true, true, true, true, true, true] ((((Array.replicate 20 false).setIfInBounds 0 true).setIfInBounds 1 true).setIfInBounds 2 true) 3 = true := by kernel_rfl
theorem sb_115_7_4 : softB op_115_7 #[true, true, true, true, true, true, true, true, true, true, true, true, true, true, true, true, true, true, true, true] (((((Array.replicate 20 false).setIfInBounds 0 true).setIfInBounds 1 true).setIfInBounds 2 true).setIfInBounds 3 true) 4 = true := by kernel_rfl
theorem sb_115_7_5 : softB op_115_7 #[true, true, true, true, true, true, true, true, true, true, true, true, true, true, true, true, true, true, true, true] ((((((Array.replicate 20 false).setIfInBounds 0 true).setIfInBounds 1 true).setIfInBounds 2 true).setIfInBounds 3 true).setIfInBounds 4 true) 5 = true := by kernel_rfl
theorem sb_115_7_6 : softB op_115_7 #[true, true, true, true, true, true, true, true, true, true, true, true, true, true, true, true, true, true, true, true] (((((((Array.replicate 20 false).setIfInBounds 0 true).setIfInBounds 1 true).setIfInBounds 2 true).setIfInBounds 3 true).setIfInBounds 4 true).setIfInBounds 5 true) 6 = true := by kernel_rfl
theorem sb_115_7_7 : softB op_115_7 #[true, true, true, true, true, true, true, true, true, true, true, true, true, true, true, true, true, true, true, true] ((((((((Array.replicate 20 false).setIfInBounds 0 true).setIfInBounds 1 true).setIfInBounds 2 true).setIfInBounds 3 true).setIfInBounds 4 true).setIfInBounds 5 true).setIfInBounds 6 true) 7 = true := by kernel_rfl
theorem sb_115_7_8 : softB op_115_7 #[true, true, true, true, true, true, true, true, true, true, true, true, true, true, true, true, true, true, true, true] (((((((((Array.replicate 20 false).setIfInBounds 0 true).setIfInBounds 1 true).setIfInBounds 2 true).setIfInBounds 3 true).setIfInBounds 4 true).setIfInBounds 5 true).setIfInBounds 6 true).setIfInBounds 7 true) 8 = true := by kernel_rfl
theorem sb_115_7_9 : softB op_115_7 #[true, true, true, true, true, true, true, true, true, true, true, true, true, true, true, true, true, true, true, true] ((((((((((Array.replicate 20 false).setIfInBounds 0 true).setIfInBounds 1 true).setIfInBounds 2 true).setIfInBounds 3 true).setIfInBounds 4 true).setIfInBounds 5 true).setIfInBounds 6 true).setIfInBounds 7 true).setIfInBounds 8 true) 9 = true := by kernel_rfl
theorem sb_115_7_10 : softB op_115_7 #[true, true, true, true, true, true, true, true, true, true, true, true, true, true, true, true, true, true, true, true] (((((((((((Array.replicate 20 false).setIfInBounds 0 true).setIfInBounds 1 true).setIfInBounds 2 true).setIfInBounds 3 true).setIfInBounds 4 true).setIfInBounds 5 true).setIfInBounds 6 true).setIfInBounds 7 true).setIfInBounds 8 true).setIfInBounds 9 true) 10 = true := by kernel_rfl
theorem sb_115_7_11 : softB op_115_7 #[true, true, true, true, true, true, true, true, true, true, true, true, true, true, true, true, true, true, true, true] ((((((((((((Array.replicate 20 false).setIfInBounds 0 true).setIfInBounds 1 true).setIfInBounds 2 true).setIfInBounds 3 true).setIfInBounds 4 true).setIfInBounds 5 true).setIfInBounds 6 true).setIfInBounds 7 true).setIfInBounds 8 true).setIfInBounds 9 true).setIfInBounds 10 true) 11 = true := by kernel_rfl
theorem sb_115_7_12 : softB op_115_7 #[true, true, true, true, true, true, true, true, true, true, true, true, true, true, true, true, true, true, true, true] (((((((((((((Array.replicate 20 false).setIfInBounds 0 true).setIfInBounds 1 true).setIfInBounds 2 true).setIfInBounds 3 true).setIfInBounds 4 true).setIfInBounds 5 true).setIfInBounds 6 true).setIfInBounds 7 true).setIfInBounds 8 true).setIfInBounds 9 true).setIfInBounds 10 true).setIfInBounds 11 true) 12 = true := by kernel_rfl
theorem sb_115_7_13 : softB op_115_7 #[true, true, true, true, true, true, true, true, true, true, true, true, true, true, true, true, true, true, true, true] ((((((((((((((Array.replicate 20 false).setIfInBounds 0 true).setIfInBounds 1 true).setIfInBounds 2 true).setIfInBounds 3 true).setIfInBounds 4 true).setIfInBounds 5 true).setIfInBounds 6 true).setIfInBounds 7 true).setIfInBounds 8 true).setIfInBounds 9 true).setIfInBounds 10 true).setIfInBounds 11 true).setIfInBounds 12 true) 13 = true := by kernel_rfl
theorem sb_115_7_14 : softB op_115_7 #[true, true, true, true, true, true, true, true, true, true, true, true, true, true, true, true, true, true, true, true] (((((((((((((((Array.replicate 20 false).setIfInBounds 0 true).setIfInBounds 1 true).setIfInBounds 2 true).setIfInBounds 3 true).setIfInBounds 4 true).setIfInBounds 5 true).setIfInBounds 6 true).setIfInBounds 7 true).setIfInBounds 8 true).setIfInBounds 9 true).setIfInBounds 10 true).setIfInBounds 11 true).setIfInBounds 12 true).setIfInBounds 13 true) 14 = true := by kernel_rfl
theorem sb_115_7_15 : softB op_115_7 #[true, true, true, true, true, true, true, true, true, true, true, true, true, true, true, true, true, true, true, true] ((((((((((((((((Array.replicate 20 false).setIfInBounds 0 true).setIfInBounds 1 true).setIfInBounds 2 true).setIfInBounds 3 true).setIfInBounds 4 true).setIfInBounds 5 true).setIfInBounds 6 true).setIfInBounds 7 true).setIfInBounds 8 true).setIfInBounds 9 true).setIfInBounds 10 true).setIfInBounds 11 true).setIfInBounds 12 true).setIfInBounds 13 true).setIfInBounds 14 true) 15 = true := by kernel_rfl
theorem sb_115_7_16 : softB op_115_7 #[true, true, true, true, true, true, true, true, true, true, true, true, true, true, true, true, true, true, true, true] (((((((((((((((((Array.replicate 20 false).setIfInBounds 0 true).setIfInBounds 1 true).setIfInBounds 2 true).setIfInBounds 3 true).setIfInBounds 4 true).setIfInBounds 5 true).setIfInBounds 6 true).setIfInBounds 7 true).setIfInBounds 8 true).setIfInBounds 9 true).setIfInBounds 10 true).setIfInBounds 11 true).setIfInBounds 12 true).setIfInBounds 13 true).setIfInBounds 14 true).setIfInBounds 15 true) 16 = true := by kernel_rfl
theorem sb_115_7_17 : softB op_115_7 #[true, true, true, true, true, true, true, true, true, true, true, true, true, true, true, true, true, true, true, true] ((((((((((((((((((Array.replicate 20 false).setIfInBounds 0 true).setIfInBounds 1 true).setIfInBounds 2 true).setIfInBounds 3 true).setIfInBounds 4 true).setIfInBounds 5 true).setIfInBounds 6 true).setIfInBounds 7 true).setIfInBounds 8 true).setIfInBounds 9 true).setIfInBounds 10 true).setIfInBounds 11 true).setIfInBounds 12 true).setIfInBounds 13 true).setIfInBounds 14 true).setIfInBounds 15 true).setIfInBounds 16 true) 17 = true := by kernel_rfl
theorem sb_115_7_18 : softB op_115_7 #[true, true, true, true, true, true, true, true, true, true, true, true, true, true, true, true, true, true, true, true] (((((((((((((((((((Array.replicate 20 false).setIfInBounds 0 true).setIfInBounds 1 true).setIfInBounds 2 true).setIfInBounds 3 true).setIfInBounds 4 true).setIfInBounds 5 true).setIfInBounds 6 true).setIfInBounds 7 true).setIfInBounds 8 true).setIfInBounds 9 true).setIfInBounds 10 true).setIfInBounds 11 true).setIfInBounds 12 true).setIfInBounds 13 true).setIfInBounds 14 true).setIfInBounds 15 true).setIfInBounds 16 true).setIfInBounds 17 true) 18 = true := by kernel_rfl
theorem sb_115_7_19 : softB op_115_7 #[true, true, true, true, true, true, true, true, true, true, true, true, true, true, true, true, true, true, true, true] ((((((((((((((((((((Array.replicate 20 false).setIfInBounds 0 true).setIfInBounds 1 true).setIfInBounds 2 true).setIfInBounds 3 true).setIfInBounds 4 true).setIfInBounds 5 true).setIfInBounds 6 true).setIfInBounds 7 true).setIfInBounds 8 true).setIfInBounds 9 true).setIfInBounds 10 true).setIfInBounds 11 true).setIfInBounds 12 true).setIfInBounds 13 true).setIfInBounds 14 true).setIfInBounds 15 true).setIfInBounds 16 true).setIfInBounds 17 true).setIfInBounds 18 true) 19 = true := by kernel_rfl
theorem sb_115_7_20 : hardB op_115_7 (((((((((((((((((((((Array.replicate 20 false).setIfInBounds 0 true).setIfInBounds 1 true).setIfInBounds 2 true).setIfInBounds 3 true).setIfInBounds 4 true).setIfInBounds 5 true).setIfInBounds 6 true).setIfInBounds 7 true).setIfInBounds 8 true).setIfInBounds 9 true).setIfInBounds 10 true).setIfInBounds 11 true).setIfInBounds 12 true).setIfInBounds 13 true).setIfInBounds 14 true).setIfInBounds 15 true).setIfInBounds 16 true).setIfInBounds 17 true).setIfInBounds 18 true).setIfInBounds 19 true) [] = true := by kernel_rfl
/- (*repo.Repo).place -/
def m115_w1 (n : Nat) (r : RepoR) (path : Str) (mm : Nat) : Int → Int → Option (Int × Int) := it2 (fun lp1 c1 c2 =>
cond (decide (c1 < c2)) (
Option.bind (ckA (wi (Int.tdiv (wi (c1 + c2)) 2)) 8) fun _ =>
cond (sLt ((r.work (wi (Int.tdiv (wi (c1 + c2)) 2))).path) path) (
lp1 (wi ((wi (Int.tdiv (wi (c1 + c2)) 2)) + 1)) c2) (
lp1 c1 (wi (Int.tdiv (wi (c1 + c2)) 2)))) (
some (c1, c2))) mm
def m115 (n : Nat) (r : RepoR) (path : Str) : Option (Int × Bool) :=
ob2 (m115_w1 n r path n 0 r.n) fun c3 c4 =>
ob2 (cond (decide (c3 < r.n)) (Option.bind (ckA c3 8) fun _ =>
some (c3, (decide (((r.work c3).path) = path)))) (some (c3, false))) fun c5 c6 =>
some (c5, c6)
theorem t115 {n : Nat} {C : List Chunk} {rc1 : Int} {rc2 : Bool} {b1 : Nat} {r : RepoR} {q1 : Option Addr} {q2 : Option Addr} {q3 : Option Addr} {path : Str}   (hm : m115 n r path = some (rc1, rc2)) : Trip Tryz.prog 115 #[.pointer (some ⟨b1, 0, none⟩), .string ⟨(path : Str).toArray⟩] ([[(b1, .cells (RepoR.enc ((.pointer q1)) ((.pointer q2)) ((.pointer q3)) r).toArray 130 (0, 0))]] ++ [C]) (fun u S' => .tuple #[.int .i64 rc1, .bool rc2] = u ∧ S' = [[(b1, .cells (RepoR.enc ((.pointer q1)) ((.pointer q2)) ((.pointer q3)) r).toArray 130 (0, 0))]] ++ [C]) := by
  refine fn_entry (args := [.pointer (some ⟨b1, 0, none⟩), .string ⟨(path : Str).toArray⟩]) Tryz.func115 rfl Tryz.ntmps115 rfl (fun w0 => ?_)
  refine c_seq ?_
  refine c_region ?_
  refine o_L (y_assign rfl) rfl rfl ?_
  refine o_L (y_assign rfl) rfl rfl ?_
  refine o_nil0 rfl ?_
  refine c_seq ?_
  refine c_draw #[true, true, true, true, true, true] rfl (n := 6) rfl ?_
  refine d_T 0 rfl sb_115_1_0 rfl (y_move rfl) rfl ?_
  refine d_T 1 rfl sb_115_1_1 rfl (y_nilck rfl) rfl ?_
  refine d_T 2 rfl sb_115_1_2 rfl (y_fa fl_130_4 rfl) rfl ?_
  refine d_ld 3 rfl sb_115_1_3 one_3 rfl (fun x hx => hx) m0 (At.got (At.refl.comp RepoR.a_n)) rfl ?_
  refine d_L 4 rfl sb_115_1_4 rfl (y_assign rfl) rfl rfl ?_
  refine d_L 5 rfl sb_115_1_5 rfl (y_assign rfl) rfl rfl ?_
  refine d_nil0 sb_115_1_6 rfl ?_
  refine c_seq ?_
  obtain ⟨c3, c4, hj1, hm⟩ := bd2 hm
  refine c_joinP (n := 0) (fun sh G => sh = [(6, .int .i64 c3), (7, .int .i64 c4)] ∧ G = []) (s_take (s_take s_nil)) .z (fun _ _ h => h) ?_ ?_
  · skip
    refine c_block ?_
    refine c_loopP (n := 0) (fun mm sh G => ∃ (c1 : Int), ∃ (c2 : Int), sh = [(6, .int .i64 c1), (7, .int .i64 c2)] ∧ G = [] ∧ m115_w1 n r path mm c1 c2 = some (c3, c4)) n (s_take (s_take s_nil)) .z ⟨_, _, ⟨_, _, rfl, rfl, hj1⟩, ⟨rfl, rfl, trivial⟩, _, (s_take (s_take s_nil))⟩ ?_
    rintro mm sh G ⟨c1, c2, rfl, rfl, hm⟩
    obtain ⟨mm1, rfl, hm⟩ := it2_s hm
    refine c_seq ?_
    refine c_seq ?_
    refine c_region ?_
    refine o_T (y_move rfl) rfl ?_
    refine o_T (y_move rfl) rfl ?_
    refine o_T (y_lss rfl rfl) rfl ?_
    refine o_nil1 15 rfl rfl ?_
    refine c_cond rfl (fun h1 => ?_) (fun h1 => ?_)
    · have hm := cd_t h1 hm
      refine c_skip ?_
      refine c_block ?_
      refine c_seq ?_
      refine c_region ?_
      refine o_T (y_move rfl) rfl ?_
      refine o_T (y_move rfl) rfl ?_
      refine o_T (y_add rfl rfl rfl) rfl ?_
      refine o_T (y_quo rfl rfl (by decide) rfl) rfl ?_
      refine o_L (y_assign rfl) rfl rfl ?_
      refine o_nil0 rfl ?_
      refine c_seq ?_
      refine c_region ?_
      refine o_T (y_move rfl) rfl ?_
      refine o_T (y_move rfl) rfl ?_
      refine o_T (y_nilck rfl) rfl ?_
      refine o_T (y_fa fl_130_3 rfl) rfl ?_
      obtain ⟨_, hx1, hm⟩ := bd hm
      have hx1 := ckA_some hx1
      refine o_T (y_ia ar_128 rfl rfl hx1.1 hx1.2) rfl ?_
      refine o_T (y_fa fl_71_0 rfl) rfl ?_
      refine o_ld one_9 rfl m0 (At.got (((At.refl.comp RepoR.a_work).comp (encN_a File.len _ _ hx1.1 _ hx1.2)).comp File.a_path)) rfl ?_
      refine o_T (y_move rfl) rfl ?_
      refine o_T (y_slt rfl rfl) rfl ?_
      refine o_nil1 28 rfl rfl ?_
      refine c_cond rfl (fun h2 => ?_) (fun h2 => ?_)
      · have hm := cd_t h2 hm
        refine c_region ?_
        refine o_T (y_move rfl) rfl ?_
        refine o_T (y_add rfl rfl rfl) rfl ?_
        refine o_L (y_assign rfl) rfl rfl ?_
        refine o_nil0 rfl ?_
        exact ⟨mm1, Nat.lt_succ_self _, _, _, ⟨_, _, rfl, rfl, hm⟩, ⟨rfl, rfl, trivial⟩, ⟨rfl, rfl⟩, _, (s_take (s_take s_nil))⟩
      · have hm := cd_f h2 hm
        refine c_region ?_
        refine o_T (y_move rfl) rfl ?_
        refine o_L (y_assign rfl) rfl rfl ?_
        refine o_nil0 rfl ?_
        exact ⟨mm1, Nat.lt_succ_self _, _, _, ⟨_, _, rfl, rfl, hm⟩, ⟨rfl, rfl, trivial⟩, ⟨rfl, rfl⟩, _, (s_take (s_take s_nil))⟩
    · have hm := cd_f h1 hm
      refine c_exit ?_
      obtain ⟨rfl, rfl⟩ := pr2 hm
      exact ⟨_, _, ⟨rfl, rfl⟩, ⟨rfl, rfl, trivial⟩, ⟨rfl, rfl⟩, _, (s_take (s_take s_nil))⟩
  · rintro sh G ⟨rfl, rfl⟩
    refine c_seq ?_
    obtain ⟨c5, c6, hj2, hm⟩ := bd2 hm
    refine c_joinP (n := 0) (fun sh G => sh = [(4, .int .i64 c5), (5, .bool c6)] ∧ G = []) Sel.all' .z (fun _ _ h => h) ?_ ?_
    · have hm := hj2
      refine c_draw #[true, true, true, true, true, true, true, true, true, true, true, true, true, true, true, true, true, true, true, true] rfl (n := 20) rfl ?_
      refine d_T 0 rfl sb_115_7_0 rfl (y_move rfl) rfl ?_
      refine d_T 1 rfl sb_115_7_1 rfl (y_move rfl) rfl ?_
      refine d_T 2 rfl sb_115_7_2 rfl (y_move rfl) rfl ?_
      refine d_T 3 rfl sb_115_7_3 rfl (y_nilck rfl) rfl ?_
      refine d_T 4 rfl sb_115_7_4 rfl (y_fa fl_130_4 rfl) rfl ?_
      refine d_ld 5 rfl sb_115_7_5 one_3 rfl (fun x hx => hx) m0 (At.got (At.refl.comp RepoR.a_n)) rfl ?_
      refine d_T 6 rfl sb_115_7_6 rfl (y_lss rfl rfl) rfl ?_
      refine d_T 7 rfl sb_115_7_7 rfl (y_move rfl) rfl ?_
      refine d_split 39 rfl (fun h3 => ?_) (fun h3 => ?_)
      · have hm := cd_t h3 hm
        refine d_Tg 8 rfl rfl rfl rfl sb_115_7_8 rfl (y_move rfl) rfl ?_
        refine d_Tg 9 rfl rfl rfl rfl sb_115_7_9 rfl (y_move rfl) rfl ?_
        refine d_Tg 10 rfl rfl rfl rfl sb_115_7_10 rfl (y_nilck rfl) rfl ?_
        refine d_Tg 11 rfl rfl rfl rfl sb_115_7_11 rfl (y_fa fl_130_3 rfl) rfl ?_
        obtain ⟨_, hx2, hm⟩ := bd hm
        have hx2 := ckA_some hx2
        refine d_Tg 12 rfl rfl rfl rfl sb_115_7_12 rfl (y_ia ar_128 rfl rfl hx2.1 hx2.2) rfl ?_
        refine d_Tg 13 rfl rfl rfl rfl sb_115_7_13 rfl (y_fa fl_71_0 rfl) rfl ?_
        refine d_ldt 14 rfl rfl rfl rfl sb_115_7_14 one_9 rfl (fun x hx => hx) m0 (At.got (((At.refl.comp RepoR.a_work).comp (encN_a File.len _ _ hx2.1 _ hx2.2)).comp File.a_path)) rfl ?_
        refine d_Tg 15 rfl rfl rfl rfl sb_115_7_15 rfl (y_move rfl) rfl ?_
        refine d_Tg 16 rfl rfl rfl rfl sb_115_7_16 rfl (y_seq rfl rfl) rfl ?_
        refine d_T 17 rfl sb_115_7_17 rfl (y_pickT rfl rfl) rfl ?_
        refine d_L 18 rfl sb_115_7_18 rfl (y_assign rfl) rfl rfl ?_
        refine d_L 19 rfl sb_115_7_19 rfl (y_assign rfl) rfl rfl ?_
        refine d_nil0 sb_115_7_20 rfl ?_
        obtain ⟨rfl, rfl⟩ := pr2 hm
        exact ⟨_, _, ⟨rfl, rfl⟩, ⟨rfl, rfl, trivial⟩, ⟨rfl, rfl⟩, _, (s_take (s_take s_nil))⟩
      · have hm := cd_f h3 hm
        refine d_pass 8 rfl rfl rfl rfl rfl sb_115_7_8 (fun x hx => hx) rfl ?_
        refine d_pass 9 rfl rfl rfl rfl rfl sb_115_7_9 (fun x hx => hx) rfl ?_
        refine d_pass 10 rfl rfl rfl rfl rfl sb_115_7_10 (fun x hx => hx) rfl ?_
        refine d_pass 11 rfl rfl rfl rfl rfl sb_115_7_11 (fun x hx => hx) rfl ?_
        refine d_pass 12 rfl rfl rfl rfl rfl sb_115_7_12 (fun x hx => hx) rfl ?_
        refine d_pass 13 rfl rfl rfl rfl rfl sb_115_7_13 (fun x hx => hx) rfl ?_
        refine d_pass 14 rfl rfl rfl rfl rfl sb_115_7_14 (fun x hx => hx) rfl ?_
        refine d_pass 15 rfl rfl rfl rfl rfl sb_115_7_15 (fun x hx => hx) rfl ?_
        refine d_pass 16 rfl rfl rfl rfl rfl sb_115_7_16 (fun x hx => hx) rfl ?_
        refine d_T 17 rfl sb_115_7_17 rfl (y_pickF rfl rfl) rfl ?_
        refine d_L 18 rfl sb_115_7_18 rfl (y_assign rfl) rfl rfl ?_
        refine d_L 19 rfl sb_115_7_19 rfl (y_assign rfl) rfl rfl ?_
        refine d_nil0 sb_115_7_20 rfl ?_
        obtain ⟨rfl, rfl⟩ := pr2 hm
        exact ⟨_, _, ⟨rfl, rfl⟩, ⟨rfl, rfl, trivial⟩, ⟨rfl, rfl⟩, _, (s_take (s_take s_nil))⟩
    · rintro sh G ⟨rfl, rfl⟩
      refine c_ret ?_
      obtain ⟨rfl, rfl⟩ := pr2 hm
      refine fun aX wX heX hsX => ret2 Tryz.results115 heX rfl rfl (s_take (s_take s_nil)) ?_
      exact ⟨rfl, rfl⟩
end Go.Proofs.Qxb6500350aGreat
