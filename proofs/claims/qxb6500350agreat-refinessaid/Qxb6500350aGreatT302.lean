/- MADE BY PROGRAM (tools350/mir.py): mirror and walk. -/
import Derived.Test.Qxb6500350aGreatF2
set_option linter.unusedVariables false
set_option linter.unusedSimpArgs false
set_option maxRecDepth 20000
set_option maxHeartbeats 4000000
namespace Go.Proofs.Qxb6500350aGreat
open Go.Eng

def op_302_8 : Array Go.Oper := #[{ dst := some 21, op := Go.Op.move (Go.Operand.tmp 0), type := 27, pos := "devm.go:43", after := #[], guard := none }, { dst := some 22, op := Go.Op.nilCheck (Go.Operand.tmp 21), type := 0, pos := "devm.go:43", after := #[{ on := 0, ground := Go.Ground.data }], guard := none }, { dst := some 23, op := Go.Op.fieldAddr 85 (Go.Operand.tmp 22) 0, type := 0, pos := "devm.go:43", after := #[{ on := 1, ground := Go.Ground.data }], guard := none }, { dst := some 24, op := Go.Op.load 81 (Go.Operand.tmp 23), type := 81, pos := "devm.go:43", after := #[{ on := 2, ground := Go.Ground.data }], guard := none }, { dst := some 25, op := Go.Op.move (Go.Operand.tmp 1), type := 3, pos := "devm.go:43", after := #[], guard := none }, { dst := some 26, op := Go.Op.binOp Go.BinOp.mul 3 (Go.Operand.tmp 25) (Go.Operand.const (Go.Value.int Go.IntKind.i64 64)) 3, type := 3, pos := "devm.go:43", after := #[{ on := 4, ground := Go.Ground.data }], guard := none }, { dst := some 27, op := Go.Op.move (Go.Operand.tmp 7), type := 3, pos := "devm.go:43", after := #[], guard := none }, { dst := some 28, op := Go.Op.binOp Go.BinOp.add 3 (Go.Operand.tmp 26) (Go.Operand.tmp 27) 3, type := 3, pos := "devm.go:43", after := #[{ on := 5, ground := Go.Ground.data }, { on := 6, ground := Go.Ground.data }], guard := none }, { dst := some 29, op := Go.Op.move (Go.Operand.tmp 2), type := 81, pos := "devm.go:43", after := #[], guard := none }, { dst := some 30, op := Go.Op.move (Go.Operand.tmp 7), type := 3, pos := "devm.go:43", after := #[], guard := none }, { dst := some 31, op := Go.Op.indexAddr 81 (Go.Operand.tmp 29) (Go.Operand.tmp 30), type := 0, pos := "devm.go:43", after := #[{ on := 8, ground := Go.Ground.data }, { on := 9, ground := Go.Ground.data }], guard := none }, { dst := some 32, op := Go.Op.load 5 (Go.Operand.tmp 31), type := 5, pos := "devm.go:43", after := #[{ on := 10, ground := Go.Ground.data }], guard := none }, { dst := some 33, op := Go.Op.indexAddr 81 (Go.Operand.tmp 24) (Go.Operand.tmp 28), type := 0, pos := "devm.go:43", after := #[{ on := 3, ground := Go.Ground.data }, { on := 7, ground := Go.Ground.data }, { on := 0, ground := Go.Ground.phase }, { on := 1, ground := Go.Ground.phase }, { on := 2, ground := Go.Ground.phase }, { on := 3, ground := Go.Ground.phase }, { on := 4, ground := Go.Ground.phase }, { on := 5, ground := Go.Ground.phase }, { on := 6, ground := Go.Ground.phase }, { on := 7, ground := Go.Ground.phase }, { on := 8, ground := Go.Ground.phase }, { on := 9, ground := Go.Ground.phase }, { on := 10, ground := Go.Ground.phase }, { on := 11, ground := Go.Ground.phase }], guard := none }, { dst := none, op := Go.Op.store 5 (Go.Operand.tmp 33) (Go.Operand.tmp 32), type := 0, pos := "devm.go:43", after := #[{ on := 12, ground := Go.Ground.data }, { on := 11, ground := Go.Ground.data }, { on := 0, ground := Go.Ground.phase }, { on := 1, ground := Go.Ground.phase }, { on := 2, ground := Go.Ground.phase }, { on := 3, ground := Go.Ground.phase }, { on := 4, ground := Go.Ground.phase }, { on := 5, ground := Go.Ground.phase }, { on := 6, ground := Go.Ground.phase }, { on := 7, ground := Go.Ground.phase }, { on := 8, ground := Go.Ground.phase }, { on := 9, ground := Go.Ground.phase }, { on := 10, ground := Go.Ground.phase }, { on := 11, ground := Go.Ground.phase }], guard := none }]
def op_302_9 : Array Go.Oper := #[{ dst := some 34, op := Go.Op.move (Go.Operand.tmp 0), type := 27, pos := "devm.go:44", after := #[], guard := none }, { dst := some 35, op := Go.Op.move (Go.Operand.tmp 0), type := 27, pos := "devm.go:44", after := #[], guard := none }, { dst := some 36, op := Go.Op.nilCheck (Go.Operand.tmp 35), type := 0, pos := "devm.go:44", after := #[{ on := 1, ground := Go.Ground.data }], guard := none }, { dst := some 37, op := Go.Op.fieldAddr 85 (Go.Operand.tmp 36) 3, type := 0, pos := "devm.go:44", after := #[{ on := 2, ground := Go.Ground.data }], guard := none }, { dst := some 38, op := Go.Op.load 81 (Go.Operand.tmp 37), type := 81, pos := "devm.go:44", after := #[{ on := 3, ground := Go.Ground.data }], guard := none }, { dst := some 39, op := Go.Op.move (Go.Operand.tmp 2), type := 81, pos := "devm.go:44", after := #[], guard := none }, { dst := some 40, op := Go.Op.move (Go.Operand.tmp 7), type := 3, pos := "devm.go:44", after := #[], guard := none }, { dst := some 41, op := Go.Op.indexAddr 81 (Go.Operand.tmp 39) (Go.Operand.tmp 40), type := 0, pos := "devm.go:44", after := #[{ on := 5, ground := Go.Ground.data }, { on := 6, ground := Go.Ground.data }], guard := none }, { dst := some 42, op := Go.Op.load 5 (Go.Operand.tmp 41), type := 5, pos := "devm.go:44", after := #[{ on := 7, ground := Go.Ground.data }], guard := none }, { dst := some 43, op := Go.Op.buildSlice 81 1 #[(0, Go.Operand.tmp 42)], type := 81, pos := "devm.go:44", after := #[{ on := 8, ground := Go.Ground.data }], guard := none }, { dst := some 44, op := Go.Op.call { callee := Go.Callee.builtin Go.Builtin.append, args := #[Go.Operand.tmp 38, Go.Operand.tmp 43], argTypes := #[81, 81] }, type := 81, pos := "devm.go:44", after := #[{ on := 4, ground := Go.Ground.data }, { on := 9, ground := Go.Ground.data }], guard := none }, { dst := some 45, op := Go.Op.nilCheck (Go.Operand.tmp 34), type := 0, pos := "devm.go:44", after := #[{ on := 0, ground := Go.Ground.data }, { on := 0, ground := Go.Ground.phase }, { on := 1, ground := Go.Ground.phase }, { on := 2, ground := Go.Ground.phase }, { on := 3, ground := Go.Ground.phase }, { on := 4, ground := Go.Ground.phase }, { on := 5, ground := Go.Ground.phase }, { on := 6, ground := Go.Ground.phase }, { on := 7, ground := Go.Ground.phase }, { on := 8, ground := Go.Ground.phase }, { on := 9, ground := Go.Ground.phase }, { on := 10, ground := Go.Ground.phase }], guard := none }, { dst := some 46, op := Go.Op.fieldAddr 85 (Go.Operand.tmp 45) 3, type := 0, pos := "devm.go:44", after := #[{ on := 11, ground := Go.Ground.data }, { on := 0, ground := Go.Ground.phase }, { on := 1, ground := Go.Ground.phase }, { on := 2, ground := Go.Ground.phase }, { on := 3, ground := Go.Ground.phase }, { on := 4, ground := Go.Ground.phase }, { on := 5, ground := Go.Ground.phase }, { on := 6, ground := Go.Ground.phase }, { on := 7, ground := Go.Ground.phase }, { on := 8, ground := Go.Ground.phase }, { on := 9, ground := Go.Ground.phase }, { on := 10, ground := Go.Ground.phase }], guard := none }, { dst := none, op := Go.Op.store 81 (Go.Operand.tmp 46) (Go.Operand.tmp 44), type := 0, pos := "devm.go:44", after := #[{ on := 12, ground := Go.Ground.data }, { on := 10, ground := Go.Ground.data }, { on := 10, ground := Go.Ground.chain }, { on := 0, ground := Go.Ground.phase }, { on := 1, ground := Go.Ground.phase }, { on := 2, ground := Go.Ground.phase }, { on := 3, ground := Go.Ground.phase }, { on := 4, ground := Go.Ground.phase }, { on := 5, ground := Go.Ground.phase }, { on := 6, ground := Go.Ground.phase }, { on := 7, ground := Go.Ground.phase }, { on := 8, ground := Go.Ground.phase }, { on := 9, ground := Go.Ground.phase }, { on := 10, ground := Go.Ground.phase }], guard := none }]
theorem sb_302_8_0 : softB op_302_8 #[true, true, true, true, true, true, true, true, true, true, true, true, true, false] (Array.replicate 14 false) 0 = true := by kernel_rfl
theorem sb_302_8_1 : softB op_302_8 #[true, true, true, true, true, true, true, true, true, true, true, true, true, false] ((Array.replicate 14 false).setIfInBounds 0 true) 1 = true := by kernel_rfl
theorem sb_302_8_2 : softB op_302_8 #[true, true, true, true, true, true, true, true, true, true, true, true, true, false] (((Array.replicate 14 false).setIfInBounds 0 true).setIfInBounds 1 true) 2 = true := by kernel_rfl
theorem sb_302_8_3 : softB op_302_8 #[true, true, true, true, true, true, true, true, true, true, true, true, true, false] ((((Array.replicate 14 false).setIfInBounds 0 true).setIfInBounds 1 true).setIfInBounds 2 true) 3 = true := by kernel_rfl
theorem sb_302_8_4 : softB op_302_8 #[true, true, true, true, true, true, true, true, true, true, true, true, true, false] (((((Array.replicate 14 false).setIfInBounds 0 true).setIfInBounds 1 true).setIfInBounds 2 true).setIfInBounds 3 true) 4 = true := by kernel_rfl
theorem sb_302_8_5 : softB op_302_8 #[true, true, true, true, true, true, true, true, true, true, true, true, true, false] ((((((Array.replicate 14 false).setIfInBounds 0 true).setIfInBounds 1 true).setIfInBounds 2 true).setIfInBounds 3 true).setIfInBounds 4 true) 5 = true := by kernel_rfl
theorem sb_302_8_6 : softB op_302_8 #[true, true, true, true, true, true, true, true, true, true, true, true, true, false] (((((((Array.replicate 14 false).setIfInBounds 0 true).setIfInBounds 1 true).setIfInBounds 2 true).setIfInBounds 3 true).setIfInBounds 4 true).setIfInBounds 5 true) 6 = true := by kernel_rfl
theorem sb_302_8_7 : softB op_302_8 #[true, true, true, true, true, true, true, true, true, true, true, true, true, false] ((((((((Array.replicate 14 false).setIfInBounds 0 true).setIfInBounds 1 true).setIfInBounds 2 true).setIfInBounds 3 true).setIfInBounds 4 true).setIfInBounds 5 true).setIfInBounds 6 true) 7 = true := by kernel_rfl
theorem sb_302_8_8 : softB op_302_8 #[true, true, true, true, true, true, true, true, true, true, true, true, true, false] (((((((((Array.replicate 14 false).setIfInBounds 0 true).setIfInBounds 1 true).setIfInBounds 2 true).setIfInBounds 3 true).setIfInBounds 4 true).setIfInBounds 5 true).setIfInBounds 6 true).setIfInBounds 7 true) 8 = true := by kernel_rfl
theorem sb_302_8_9 : softB op_302_8 #[true, true, true, true, true, true, true, true, true, true, true, true, true, false] ((((((((((Array.replicate 14 false).setIfInBounds 0 true).setIfInBounds 1 true).setIfInBounds 2 true).setIfInBounds 3 true).setIfInBounds 4 true).setIfInBounds 5 true).setIfInBounds 6 true).setIfInBounds 7 true).setIfInBounds 8 true) 9 = true := by kernel_rfl
theorem sb_302_8_10 : softB op_302_8 #[true, true, true, true, true, true, true, true, true, true, true, true, true, false] (((((((((((Array.replicate 14 false).setIfInBounds 0 true).setIfInBounds 1 true).setIfInBounds 2 true).setIfInBounds 3 true).setIfInBounds 4 true).setIfInBounds 5 true).setIfInBounds 6 true).setIfInBounds 7 true).setIfInBounds 8 true).setIfInBounds 9 true) 10 = true := by kernel_rfl
theorem sb_302_8_11 : softB op_302_8 #[true, true, true, true, true, true, true, true, true, true, true, true, true, false] ((((((((((((Array.replicate 14 false).setIfInBounds 0 true).setIfInBounds 1 true).setIfInBounds 2 true).setIfInBounds 3 true).setIfInBounds 4 true).setIfInBounds 5 true).setIfInBounds 6 true).setIfInBounds 7 true).setIfInBounds 8 true).setIfInBounds 9 true).setIfInBounds 10 true) 11 = true := by kernel_rfl
theorem sb_302_8_12 : softB op_302_8 #[true, true, true, true, true, true, true, true, true, true, true, true, true, false] (((((((((((((Array.replicate 14 false).setIfInBounds 0 true).setIfInBounds 1 true).setIfInBounds 2 true).setIfInBounds 3 true).setIfInBounds 4 true).setIfInBounds 5 true).setIfInBounds 6 true).setIfInBounds 7 true).setIfInBounds 8 true).setIfInBounds 9 true).setIfInBounds 10 true).setIfInBounds 11 true) 12 = true := by kernel_rfl
theorem sb_302_8_13 : hardB op_302_8 ((((((((((((((Array.replicate 14 false).setIfInBounds 0 true).setIfInBounds 1 true).setIfInBounds 2 true).setIfInBounds 3 true).setIfInBounds 4 true).setIfInBounds 5 true).setIfInBounds 6 true).setIfInBounds 7 true).setIfInBounds 8 true).setIfInBounds 9 true).setIfInBounds 10 true).setIfInBounds 11 true).setIfInBounds 12 true) [13] = true := by kernel_rfl
theorem sb_302_8_14 : hardB op_302_8 (((((((((((((((Array.replicate 14 false).setIfInBounds 0 true).setIfInBounds 1 true).setIfInBounds 2 true).setIfInBounds 3 true).setIfInBounds 4 true).setIfInBounds 5 true).setIfInBounds 6 true).setIfInBounds 7 true).setIfInBounds 8 true).setIfInBounds 9 true).setIfInBounds 10 true).setIfInBounds 11 true).setIfInBounds 12 true).setIfInBounds 13 true) [] = true := by kernel_rfl
theorem sb_302_9_0 : softB op_302_9 #[true, true, true, true, true, true, true, true, true, true, false, true, true, false] (Array.replicate 14 false) 0 = true := by kernel_rfl
theorem sb_302_9_1 : softB op_302_9 #[true, true, true, true, true, true, true, true, true, true, false, true, true, false] ((Array.replicate 14 false).setIfInBounds 0 true) 1 = true := by kernel_rfl
theorem sb_302_9_2 : softB op_302_9 #[true, true, true, true, true, true, true, true, true, true, false, true, true, false] (((Array.replicate 14 false).setIfInBounds 0 true).setIfInBounds 1 true) 2 = true := by kernel_rfl
theorem sb_302_9_3 : softB op_302_9 #[true, true, true, true, true, true, true, true, true, true, false, true, true, false] ((((Array.replicate 14 false).setIfInBounds 0 true).setIfInBounds 1 true).setIfInBounds 2 true) 3 = true := by kernel_rfl
theorem sb_302_9_4 : softB op_302_9 #[true, true, true, true, true, true, true, true, true, true, false, true, true, false] (((((Array.replicate 14 false).setIfInBounds 0 true).setIfInBounds 1 true).setIfInBounds 2 true).setIfInBounds 3 true) 4 = true := by kernel_rfl
theorem sb_302_9_5 : softB op_302_9 #[true, true, true, true, true, true, true, true, true, true, false, true, true, false] ((((((Array.replicate 14 false).setIfInBounds 0 true).setIfInBounds 1 true).setIfInBounds 2 true).setIfInBounds 3 true).setIfInBounds 4 true) 5 = true := by kernel_rfl
theorem sb_302_9_6 : softB op_302_9 #[true, true, true, true, true, true, true, true, true, true, false, true, true, false] (((((((Array.replicate 14 false).setIfInBounds 0 true).setIfInBounds 1 true).setIfInBounds 2 true).setIfInBounds 3 true).setIfInBounds 4 true).setIfInBounds 5 true) 6 = true := by kernel_rfl
theorem sb_302_9_7 : softB op_302_9 #[true, true, true, true, true, true, true, true, true, true, false, true, true, false] ((((((((Array.replicate 14 false).setIfInBounds 0 true).setIfInBounds 1 true).setIfInBounds 2 true).setIfInBounds 3 true).setIfInBounds 4 true).setIfInBounds 5 true).setIfInBounds 6 true) 7 = true := by kernel_rfl
theorem sb_302_9_8 : softB op_302_9 #[true, true, true, true, true, true, true, true, true, true, false, true, true, false] (((((((((Array.replicate 14 false).setIfInBounds 0 true).setIfInBounds 1 true).setIfInBounds 2 true).setIfInBounds 3 true).setIfInBounds 4 true).setIfInBounds 5 true).setIfInBounds 6 true).setIfInBounds 7 true) 8 = true := by kernel_rfl
theorem sb_302_9_9 : hardB op_302_9 ((((((((((Array.replicate 14 false).setIfInBounds 0 true).setIfInBounds 1 true).setIfInBounds 2 true).setIfInBounds 3 true).setIfInBounds 4 true).setIfInBounds 5 true).setIfInBounds 6 true).setIfInBounds 7 true).setIfInBounds 8 true) [9] = true := by kernel_rfl
theorem sb_302_9_10 : hardB op_302_9 (((((((((((Array.replicate 14 false).setIfInBounds 0 true).setIfInBounds 1 true).setIfInBounds 2 true).setIfInBounds 3 true).setIfInBounds 4 true).setIfInBounds 5 true).setIfInBounds 6 true).setIfInBounds 7 true).setIfInBounds 8 true).setIfInBounds 9 true) [10] = true := by kernel_rfl
theorem sb_302_9_11 : softB op_302_9 #[true, true, true, true, true, true, true, true, true, true, false, true, true, false] ((((((((((((Array.replicate 14 false).setIfInBounds 0 true).setIfInBounds 1 true).setIfInBounds 2 true).setIfInBounds 3 true).setIfInBounds 4 true).setIfInBounds 5 true).setIfInBounds 6 true).setIfInBounds 7 true).setIfInBounds 8 true).setIfInBounds 9 true).setIfInBounds 10 true) 11 = true := by kernel_rfl
theorem sb_302_9_12 : softB op_302_9 #[true, true, true, true, true, true, true, true, true, true, false, true, true, false] (((((((((((((Array.replicate 14 false).setIfInBounds 0 true).setIfInBounds 1 true).setIfInBounds 2 true).setIfInBounds 3 true).setIfInBounds 4 true).setIfInBounds 5 true).setIfInBounds 6 true).setIfInBounds 7 true).setIfInBounds 8 true).setIfInBounds 9 true).setIfInBounds 10 true).setIfInBounds 11 true) 12 = true := by kernel_rfl
theorem sb_302_9_13 : hardB op_302_9 ((((((((((((((Array.replicate 14 false).setIfInBounds 0 true).setIfInBounds 1 true).setIfInBounds 2 true).setIfInBounds 3 true).setIfInBounds 4 true).setIfInBounds 5 true).setIfInBounds 6 true).setIfInBounds 7 true).setIfInBounds 8 true).setIfInBounds 9 true).setIfInBounds 10 true).setIfInBounds 11 true).setIfInBounds 12 true) [13] = true := by kernel_rfl
theorem sb_302_9_14 : hardB op_302_9 (((((((((((((((Array.replicate 14 false).setIfInBounds 0 true).setIfInBounds 1 true).setIfInBounds 2 true).setIfInBounds 3 true).setIfInBounds 4 true).setIfInBounds 5 true).setIfInBounds 6 true).setIfInBounds 7 true).setIfInBounds 8 true).setIfInBounds 9 true).setIfInBounds 10 true).setIfInBounds 11 true).setIfInBounds 12 true).setIfInBounds 13 true) [] = true := by kernel_rfl
/- (*devm.Dev).Write -/
def m302_w1 (n : Nat) (b_ : Int) (data : (List UInt8)) (mm : Nat) : Int → Dev → Option (Int × Dev) := it2 (fun lp1 c1 z1 =>
cond (decide (c1 < 64)) (
Option.bind (ixL data c1) fun x1 =>
Option.bind (ckA (wi ((wi (b_ * 64)) + c1)) (z1.blk.length : Int)) fun _ =>
Option.bind (stL z1.blk (wi ((wi (b_ * 64)) + c1)) x1) fun l1 =>
nm ({ z1 with blk := l1 } : Dev) fun z4 =>
Option.bind (ixL data c1) fun x3 =>
Option.bind (apd z4.data x3) fun l2 =>
nm ({ z4 with data := l2 } : Dev) fun z6 =>
lp1 (wi (c1 + 1)) z6) (
some (c1, z1))) mm
def m302 (n : Nat) (d : Dev) (b_ : Int) (data : (List UInt8)) : Option (Int × Dev) :=
cond ((decide (b_ < 0)) || (decide ((145 : Int) ≤ b_))) (
some (1, d)) (
cond (decide (¬ ((data.length : Int) = 64))) (
some (2, d)) (
ob2 (m302_w1 n b_ data n 0 d) fun c2 z2 =>
Option.bind (apd z2.at_ b_) fun l3 =>
nm ({ z2 with at_ := l3 } : Dev) fun z7 =>
some (0, z7)))
theorem t302 {n : Nat} {C : List Chunk} {rc1 : Int} {rz1 : Dev} {b1 : Nat} {d : Dev} {v1 : Value} {g1 : List Chunk} {v2 : Value} {g2 : List Chunk} {v3 : Value} {g3 : List Chunk} {v4 : Value} {g4 : List Chunk} {b_ : Int} {v5 : Value} {data : (List UInt8)} (ho1 : Own rByte v1 d.blk g1) (ho2 : Own rByte v2 d.base g2) (ho3 : Own rInt v3 d.at_ g3) (ho4 : Own rByte v4 d.data g4) (hr1 : Rd rByte C v5 data)  (hm : m302 n d b_ data = some (rc1, rz1)) : Trip Tryz.prog 302 #[.pointer (some ⟨b1, 0, none⟩), .int .i64 b_, v5] ([[(b1, .cells (Dev.enc (v1) (v2) (v3) (v4) d).toArray 85 (0, 0))], g1, g2, g3, g4] ++ [C]) (fun u S' => ∃ (ev1 : Value), ∃ (eg1 : List Chunk), ∃ (ev2 : Value), ∃ (eg2 : List Chunk), ∃ (ev3 : Value), ∃ (eg3 : List Chunk), ∃ (ev4 : Value), ∃ (eg4 : List Chunk), .int .i64 rc1 = u ∧ S' = [[(b1, .cells (Dev.enc (ev1) (ev2) (ev3) (ev4) rz1).toArray 85 (0, 0))], eg1, eg2, eg3, eg4] ++ [C] ∧ Own rByte ev1 rz1.blk eg1 ∧ Own rByte ev2 rz1.base eg2 ∧ Own rInt ev3 rz1.at_ eg3 ∧ Own rByte ev4 rz1.data eg4) := by
  refine fn_entry (args := [.pointer (some ⟨b1, 0, none⟩), .int .i64 b_, v5]) Tryz.func302 rfl Tryz.ntmps302 rfl (fun w0 => ?_)
  refine c_seq ?_
  refine c_region ?_
  refine o_L (y_assign rfl) rfl rfl ?_
  refine o_nil0 rfl ?_
  refine c_seq ?_
  refine c_seq ?_
  refine c_joinP (n := 0) (fun sh G => sh = [(13, .bool ((decide (b_ < 0)) || (decide ((145 : Int) ≤ b_))))] ∧ G = []) Sel.all' .z (fun _ _ h => h) ?_ ?_
  · skip
    refine c_region ?_
    refine o_T (y_move rfl) rfl ?_
    refine o_T (y_lss rfl rfl) rfl ?_
    refine o_T (y_move rfl) rfl ?_
    refine o_split 10 rfl (fun h1 => ?_) (fun h1 => ?_)
    · skip
      refine o_pass rfl rfl rfl rfl rfl ?_
      refine o_pass rfl rfl rfl rfl rfl ?_
      refine o_T (y_pickT rfl rfl) rfl ?_
      refine o_nil1 13 rfl rfl ?_
      refine ⟨_, _, ⟨rfl, rfl⟩, ⟨by first | rfl | exact gtb rfl (by simp only [h1, Bool.true_and, Bool.false_and, Bool.true_or, Bool.false_or, Bool.and_true, Bool.and_false, Bool.or_true, Bool.or_false, Bool.not_true, Bool.not_false]), trivial⟩, ⟨rfl, rfl⟩, _, (s_take (s_take (s_take (s_take (s_take (s_take s_nil))))))⟩
    · skip
      refine o_take rfl rfl rfl ?_
      refine o_T (y_move rfl) rfl ?_
      refine o_take rfl rfl rfl ?_
      refine o_T (y_geq rfl rfl) rfl ?_
      refine o_T (y_pickF rfl rfl) rfl ?_
      refine o_nil1 13 rfl rfl ?_
      refine ⟨_, _, ⟨rfl, rfl⟩, ⟨by first | rfl | exact gtb rfl (by simp only [h1, Bool.true_and, Bool.false_and, Bool.true_or, Bool.false_or, Bool.and_true, Bool.and_false, Bool.or_true, Bool.or_false, Bool.not_true, Bool.not_false]), trivial⟩, ⟨rfl, rfl⟩, _, (s_take (s_take (s_take (s_take (s_take (s_take s_nil))))))⟩
  · rintro sh G ⟨rfl, rfl⟩
    refine c_cond rfl (fun h2 => ?_) (fun h2 => ?_)
    · have hm := cd_t h2 hm
      refine c_seq ?_
      refine c_region ?_
      refine o_L (y_assign rfl) rfl rfl ?_
      refine o_nil0 rfl ?_
      refine c_ret ?_
      obtain ⟨rfl, rfl⟩ := pr2 hm
      refine fun aX wX heX hsX => ret1 Tryz.results302 heX rfl (s_take (s_take (s_take (s_take (s_take (s_take s_nil)))))) ?_
      exact ⟨v1, _, v2, _, v3, _, v4, _, rfl, rfl, ho1, ho2, ho3, ho4⟩
    · have hm := cd_f h2 hm
      refine c_skip ?_
      refine c_seq ?_
      refine c_seq ?_
      refine c_region ?_
      refine o_T (y_move rfl) rfl ?_
      refine o_T (y_lenR hr1 Tryz.underlying81 rfl) rfl ?_
      refine o_T (y_neq rfl rfl) rfl ?_
      refine o_nil1 16 rfl rfl ?_
      refine c_cond rfl (fun h3 => ?_) (fun h3 => ?_)
      · have hm := cd_t h3 hm
        refine c_seq ?_
        refine c_region ?_
        refine o_L (y_assign rfl) rfl rfl ?_
        refine o_nil0 rfl ?_
        refine c_ret ?_
        obtain ⟨rfl, rfl⟩ := pr2 hm
        refine fun aX wX heX hsX => ret1 Tryz.results302 heX rfl (s_take (s_take (s_take (s_take (s_take (s_take s_nil)))))) ?_
        exact ⟨v1, _, v2, _, v3, _, v4, _, rfl, rfl, ho1, ho2, ho3, ho4⟩
      · have hm := cd_f h3 hm
        refine c_skip ?_
        refine c_seq ?_
        refine c_seq ?_
        refine c_region ?_
        refine o_L (y_assign rfl) rfl rfl ?_
        refine o_nil0 rfl ?_
        obtain ⟨c2, z2, hj1, hm⟩ := bd2 hm
        refine c_joinP (n := 5) (fun sh G => ∃ (v10 : Value), ∃ (g9 : List Chunk), ∃ (v11 : Value), ∃ (g10 : List Chunk), ∃ (v12 : Value), ∃ (g11 : List Chunk), ∃ (v13 : Value), ∃ (g12 : List Chunk), sh = [(7, .int .i64 c2)] ∧ G = [[(b1, .cells (Dev.enc (v10) (v11) (v12) (v13) z2).toArray 85 (0, 0))], g9, g10, g11, g12] ∧ Own rByte v10 z2.blk g9 ∧ Own rByte v11 z2.base g10 ∧ Own rInt v12 z2.at_ g11 ∧ Own rByte v13 z2.data g12) (s_take (s_take (s_take (s_take (s_take (s_take s_nil)))))) (.s (.s (.s (.s (.s .z))))) (fun _ _ h => h) ?_ ?_
        · skip
          refine c_block ?_
          refine c_loopP (n := 5) (fun mm sh G => ∃ (c1 : Int), ∃ (z1 : Dev), ∃ (v6 : Value), ∃ (g5 : List Chunk), ∃ (v7 : Value), ∃ (g6 : List Chunk), ∃ (v8 : Value), ∃ (g7 : List Chunk), ∃ (v9 : Value), ∃ (g8 : List Chunk), sh = [(7, .int .i64 c1)] ∧ G = [[(b1, .cells (Dev.enc (v6) (v7) (v8) (v9) z1).toArray 85 (0, 0))], g5, g6, g7, g8] ∧ m302_w1 n b_ data mm c1 z1 = some (c2, z2) ∧ Own rByte v6 z1.blk g5 ∧ Own rByte v7 z1.base g6 ∧ Own rInt v8 z1.at_ g7 ∧ Own rByte v9 z1.data g8) n (s_take (s_take (s_take (s_take (s_take (s_take s_nil)))))) (.s (.s (.s (.s (.s .z))))) ⟨_, _, ⟨_, _, v1, _, v2, _, v3, _, v4, _, rfl, rfl, hj1, ho1, ho2, ho3, ho4⟩, ⟨rfl, trivial⟩, _, (s_take (s_take (s_take (s_take (s_take (s_take s_nil))))))⟩ ?_
          rintro mm sh G ⟨c1, z1, v6, g5, v7, g6, v8, g7, v9, g8, rfl, rfl, hm, ho5, ho6, ho7, ho8⟩
          obtain ⟨mm1, rfl, hm⟩ := it2_s hm
          refine c_seq ?_
          refine c_seq ?_
          refine c_region ?_
          refine o_T (y_move rfl) rfl ?_
          refine o_T (y_lss rfl rfl) rfl ?_
          refine o_nil1 18 rfl rfl ?_
          refine c_cond rfl (fun h4 => ?_) (fun h4 => ?_)
          · have hm := cd_t h4 hm
            refine c_skip ?_
            refine c_seq ?_
            refine c_block ?_
            refine c_seq ?_
            refine c_draw #[true, true, true, true, true, true, true, true, true, true, true, true, true, false] rfl (n := 14) rfl ?_
            refine d_T 0 rfl sb_302_8_0 rfl (y_move rfl) rfl ?_
            refine d_T 1 rfl sb_302_8_1 rfl (y_nilck rfl) rfl ?_
            refine d_T 2 rfl sb_302_8_2 rfl (y_fa fl_85_0 rfl) rfl ?_
            refine d_ld 3 rfl sb_302_8_3 one_81 rfl (fun x hx => hx) m0 (At.got (At.refl.comp Dev.a_blk)) rfl ?_
            refine d_T 4 rfl sb_302_8_4 rfl (y_move rfl) rfl ?_
            refine d_T 5 rfl sb_302_8_5 rfl (y_mul rfl rfl rfl) rfl ?_
            refine d_T 6 rfl sb_302_8_6 rfl (y_move rfl) rfl ?_
            refine d_T 7 rfl sb_302_8_7 rfl (y_add rfl rfl rfl) rfl ?_
            refine d_T 8 rfl sb_302_8_8 rfl (y_move rfl) rfl ?_
            refine d_T 9 rfl sb_302_8_9 rfl (y_move rfl) rfl ?_
            obtain ⟨x1, hx1, hm⟩ := bd hm
            obtain ⟨b2, w1, cs1, y1, z3, vs1, hc1, ha1, hr2, hy1⟩ := hr1.ix hx1
            obtain rfl : vs1 = (enc8 x1) := hr2
            refine d_T 10 rfl sb_302_8_10 rfl (hy1 sl_81 rfl rfl rfl) rfl ?_
            refine d_ld 11 rfl sb_302_8_11 one_5 rfl (fun x hx => hx) (ms (ms (ms (ms (ms (mg hc1)))))) (At.getA (ha1)) rfl ?_
            obtain ⟨_, hi1, hm⟩ := bd hm
            have hi1 := ckA_some hi1
            obtain ⟨b3, cp1, hv1, hy2⟩ := ho5.ix hi1
            refine d_T 12 rfl sb_302_8_12 rfl (hy2 sl_81 rfl rfl rfl) rfl ?_
            refine d_hard 13 rfl sb_302_8_13 ?_
            obtain ⟨l1, hx3, hm⟩ := bd hm
            refine o_stO1 one_5 rfl rfl rfl rfl ho5 hv1 hx3 (fun _ => (qs q0)) (fun g13 ho13 => ?_)
            obtain ⟨z4, hn1, hm⟩ := nm_s hm
            have ho14 := ho13.to (l' := z4.blk) (by subst hn1; rfl)
            have ho15 := ho6.to (l' := z4.base) (by subst hn1; rfl)
            have ho16 := ho7.to (l' := z4.at_) (by subst hn1; rfl)
            have ho17 := ho8.to (l' := z4.data) (by subst hn1; rfl)
            refine o_row' (g' := [(b1, Obj.cells (Dev.enc (v6) (v7) (v8) (v9) z4).toArray 85 (0, 0))]) q0 (by subst hn1; rfl) ?_
            refine o_stop (fun h => nomatch h) ?_
            refine d_nil0 sb_302_8_14 rfl ?_
            refine c_draw #[true, true, true, true, true, true, true, true, true, true, false, true, true, false] rfl (n := 14) rfl ?_
            refine d_T 0 rfl sb_302_9_0 rfl (y_move rfl) rfl ?_
            refine d_T 1 rfl sb_302_9_1 rfl (y_move rfl) rfl ?_
            refine d_T 2 rfl sb_302_9_2 rfl (y_nilck rfl) rfl ?_
            refine d_T 3 rfl sb_302_9_3 rfl (y_fa fl_85_3 rfl) rfl ?_
            refine d_ld 4 rfl sb_302_9_4 one_81 rfl (fun x hx => hx) m0 (At.got (At.refl.comp Dev.a_data)) rfl ?_
            refine d_T 5 rfl sb_302_9_5 rfl (y_move rfl) rfl ?_
            refine d_T 6 rfl sb_302_9_6 rfl (y_move rfl) rfl ?_
            obtain ⟨x3, hx4, hm⟩ := bd hm
            obtain ⟨b4, w2, cs2, y2, z5, vs2, hc2, ha2, hr3, hy3⟩ := hr1.ix hx4
            obtain rfl : vs2 = (enc8 x3) := hr3
            refine d_T 7 rfl sb_302_9_7 rfl (hy3 sl_81 rfl rfl rfl) rfl ?_
            refine d_ld 8 rfl sb_302_9_8 one_5 rfl (fun x hx => hx) (ms (ms (ms (ms (ms (mg hc2)))))) (At.getA (ha2)) rfl ?_
            refine d_hard 9 rfl sb_302_9_9 ?_
            refine o_bs1 sz_81 rfl rfl rfl rfl rfl rfl (fun b5 => ?_)
            refine o_stop (fun _ => (fun x hx => (ms hx))) ?_
            refine d_hard 10 rfl sb_302_9_10 ?_
            obtain ⟨l2, hx5, hm⟩ := bd hm
            refine o_appR (R := rByte) (a := x3) sz_81 rfl rfl rfl rfl ho17 rfl hx5 (Sel.e (s_get (ks (ks (ks (ks (ks k0))))) (s_take s_nil))) rfl (fun v14 g14 ho18 => ?_)
            refine o_stop (fun h => nomatch h) ?_
            refine d_T 11 rfl sb_302_9_11 rfl (y_nilck rfl) rfl ?_
            refine d_T 12 rfl sb_302_9_12 rfl (y_fa fl_85_3 rfl) rfl ?_
            refine d_hard 13 rfl sb_302_9_13 ?_
            obtain ⟨z6, hn2, hm⟩ := nm_s hm
            have ho19 := ho14.to (l' := z6.blk) (by subst hn2; rfl)
            have ho20 := ho15.to (l' := z6.base) (by subst hn2; rfl)
            have ho21 := ho16.to (l' := z6.at_) (by subst hn2; rfl)
            have ho22 := ho18.to (l' := z6.data) (by subst hn2; rfl)
            refine o_stN one_81 rfl rfl ho18.pl (Upd.z Dev.u_data) (rs r0) (show (Dev.enc (v6) (v7) (v8) (v14) z6) = _ from by subst hn2; rfl) ?_
            refine o_stop (fun h => nomatch h) ?_
            refine d_nil0 sb_302_9_14 rfl ?_
            refine c_region ?_
            refine o_T (y_move rfl) rfl ?_
            refine o_T (y_add rfl rfl rfl) rfl ?_
            refine o_L (y_assign rfl) rfl rfl ?_
            refine o_nil0 rfl ?_
            exact ⟨mm1, Nat.lt_succ_self _, _, _, ⟨_, _, v6, _, v7, _, v8, _, v14, _, rfl, rfl, hm, ho19, ho20, ho21, ho22⟩, ⟨rfl, trivial⟩, ⟨rfl, rfl⟩, _, (s_get (ks k0) (s_get (ks k0) (s_get (ks k0) (s_get (ks k0) (s_take (s_take s_nil))))))⟩
          · have hm := cd_f h4 hm
            refine c_exit ?_
            obtain ⟨rfl, rfl⟩ := pr2 hm
            exact ⟨_, _, ⟨v6, _, v7, _, v8, _, v9, _, rfl, rfl, ho5, ho6, ho7, ho8⟩, ⟨rfl, trivial⟩, ⟨rfl, rfl⟩, _, (s_take (s_take (s_take (s_take (s_take (s_take s_nil))))))⟩
        · rintro sh G ⟨v10, g9, v11, g10, v12, g11, v13, g12, rfl, rfl, ho9, ho10, ho11, ho12⟩
          refine c_seq ?_
          refine c_region ?_
          refine o_T (y_move rfl) rfl ?_
          refine o_T (y_move rfl) rfl ?_
          refine o_T (y_nilck rfl) rfl ?_
          refine o_T (y_fa fl_85_2 rfl) rfl ?_
          refine o_ld one_65 rfl m0 (At.got (At.refl.comp Dev.a_at_)) rfl ?_
          refine o_T (y_move rfl) rfl ?_
          refine o_bs1 sz_65 rfl rfl rfl rfl rfl rfl (fun b6 => ?_)
          obtain ⟨l3, hx6, hm⟩ := bd hm
          refine o_appR (R := rInt) (a := b_) sz_65 rfl rfl rfl rfl ho11 rfl hx6 (Sel.e (s_get (ks (ks (ks (ks k0)))) (s_take s_nil))) rfl (fun v15 g15 ho23 => ?_)
          refine o_T (y_nilck rfl) rfl ?_
          refine o_T (y_fa fl_85_2 rfl) rfl ?_
          obtain ⟨z7, hn3, hm⟩ := nm_s hm
          have ho24 := ho9.to (l' := z7.blk) (by subst hn3; rfl)
          have ho25 := ho10.to (l' := z7.base) (by subst hn3; rfl)
          have ho26 := ho23.to (l' := z7.at_) (by subst hn3; rfl)
          have ho27 := ho12.to (l' := z7.data) (by subst hn3; rfl)
          refine o_stN one_65 rfl rfl ho23.pl (Upd.z Dev.u_at_) (rs r0) (show (Dev.enc (v10) (v11) (v15) (v13) z7) = _ from by subst hn3; rfl) ?_
          refine o_nil0 rfl ?_
          refine c_seq ?_
          refine c_region ?_
          refine o_L (y_assign rfl) rfl rfl ?_
          refine o_nil0 rfl ?_
          refine c_ret ?_
          obtain ⟨rfl, rfl⟩ := pr2 hm
          refine fun aX wX heX hsX => ret1 Tryz.results302 heX rfl (s_get (ks k0) (s_get (ks k0) (s_get (ks k0) (s_take (s_take (s_take s_nil)))))) ?_
          exact ⟨v10, _, v11, _, v15, _, v13, _, rfl, rfl, ho24, ho25, ho26, ho27⟩
end Go.Proofs.Qxb6500350aGreat
