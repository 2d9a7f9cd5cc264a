/- MADE BY PROGRAM (tools350/mir.py): mirror and walk. -/
import Derived.Test.Qxb6500350aGreatF2
import Derived.Test.Qxb6500350aGreatT258
import Derived.Test.Qxb6500350aGreatT259
import Derived.Test.Qxb6500350aGreatT242
import Derived.Test.Qxb6500350aGreatT163
set_option linter.unusedVariables false
set_option linter.unusedSimpArgs false
set_option maxRecDepth 20000
set_option maxHeartbeats 4000000
namespace Go.Proofs.Qxb6500350aGreat
open Go.Eng

def op_189_19 : Array Go.Oper := #[{ dst := some 66, op := Go.Op.move (Go.Operand.tmp 12), type := 81, pos := "check.go:68", after := #[], guard := none }, { dst := some 67, op := Go.Op.indexAddr 81 (Go.Operand.tmp 66) (Go.Operand.const (Go.Value.int Go.IntKind.i64 0)), type := 0, pos := "check.go:68", after := #[{ on := 0, ground := Go.Ground.data }], guard := none }, { dst := some 68, op := Go.Op.load 5 (Go.Operand.tmp 67), type := 5, pos := "check.go:68", after := #[{ on := 1, ground := Go.Ground.data }], guard := none }, { dst := some 69, op := Go.Op.convert 5 3 (Go.Operand.tmp 68), type := 3, pos := "check.go:68", after := #[{ on := 2, ground := Go.Ground.data }], guard := none }, { dst := some 70, op := Go.Op.fieldAddr 120 (Go.Operand.tmp 4) 1, type := 0, pos := "check.go:68", after := #[], guard := none }, { dst := some 71, op := Go.Op.load 3 (Go.Operand.tmp 70), type := 3, pos := "check.go:68", after := #[{ on := 4, ground := Go.Ground.data }], guard := none }, { dst := some 72, op := Go.Op.binOp Go.BinOp.neq 3 (Go.Operand.tmp 69) (Go.Operand.tmp 71) 3, type := 4, pos := "check.go:68", after := #[{ on := 3, ground := Go.Ground.data }, { on := 5, ground := Go.Ground.data }], guard := none }, { dst := some 73, op := Go.Op.move (Go.Operand.tmp 72), type := 4, pos := "check.go:68", after := #[{ on := 6, ground := Go.Ground.data }], guard := none }, { dst := some 74, op := Go.Op.move (Go.Operand.tmp 12), type := 81, pos := "check.go:68", after := #[{ on := 7, ground := Go.Ground.guard }], guard := some (7, false) }, { dst := some 75, op := Go.Op.indexAddr 81 (Go.Operand.tmp 74) (Go.Operand.const (Go.Value.int Go.IntKind.i64 2)), type := 0, pos := "check.go:68", after := #[{ on := 8, ground := Go.Ground.data }, { on := 7, ground := Go.Ground.guard }], guard := some (7, false) }, { dst := some 76, op := Go.Op.load 5 (Go.Operand.tmp 75), type := 5, pos := "check.go:68", after := #[{ on := 9, ground := Go.Ground.data }, { on := 7, ground := Go.Ground.guard }], guard := some (7, false) }, { dst := some 77, op := Go.Op.convert 5 3 (Go.Operand.tmp 76), type := 3, pos := "check.go:68", after := #[{ on := 10, ground := Go.Ground.data }, { on := 7, ground := Go.Ground.guard }], guard := some (7, false) }, { dst := some 78, op := Go.Op.move (Go.Operand.tmp 13), type := 3, pos := "check.go:68", after := #[{ on := 7, ground := Go.Ground.guard }], guard := some (7, false) }, { dst := some 79, op := Go.Op.binOp Go.BinOp.neq 3 (Go.Operand.tmp 77) (Go.Operand.tmp 78) 3, type := 4, pos := "check.go:68", after := #[{ on := 11, ground := Go.Ground.data }, { on := 12, ground := Go.Ground.data }, { on := 7, ground := Go.Ground.guard }], guard := some (7, false) }, { dst := some 80, op := Go.Op.pick (Go.Operand.tmp 73) (Go.Operand.const (Go.Value.bool true)) (Go.Operand.tmp 79), type := 4, pos := "check.go:68", after := #[{ on := 7, ground := Go.Ground.data }, { on := 13, ground := Go.Ground.data }], guard := none }, { dst := some 81, op := Go.Op.move (Go.Operand.tmp 80), type := 4, pos := "check.go:68", after := #[{ on := 14, ground := Go.Ground.data }, { on := 7, ground := Go.Ground.chain }], guard := none }, { dst := some 82, op := Go.Op.move (Go.Operand.tmp 12), type := 81, pos := "check.go:68", after := #[{ on := 15, ground := Go.Ground.guard }], guard := some (15, false) }, { dst := some 83, op := Go.Op.indexAddr 81 (Go.Operand.tmp 82) (Go.Operand.const (Go.Value.int Go.IntKind.i64 3)), type := 0, pos := "check.go:68", after := #[{ on := 16, ground := Go.Ground.data }, { on := 15, ground := Go.Ground.guard }], guard := some (15, false) }, { dst := some 84, op := Go.Op.load 5 (Go.Operand.tmp 83), type := 5, pos := "check.go:68", after := #[{ on := 17, ground := Go.Ground.data }, { on := 15, ground := Go.Ground.guard }], guard := some (15, false) }, { dst := some 85, op := Go.Op.binOp Go.BinOp.neq 5 (Go.Operand.tmp 84) (Go.Operand.const (Go.Value.int Go.IntKind.u8 0)) 5, type := 4, pos := "check.go:68", after := #[{ on := 18, ground := Go.Ground.data }, { on := 15, ground := Go.Ground.guard }], guard := some (15, false) }, { dst := some 86, op := Go.Op.pick (Go.Operand.tmp 81) (Go.Operand.const (Go.Value.bool true)) (Go.Operand.tmp 85), type := 4, pos := "check.go:68", after := #[{ on := 15, ground := Go.Ground.data }, { on := 19, ground := Go.Ground.data }], guard := none }]
theorem sb_189_19_0 : softB op_189_19 #[true, true, true, true, true, true, true, true, true, true, true, true, true, true, true, true, true, true, true, true, true] (Array.replicate 21 false) 0 = true := by kernel_rfl
theorem sb_189_19_1 : softB op_189_19 #[true, true, true, true, true, true, true, true, true, true, true, true, true, true, true, true, true, true, true, true, true] ((Array.replicate 21 false).setIfInBounds 0 true) 1 = true := by kernel_rfl
theorem sb_189_19_2 : softB op_189_19 #[true, true, true, true, true, true, true, true, true, true, true, true, true, true, true, true, true, true, true, true, true] (((Array.replicate 21 false).setIfInBounds 0 true).setIfInBounds 1 true) 2 = true := by kernel_rfl
theorem sb_189_19_3 : softB op_189_19 #[true, true, true, true, true, true, true, true, true, true, true, true, true, true, true, true, true, true, true, true, true] ((((Array.replicate 21 false).setIfInBounds 0 true).setIfInBounds 1 true).setIfInBounds 2 true) 3 = true := by kernel_rfl
theorem sb_189_19_4 : softB op_189_19 #[true, true, true, true, true, true, true, true, true, true, true, true, true, true, true, true, true, true, true, true, true] (((((Array.replicate 21 false).setIfInBounds 0 true).setIfInBounds 1 true).setIfInBounds 2 true).setIfInBounds 3 true) 4 = true := by kernel_rfl
theorem sb_189_19_5 : softB op_189_19 #[true, true, true, true, true, true, true, true, true, true, true, true, true, true, true, true, true, true, true, true, true] ((((((Array.replicate 21 false).setIfInBounds 0 true).setIfInBounds 1 true).setIfInBounds 2 true).setIfInBounds 3 true).setIfInBounds 4 true) 5 = true := by kernel_rfl
theorem sb_189_19_6 : softB op_189_19 #[true, true, true, true, true, true, true, true, true, true, true, true, true, true, true, true, true, true, true, true, true] (((((((Array.replicate 21 false).setIfInBounds 0 true).setIfInBounds 1 true).setIfInBounds 2 true).setIfInBounds 3 true).setIfInBounds 4 true).setIfInBounds 5 true) 6 = true := by kernel_rfl
theorem sb_189_19_7 : softB op_189_19 #[true, true, true, true, true, true, true, true, true, true, true, true, true, true, true, true, true, true, true, true, true] ((((((((Array.replicate 21 false).setIfInBounds 0 true).setIfInBounds 1 true).setIfInBounds 2 true).setIfInBounds 3 true).setIfInBounds 4 true).setIfInBounds 5 true).setIfInBounds 6 true) 7 = true := by kernel_rfl
theorem sb_189_19_8 : softB op_189_19 #[true, true, true, true, true, true, true, true, true, true, true, true, true, true, true, true, true, true, true, true, true] (((((((((Array.replicate 21 false).setIfInBounds 0 true).setIfInBounds 1 true).setIfInBounds 2 true).setIfInBounds 3 true).setIfInBounds 4 true).setIfInBounds 5 true).setIfInBounds 6 true).setIfInBounds 7 true) 8 = true := by kernel_rfl
theorem sb_189_19_9 : softB op_189_19 #[true, true, true, true, true, true, true, true, true, true, true, true, true, true, true, true, true, true, true, true, true] ((((((((((Array.replicate 21 false).setIfInBounds 0 true).setIfInBounds 1 true).setIfInBounds 2 true).setIfInBounds 3 true).setIfInBounds 4 true).setIfInBounds 5 true).setIfInBounds 6 true).setIfInBounds 7 true).setIfInBounds 8 true) 9 = true := by kernel_rfl
theorem sb_189_19_10 : softB op_189_19 #[true, true, true, true, true, true, true, true, true, true, true, true, true, true, true, true, true, true, true, true, true] (((((((((((Array.replicate 21 false).setIfInBounds 0 true).setIfInBounds 1 true).setIfInBounds 2 true).setIfInBounds 3 true).setIfInBounds 4 true).setIfInBounds 5 true).setIfInBounds 6 true).setIfInBounds 7 true).setIfInBounds 8 true).setIfInBounds 9 true) 10 = true := by kernel_rfl
theorem sb_189_19_11 : softB op_189_19 #[true, true, true, true, true, true, true, true, true, true, true, true, true, true, true, true, true, true, true, true, true] ((((((((((((Array.replicate 21 false).setIfInBounds 0 true).setIfInBounds 1 true).setIfInBounds 2 true).setIfInBounds 3 true).setIfInBounds 4 true).setIfInBounds 5 true).setIfInBounds 6 true).setIfInBounds 7 true).setIfInBounds 8 true).setIfInBounds 9 true).setIfInBounds 10 true) 11 = true := by kernel_rfl
theorem sb_189_19_12 : softB op_189_19 #[true, true, true, true, true, true, true, true, true, true, true, true, true, true, true, true, true, true, true, true, true] (((((((((((((Array.replicate 21 false).setIfInBounds 0 true).setIfInBounds 1 true).setIfInBounds 2 true).setIfInBounds 3 true).setIfInBounds 4 true).setIfInBounds 5 true).setIfInBounds 6 true).setIfInBounds 7 true).setIfInBounds 8 true).setIfInBounds 9 true).setIfInBounds 10 true).setIfInBounds 11 true) 12 = true := by kernel_rfl
theorem sb_189_19_13 : softB op_189_19 #[true, true, true, true, true, true, true, true, true, true, true, true, true, true, true, true, true, true, true, true, true] ((((((((((((((Array.replicate 21 false).setIfInBounds 0 true).setIfInBounds 1 true).setIfInBounds 2 true).setIfInBounds 3 true).setIfInBounds 4 true).setIfInBounds 5 true).setIfInBounds 6 true).setIfInBounds 7 true).setIfInBounds 8 true).setIfInBounds 9 true).setIfInBounds 10 true).setIfInBounds 11 true).setIfInBounds 12 true) 13 = true := by kernel_rfl
theorem sb_189_19_14 : softB op_189_19 #[true, true, true, true, true, true, true, true, true, true, true, true, true, true, true, true, true, true, true, true, true] (((((((((((((((Array.replicate 21 false).setIfInBounds 0 true).setIfInBounds 1 true).setIfInBounds 2 true).setIfInBounds 3 true).setIfInBounds 4 true).setIfInBounds 5 true).setIfInBounds 6 true).setIfInBounds 7 true).setIfInBounds 8 true).setIfInBounds 9 true).setIfInBounds 10 true).setIfInBounds 11 true).setIfInBounds 12 true).setIfInBounds 13 true) 14 = true := by kernel_rfl
theorem sb_189_19_15 : softB op_189_19 #[true, true, true, true, true, true, true, true, true, true, true, true, true, true, true, true, true, true, true, true, true] ((((((((((((((((Array.replicate 21 false).setIfInBounds 0 true).setIfInBounds 1 true).setIfInBounds 2 true).setIfInBounds 3 true).setIfInBounds 4 true).setIfInBounds 5 true).setIfInBounds 6 true).setIfInBounds 7 true).setIfInBounds 8 true).setIfInBounds 9 true).setIfInBounds 10 true).setIfInBounds 11 true).setIfInBounds 12 true).setIfInBounds 13 true).setIfInBounds 14 true) 15 = true := by kernel_rfl
theorem sb_189_19_16 : softB op_189_19 #[true, true, true, true, true, true, true, true, true, true, true, true, true, true, true, true, true, true, true, true, true] (((((((((((((((((Array.replicate 21 false).setIfInBounds 0 true).setIfInBounds 1 true).setIfInBounds 2 true).setIfInBounds 3 true).setIfInBounds 4 true).setIfInBounds 5 true).setIfInBounds 6 true).setIfInBounds 7 true).setIfInBounds 8 true).setIfInBounds 9 true).setIfInBounds 10 true).setIfInBounds 11 true).setIfInBounds 12 true).setIfInBounds 13 true).setIfInBounds 14 true).setIfInBounds 15 true) 16 = true := by kernel_rfl
theorem sb_189_19_17 : softB op_189_19 #[true, true, true, true, true, true, true, true, true, true, true, true, true, true, true, true, true, true, true, true, true] ((((((((((((((((((Array.replicate 21 false).setIfInBounds 0 true).setIfInBounds 1 true).setIfInBounds 2 true).setIfInBounds 3 true).setIfInBounds 4 true).setIfInBounds 5 true).setIfInBounds 6 true).setIfInBounds 7 true).setIfInBounds 8 true).setIfInBounds 9 true).setIfInBounds 10 true).setIfInBounds 11 true).setIfInBounds 12 true).setIfInBounds 13 true).setIfInBounds 14 true).setIfInBounds 15 true).setIfInBounds 16 true) 17 = true := by kernel_rfl
theorem sb_189_19_18 : softB op_189_19 #[true, true, true, true, true, true, true, true, true, true, true, true, true, true, true, true, true, true, true, true, true] (((((((((((((((((((Array.replicate 21 false).setIfInBounds 0 true).setIfInBounds 1 true).setIfInBounds 2 true).setIfInBounds 3 true).setIfInBounds 4 true).setIfInBounds 5 true).setIfInBounds 6 true).setIfInBounds 7 true).setIfInBounds 8 true).setIfInBounds 9 true).setIfInBounds 10 true).setIfInBounds 11 true).setIfInBounds 12 true).setIfInBounds 13 true).setIfInBounds 14 true).setIfInBounds 15 true).setIfInBounds 16 true).setIfInBounds 17 true) 18 = true := by kernel_rfl
theorem sb_189_19_19 : softB op_189_19 #[true, true, true, true, true, true, true, true, true, true, true, true, true, true, true, true, true, true, true, true, true] ((((((((((((((((((((Array.replicate 21 false).setIfInBounds 0 true).setIfInBounds 1 true).setIfInBounds 2 true).setIfInBounds 3 true).setIfInBounds 4 true).setIfInBounds 5 true).setIfInBounds 6 true).setIfInBounds 7 true).setIfInBounds 8 true).setIfInBounds 9 true).setIfInBounds 10 true).setIfInBounds 11 true).setIfInBounds 12 true).setIfInBounds 13 true).setIfInBounds 14 true).setIfInBounds 15 true).setIfInBounds 16 true).setIfInBounds 17 true).setIfInBounds 18 true) 19 = true := by kernel_rfl
theorem sb_189_19_20 : softB op_189_19 #[true, true, true, true, true, true, true, true, true, true, true, true, true, true, true, true, true, true, true, true, true] (((((((((((((((((((((Array.replicate 21 false).setIfInBounds 0 true).setIfInBounds 1 true).setIfInBounds 2 true).setIfInBounds 3 true).setIfInBounds 4 true).setIfInBounds 5 true).setIfInBounds 6 true).setIfInBounds 7 true).setIfInBounds 8 true).setIfInBounds 9 true).setIfInBounds 10 true).setIfInBounds 11 true).setIfInBounds 12 true).setIfInBounds 13 true).setIfInBounds 14 true).setIfInBounds 15 true).setIfInBounds 16 true).setIfInBounds 17 true).setIfInBounds 18 true).setIfInBounds 19 true) 20 = true := by kernel_rfl
theorem sb_189_19_21 : hardB op_189_19 ((((((((((((((((((((((Array.replicate 21 false).setIfInBounds 0 true).setIfInBounds 1 true).setIfInBounds 2 true).setIfInBounds 3 true).setIfInBounds 4 true).setIfInBounds 5 true).setIfInBounds 6 true).setIfInBounds 7 true).setIfInBounds 8 true).setIfInBounds 9 true).setIfInBounds 10 true).setIfInBounds 11 true).setIfInBounds 12 true).setIfInBounds 13 true).setIfInBounds 14 true).setIfInBounds 15 true).setIfInBounds 16 true).setIfInBounds 17 true).setIfInBounds 18 true).setIfInBounds 19 true).setIfInBounds 20 true) [] = true := by kernel_rfl
/- (*objects.Store).soundChain -/
def m189_w2 (n : Nat) (z3 : Store) (l1 : List UInt8) (c11 : Int) (mm : Nat) : Int → Int → Option (Flow (Flow (Bool × Store) (Int × Int × Int × Int × Store)) (Int × Int)) := it2 (fun lp2 c13 c14 =>
cond (decide (c14 < 60)) (
cond (decide (c14 < c11)) (
Option.bind (ixL l1 (wi (4 + c14))) fun x4 =>
lp2 (ww ((ww (c13 * 31)) + (x4.toNat : Int))) (wi (c14 + 1))) (
Option.bind (ixL l1 (wi (4 + c14))) fun x5 =>
cond (decide (¬ ((x5.toNat : Int) = 0))) (
Option.bind (Option.bind (some (false, z3)) fun q6 => some (.ret q6)) fun q5 => some (.ret q5)) (
lp2 c13 (wi (c14 + 1))))) (
some (.nx (c13, c14)))) mm
def m189_w1 (n : Nat) (s : Store) (d : Dev) (e_ : Entr) (c1 : Int) (mm : Nat) : Int → Int → Int → Int → Store → Option (Flow (Bool × Store) (Int × Int × Int × Int × Store)) := it5 (fun lp1 c2 c3 c4 c5 z1 =>
cond (decide (c5 < c1)) (
cond ((decide (c4 < 1)) || (decide ((145 : Int) ≤ c4))) (
Option.bind (some (false, z1)) fun q2 => some (.ret q2)) (
ob1 (m259 n z1 c4) fun c10 =>
cond c10 (
Option.bind (some (false, z1)) fun q3 => some (.ret q3)) (
ob1 (m242 n z1 c4 true) fun z3 =>
ob1 (m163 n s d c4) fun l1 =>
ob1 (cond (decide ((60 : Int) < c2)) (
some 60) (
some c2)) fun c11 =>
ob1 (Option.bind (ixL l1 0) fun x1 =>
cond (decide (¬ ((x1.toNat : Int) = e_.kind))) (some (true)) (Option.bind (ixL l1 2) fun x2 =>
cond (decide (¬ ((x2.toNat : Int) = c11))) (some (true)) (Option.bind (ixL l1 3) fun x3 =>
some ((decide (¬ ((x3.toNat : Int) = 0))))))) fun c12 =>
cond c12 (
Option.bind (some (false, z3)) fun q4 => some (.ret q4)) (
flow (m189_w2 n z3 l1 c11 n c3 0) some (un2 fun c15 c16 =>
Option.bind (ixL l1 1) fun x6 =>
lp1 (wi (c2 - c11)) c15 (x6.toNat : Int) (wi (c5 + 1)) z3))))) (
some (.nx (c2, c3, c4, c5, z1)))) mm
def m189 (n : Nat) (s : Store) (d : Dev) (s_2 : Store) (e_ : Entr) : Option (Bool × Store) :=
cond ((((decide (e_.kind < 1)) || (decide ((4 : Int) < e_.kind))) || (decide (e_.size < 0))) || (decide ((180 : Int) < e_.size))) (
some (false, s_2)) (
ob1 (m258 n e_.size) fun c1 =>
flow (m189_w1 n s d e_ c1 n e_.size (ww e_.kind) e_.first 0 s_2) some (un5 fun c6 c7 c8 c9 z2 =>
some ((((decide (c8 = 0)) && (decide (c6 = 0))) && (decide (c7 = e_.hash))), z2)))
theorem t189 {n : Nat} {C : List Chunk} {rc1 : Bool} {rz1 : Store} {b1 : Nat} {s : Store} {b2 : Nat} {d : Dev} {v1 : Value} {g1 : List Chunk} {v2 : Value} {g2 : List Chunk} {v3 : Value} {g3 : List Chunk} {v4 : Value} {g4 : List Chunk} {e_ : Entr} {b3 : Nat} {s_2 : Store} {q1 : Option Addr} (ho1 : Own rByte v1 d.blk g1) (ho2 : Own rByte v2 d.base g2) (ho3 : Own rInt v3 d.at_ g3) (ho4 : Own rByte v4 d.data g4)  (hm : m189 n s d s_2 e_ = some (rc1, rz1)) : Trip Tryz.prog 189 #[.pointer (some ⟨b1, 0, none⟩), .agg (Entr.enc e_).toArray, .pointer (some ⟨b3, 0, none⟩)] ([[(b1, .cells (Store.enc (.pointer (some ⟨b2, 0, none⟩)) s).toArray 126 (0, 0))], [(b2, .cells (Dev.enc (v1) (v2) (v3) (v4) d).toArray 85 (0, 0))], g1, g2, g3, g4, [(b3, .cells (Store.enc ((.pointer q1)) s_2).toArray 126 (0, 0))]] ++ [C]) (fun u S' => .bool rc1 = u ∧ S' = [[(b1, .cells (Store.enc (.pointer (some ⟨b2, 0, none⟩)) s).toArray 126 (0, 0))], [(b2, .cells (Dev.enc (v1) (v2) (v3) (v4) d).toArray 85 (0, 0))], g1, g2, g3, g4, [(b3, .cells (Store.enc ((.pointer q1)) rz1).toArray 126 (0, 0))]] ++ [C]) := by
  refine fn_entry (args := [.pointer (some ⟨b1, 0, none⟩), .agg (Entr.enc e_).toArray, .pointer (some ⟨b3, 0, none⟩)]) Tryz.func189 rfl Tryz.ntmps189 rfl (fun w0 => ?_)
  refine c_seq ?_
  refine c_region ?_
  refine o_box rfl rfl rfl rfl (fun b4 => ?_)
  refine o_L (y_assign rfl) rfl rfl ?_
  refine o_nil0 rfl ?_
  refine c_seq ?_
  refine c_seq ?_
  refine c_joinP (n := 0) (fun sh G => sh = [(32, .bool ((((decide (e_.kind < 1)) || (decide ((4 : Int) < e_.kind))) || (decide (e_.size < 0))) || (decide ((180 : Int) < e_.size))))] ∧ G = []) Sel.all' .z (fun _ _ h => h) ?_ ?_
  · skip
    refine c_region ?_
    refine o_T (y_fa fl_120_1 rfl) rfl ?_
    refine o_ld one_3 rfl m0 (At.got (At.refl.comp Entr.a_kind)) rfl ?_
    refine o_T (y_lss rfl rfl) rfl ?_
    refine o_T (y_move rfl) rfl ?_
    refine o_split 18 rfl (fun h1 => ?_) (fun h1 => ?_)
    · skip
      refine o_pass rfl rfl rfl rfl rfl ?_
      refine o_pass rfl rfl rfl rfl rfl ?_
      refine o_pass rfl rfl rfl rfl rfl ?_
      refine o_T (y_pickT rfl rfl) rfl ?_
      refine o_T (y_move rfl) rfl ?_
      refine o_pass rfl rfl rfl rfl rfl ?_
      refine o_pass rfl rfl rfl rfl rfl ?_
      refine o_pass rfl rfl rfl rfl rfl ?_
      refine o_T (y_pickT rfl rfl) rfl ?_
      refine o_T (y_move rfl) rfl ?_
      refine o_pass rfl rfl rfl rfl rfl ?_
      refine o_pass rfl rfl rfl rfl rfl ?_
      refine o_pass rfl rfl rfl rfl rfl ?_
      refine o_T (y_pickT rfl rfl) rfl ?_
      refine o_nil1 32 rfl rfl ?_
      refine ⟨_, _, ⟨rfl, rfl⟩, ⟨by first | rfl | exact gtb rfl (by simp only [h1, Bool.true_and, Bool.false_and, Bool.true_or, Bool.false_or, Bool.and_true, Bool.and_false, Bool.or_true, Bool.or_false, Bool.not_true, Bool.not_false]), trivial⟩, ⟨rfl, rfl⟩, _, (s_take (s_take (s_take (s_take (s_take (s_take (s_take (s_take (s_take s_nil)))))))))⟩
    · skip
      refine o_take rfl rfl rfl ?_
      refine o_T (y_fa fl_120_1 rfl) rfl ?_
      refine o_take rfl rfl rfl ?_
      refine o_ld one_3 rfl m0 (At.got (At.refl.comp Entr.a_kind)) rfl ?_
      refine o_take rfl rfl rfl ?_
      refine o_T (y_gtr rfl rfl) rfl ?_
      refine o_T (y_pickF rfl rfl) rfl ?_
      refine o_T (y_move rfl) rfl ?_
      refine o_split 23 rfl (fun h2 => ?_) (fun h2 => ?_)
      · skip
        refine o_pass rfl rfl rfl rfl rfl ?_
        refine o_pass rfl rfl rfl rfl rfl ?_
        refine o_pass rfl rfl rfl rfl rfl ?_
        refine o_T (y_pickT rfl rfl) rfl ?_
        refine o_T (y_move rfl) rfl ?_
        refine o_pass rfl rfl rfl rfl rfl ?_
        refine o_pass rfl rfl rfl rfl rfl ?_
        refine o_pass rfl rfl rfl rfl rfl ?_
        refine o_T (y_pickT rfl rfl) rfl ?_
        refine o_nil1 32 rfl rfl ?_
        refine ⟨_, _, ⟨rfl, rfl⟩, ⟨by first | rfl | exact gtb rfl (by simp only [h1, h2, Bool.true_and, Bool.false_and, Bool.true_or, Bool.false_or, Bool.and_true, Bool.and_false, Bool.or_true, Bool.or_false, Bool.not_true, Bool.not_false]), trivial⟩, ⟨rfl, rfl⟩, _, (s_take (s_take (s_take (s_take (s_take (s_take (s_take (s_take (s_take s_nil)))))))))⟩
      · skip
        refine o_take rfl rfl rfl ?_
        refine o_T (y_fa fl_120_2 rfl) rfl ?_
        refine o_take rfl rfl rfl ?_
        refine o_ld one_3 rfl m0 (At.got (At.refl.comp Entr.a_size)) rfl ?_
        refine o_take rfl rfl rfl ?_
        refine o_T (y_lss rfl rfl) rfl ?_
        refine o_T (y_pickF rfl rfl) rfl ?_
        refine o_T (y_move rfl) rfl ?_
        refine o_split 28 rfl (fun h3 => ?_) (fun h3 => ?_)
        · skip
          refine o_pass rfl rfl rfl rfl rfl ?_
          refine o_pass rfl rfl rfl rfl rfl ?_
          refine o_pass rfl rfl rfl rfl rfl ?_
          refine o_T (y_pickT rfl rfl) rfl ?_
          refine o_nil1 32 rfl rfl ?_
          refine ⟨_, _, ⟨rfl, rfl⟩, ⟨by first | rfl | exact gtb rfl (by simp only [h1, h2, h3, Bool.true_and, Bool.false_and, Bool.true_or, Bool.false_or, Bool.and_true, Bool.and_false, Bool.or_true, Bool.or_false, Bool.not_true, Bool.not_false]), trivial⟩, ⟨rfl, rfl⟩, _, (s_take (s_take (s_take (s_take (s_take (s_take (s_take (s_take (s_take s_nil)))))))))⟩
        · skip
          refine o_take rfl rfl rfl ?_
          refine o_T (y_fa fl_120_2 rfl) rfl ?_
          refine o_take rfl rfl rfl ?_
          refine o_ld one_3 rfl m0 (At.got (At.refl.comp Entr.a_size)) rfl ?_
          refine o_take rfl rfl rfl ?_
          refine o_T (y_gtr rfl rfl) rfl ?_
          refine o_T (y_pickF rfl rfl) rfl ?_
          refine o_nil1 32 rfl rfl ?_
          refine ⟨_, _, ⟨rfl, rfl⟩, ⟨by first | rfl | exact gtb rfl (by simp only [h1, h2, h3, Bool.true_and, Bool.false_and, Bool.true_or, Bool.false_or, Bool.and_true, Bool.and_false, Bool.or_true, Bool.or_false, Bool.not_true, Bool.not_false]), trivial⟩, ⟨rfl, rfl⟩, _, (s_take (s_take (s_take (s_take (s_take (s_take (s_take (s_take (s_take s_nil)))))))))⟩
  · rintro sh G ⟨rfl, rfl⟩
    refine c_cond rfl (fun h4 => ?_) (fun h4 => ?_)
    · have hm := cd_t h4 hm
      refine c_seq ?_
      refine c_region ?_
      refine o_L (y_assign rfl) rfl rfl ?_
      refine o_nil0 rfl ?_
      refine c_ret ?_
      obtain ⟨rfl, rfl⟩ := pr2 hm
      refine fun aX wX heX hsX => ret1 Tryz.results189 heX rfl (s_skip (s_take (s_take (s_take (s_take (s_take (s_take (s_take (s_take s_nil))))))))) ?_
      exact ⟨rfl, rfl⟩
    · have hm := cd_f h4 hm
      refine c_skip ?_
      refine c_seq ?_
      refine c_region ?_
      refine o_T (y_fa fl_120_2 rfl) rfl ?_
      refine o_ld one_3 rfl m0 (At.got (At.refl.comp Entr.a_size)) rfl ?_
      obtain ⟨c1, hx1, hm⟩ := bd1 hm
      refine o_callC en_258 rfl s_nil (t258 hx1) rfl (fun u1 S1 hR1 => ?_)
      obtain ⟨rfl, rfl⟩ := hR1
      refine o_rest ?_
      refine o_L (y_assign rfl) rfl rfl ?_
      refine o_nil0 rfl ?_
      refine c_seq ?_
      refine c_region ?_
      refine o_T (y_fa fl_120_2 rfl) rfl ?_
      refine o_ld one_3 rfl m0 (At.got (At.refl.comp Entr.a_size)) rfl ?_
      refine o_L (y_assign rfl) rfl rfl ?_
      refine o_nil0 rfl ?_
      refine c_seq ?_
      refine c_region ?_
      refine o_T (y_fa fl_120_1 rfl) rfl ?_
      refine o_ld one_3 rfl m0 (At.got (At.refl.comp Entr.a_kind)) rfl ?_
      refine o_T (y_conv Tryz.underlying3 Tryz.underlying118 rfl rfl) rfl ?_
      refine o_L (y_assign rfl) rfl rfl ?_
      refine o_nil0 rfl ?_
      refine c_seq ?_
      refine c_region ?_
      refine o_T (y_fa fl_120_3 rfl) rfl ?_
      refine o_ld one_3 rfl m0 (At.got (At.refl.comp Entr.a_first)) rfl ?_
      refine o_L (y_assign rfl) rfl rfl ?_
      refine o_nil0 rfl ?_
      refine c_seq ?_
      refine c_seq ?_
      refine c_region ?_
      refine o_L (y_assign rfl) rfl rfl ?_
      refine o_nil0 rfl ?_
      obtain ⟨f1, F1, hF1, hj1, hF2⟩ := fl2 hm
      refine c_joinP (n := 1) (fun sh G => ∃ (c6 : Int), ∃ (c7 : Int), ∃ (c8 : Int), ∃ (c9 : Int), ∃ (z2 : Store), sh = [(8, .int .i64 c6), (9, .int .u32 c7), (10, .int .i64 c8), (11, .int .i64 c9)] ∧ G = [[(b3, .cells (Store.enc ((.pointer q1)) z2).toArray 126 (0, 0))]] ∧ F1 (c6, c7, c8, c9, z2) = some (rc1, rz1)) (s_get (ks (ks (ks (ks (ks (ks (ks k0))))))) (s_take (s_take (s_take (s_take (s_take (s_take (s_take (s_take s_nil))))))))) (.s .z) (fun _ _ h => h) ?_ ?_
      · skip
        refine c_block ?_
        refine c_loopP (n := 1) (fun mm sh G => ∃ (c2 : Int), ∃ (c3 : Int), ∃ (c4 : Int), ∃ (c5 : Int), ∃ (z1 : Store), sh = [(8, .int .i64 c2), (9, .int .u32 c3), (10, .int .i64 c4), (11, .int .i64 c5)] ∧ G = [[(b3, .cells (Store.enc ((.pointer q1)) z1).toArray 126 (0, 0))]] ∧ m189_w1 n s d e_ c1 mm c2 c3 c4 c5 z1 = some f1) n (s_get (ks (ks (ks (ks (ks (ks (ks k0))))))) (s_take (s_take (s_take (s_take (s_take (s_take (s_take (s_take s_nil))))))))) (.s .z) ⟨_, _, ⟨_, _, _, _, _, rfl, rfl, hj1⟩, ⟨rfl, rfl, rfl, rfl, trivial⟩, _, (s_get (ks (ks (ks (ks (ks (ks (ks k0))))))) (s_take (s_take (s_take (s_take (s_take (s_take (s_take (s_take s_nil)))))))))⟩ ?_
        rintro mm sh G ⟨c2, c3, c4, c5, z1, rfl, rfl, hm⟩
        obtain ⟨mm1, rfl, hm⟩ := it5_s hm
        refine c_seq ?_
        refine c_seq ?_
        refine c_region ?_
        refine o_T (y_move rfl) rfl ?_
        refine o_T (y_move rfl) rfl ?_
        refine o_T (y_lss rfl rfl) rfl ?_
        refine o_nil1 45 rfl rfl ?_
        refine c_cond rfl (fun h5 => ?_) (fun h5 => ?_)
        · have hm := cd_t h5 hm
          refine c_skip ?_
          refine c_seq ?_
          refine c_block ?_
          refine c_seq ?_
          refine c_seq ?_
          refine c_joinP (n := 0) (fun sh G => sh = [(53, .bool ((decide (c4 < 1)) || (decide ((145 : Int) ≤ c4))))] ∧ G = []) Sel.all' .z (fun _ _ h => h) ?_ ?_
          · skip
            refine c_region ?_
            refine o_T (y_move rfl) rfl ?_
            refine o_T (y_lss rfl rfl) rfl ?_
            refine o_T (y_move rfl) rfl ?_
            refine o_split 50 rfl (fun h6 => ?_) (fun h6 => ?_)
            · skip
              refine o_pass rfl rfl rfl rfl rfl ?_
              refine o_pass rfl rfl rfl rfl rfl ?_
              refine o_T (y_pickT rfl rfl) rfl ?_
              refine o_nil1 53 rfl rfl ?_
              refine ⟨_, _, ⟨rfl, rfl⟩, ⟨by first | rfl | exact gtb rfl (by simp only [h6, Bool.true_and, Bool.false_and, Bool.true_or, Bool.false_or, Bool.and_true, Bool.and_false, Bool.or_true, Bool.or_false, Bool.not_true, Bool.not_false]), trivial⟩, ⟨rfl, rfl⟩, _, (s_take (s_take (s_take (s_take (s_take (s_take (s_take (s_take (s_take s_nil)))))))))⟩
            · skip
              refine o_take rfl rfl rfl ?_
              refine o_T (y_move rfl) rfl ?_
              refine o_take rfl rfl rfl ?_
              refine o_T (y_geq rfl rfl) rfl ?_
              refine o_T (y_pickF rfl rfl) rfl ?_
              refine o_nil1 53 rfl rfl ?_
              refine ⟨_, _, ⟨rfl, rfl⟩, ⟨by first | rfl | exact gtb rfl (by simp only [h6, Bool.true_and, Bool.false_and, Bool.true_or, Bool.false_or, Bool.and_true, Bool.and_false, Bool.or_true, Bool.or_false, Bool.not_true, Bool.not_false]), trivial⟩, ⟨rfl, rfl⟩, _, (s_take (s_take (s_take (s_take (s_take (s_take (s_take (s_take (s_take s_nil)))))))))⟩
          · rintro sh G ⟨rfl, rfl⟩
            refine c_cond rfl (fun h7 => ?_) (fun h7 => ?_)
            · have hm := cd_t h7 hm
              refine c_seq ?_
              refine c_region ?_
              refine o_L (y_assign rfl) rfl rfl ?_
              refine o_nil0 rfl ?_
              refine c_ret ?_
              obtain ⟨q2, hq1, hm⟩ := bd hm
              have hm := fl_ret hm hF2
              have hm := hq1.trans hm
              obtain ⟨rfl, rfl⟩ := pr2 hm
              refine fun aX wX heX hsX => ret1 Tryz.results189 heX rfl (s_get (ks (ks k0)) (s_get (ks (ks k0)) (s_get (ks (ks k0)) (s_get (ks (ks k0)) (s_get (ks (ks k0)) (s_get (ks (ks k0)) (s_take (s_skip (s_take s_nil))))))))) ?_
              exact ⟨rfl, rfl⟩
            · have hm := cd_f h7 hm
              refine c_skip ?_
              refine c_seq ?_
              refine c_seq ?_
              refine c_region ?_
              refine o_T (y_move rfl) rfl ?_
              refine o_T (y_move rfl) rfl ?_
              obtain ⟨c10, hx2, hm⟩ := bd1 hm
              refine o_callC en_259 rfl (s_take s_nil) (t259 hx2) rfl (fun u2 S2 hR2 => ?_)
              obtain ⟨rfl, rfl⟩ := hR2
              refine o_rest ?_
              refine o_nil1 56 rfl rfl ?_
              refine c_cond rfl (fun h8 => ?_) (fun h8 => ?_)
              · have hm := cd_t h8 hm
                refine c_seq ?_
                refine c_region ?_
                refine o_L (y_assign rfl) rfl rfl ?_
                refine o_nil0 rfl ?_
                refine c_ret ?_
                obtain ⟨q3, hq2, hm⟩ := bd hm
                have hm := fl_ret hm hF2
                have hm := hq2.trans hm
                obtain ⟨rfl, rfl⟩ := pr2 hm
                refine fun aX wX heX hsX => ret1 Tryz.results189 heX rfl (s_get (ks (ks k0)) (s_get (ks (ks k0)) (s_get (ks (ks k0)) (s_get (ks (ks k0)) (s_get (ks (ks k0)) (s_get (ks (ks k0)) (s_take (s_skip (s_take s_nil))))))))) ?_
                exact ⟨rfl, rfl⟩
              · have hm := cd_f h8 hm
                refine c_skip ?_
                refine c_seq ?_
                refine c_region ?_
                refine o_T (y_move rfl) rfl ?_
                refine o_T (y_move rfl) rfl ?_
                obtain ⟨z3, hx3, hm⟩ := bd1 hm
                refine o_callC en_242 rfl (s_take s_nil) (t242 hx3) rfl (fun u3 S3 hR3 => ?_)
                obtain ⟨rfl, rfl⟩ := hR3
                refine o_rest ?_
                refine o_nil0 rfl ?_
                refine c_seq ?_
                refine c_region ?_
                refine o_T (y_move rfl) rfl ?_
                refine o_T (y_move rfl) rfl ?_
                obtain ⟨l1, hx4, hm⟩ := bd1 hm
                refine o_callC en_163 rfl (s_skip (s_skip (s_take (s_take (s_take (s_take (s_take (s_take s_nil)))))))) (t163 ho1 ho2 ho3 ho4 hx4) rfl (fun u4 S4 hR4 => ?_)
                obtain ⟨v5, g5, rfl, rfl, ho5⟩ := hR4
                refine o_rest ?_
                refine o_L (y_assign rfl) rfl rfl ?_
                refine o_nil0 rfl ?_
                refine c_seq ?_
                refine c_region ?_
                refine o_T (y_move rfl) rfl ?_
                refine o_L (y_assign rfl) rfl rfl ?_
                refine o_nil0 rfl ?_
                refine c_seq ?_
                refine c_seq ?_
                refine c_region ?_
                refine o_T (y_move rfl) rfl ?_
                refine o_T (y_gtr rfl rfl) rfl ?_
                refine o_nil1 65 rfl rfl ?_
                obtain ⟨c11, hj2, hm⟩ := bd1 hm
                refine c_joinP (n := 0) (fun sh G => sh = [(13, .int .i64 c11)] ∧ G = []) (s_take (s_take (s_take (s_take (s_take (s_take (s_take (s_take (s_take (s_take s_nil)))))))))) .z (fun _ _ h => h) ?_ ?_
                · have hm := hj2
                  refine c_cond rfl (fun h9 => ?_) (fun h9 => ?_)
                  · have hm := cd_t h9 hm
                    refine c_region ?_
                    refine o_L (y_assign rfl) rfl rfl ?_
                    refine o_nil0 rfl ?_
                    obtain rfl := p1 hm
                    exact ⟨_, _, ⟨rfl, rfl⟩, ⟨rfl, trivial⟩, ⟨rfl, rfl⟩, _, (s_take (s_take (s_take (s_take (s_take (s_take (s_take (s_take (s_take (s_take s_nil))))))))))⟩
                  · have hm := cd_f h9 hm
                    refine c_skip ?_
                    obtain rfl := p1 hm
                    exact ⟨_, _, ⟨rfl, rfl⟩, ⟨rfl, trivial⟩, ⟨rfl, rfl⟩, _, (s_take (s_take (s_take (s_take (s_take (s_take (s_take (s_take (s_take (s_take s_nil))))))))))⟩
                · rintro sh G ⟨rfl, rfl⟩
                  refine c_seq ?_
                  refine c_seq ?_
                  obtain ⟨c12, hj3, hm⟩ := bd1 hm
                  refine c_joinP (n := 0) (fun sh G => sh = [(86, .bool c12)] ∧ G = []) Sel.all' .z (fun _ _ h => h) ?_ ?_
                  · have hm := hj3
                    refine c_draw #[true, true, true, true, true, true, true, true, true, true, true, true, true, true, true, true, true, true, true, true, true] rfl (n := 21) rfl ?_
                    refine d_T 0 rfl sb_189_19_0 rfl (y_move rfl) rfl ?_
                    obtain ⟨x1, hx5, hm⟩ := bd hm
                    obtain ⟨b5, w1, cs1, y1, z4, vs1, hc1, ha1, hr1, hy1⟩ := ho5.rd.ix hx5
                    obtain rfl : vs1 = (enc8 x1) := hr1
                    refine d_T 1 rfl sb_189_19_1 rfl (hy1 sl_81 rfl rfl rfl) rfl ?_
                    refine d_ld 2 rfl sb_189_19_2 one_5 rfl (fun x hx => hx) (ms (ms (ms (ms (ms (ms (mg hc1))))))) (At.getA (ha1)) rfl ?_
                    refine d_cv 3 rfl sb_189_19_3 (fun x hx => hx) (y_conv Tryz.underlying5 Tryz.underlying3 rfl (wbi _)) rfl ?_
                    refine d_T 4 rfl sb_189_19_4 rfl (y_fa fl_120_1 rfl) rfl ?_
                    refine d_ld 5 rfl sb_189_19_5 one_3 rfl (fun x hx => hx) (ms (ms (ms (ms (ms (ms (ms (ms m0)))))))) (At.got (At.refl.comp Entr.a_kind)) rfl ?_
                    refine d_T 6 rfl sb_189_19_6 rfl (y_neq rfl rfl) rfl ?_
                    refine d_T 7 rfl sb_189_19_7 rfl (y_move rfl) rfl ?_
                    refine d_split 73 rfl (fun h10 => ?_) (fun h10 => ?_)
                    · have hm := cd_t h10 hm
                      refine d_pass 8 rfl rfl rfl rfl rfl sb_189_19_8 (fun x hx => hx) rfl ?_
                      refine d_pass 9 rfl rfl rfl rfl rfl sb_189_19_9 (fun x hx => hx) rfl ?_
                      refine d_pass 10 rfl rfl rfl rfl rfl sb_189_19_10 (fun x hx => hx) rfl ?_
                      refine d_pass 11 rfl rfl rfl rfl rfl sb_189_19_11 (fun x hx => hx) rfl ?_
                      refine d_pass 12 rfl rfl rfl rfl rfl sb_189_19_12 (fun x hx => hx) rfl ?_
                      refine d_pass 13 rfl rfl rfl rfl rfl sb_189_19_13 (fun x hx => hx) rfl ?_
                      refine d_T 14 rfl sb_189_19_14 rfl (y_pickT rfl rfl) rfl ?_
                      refine d_T 15 rfl sb_189_19_15 rfl (y_move rfl) rfl ?_
                      refine d_pass 16 rfl rfl rfl rfl rfl sb_189_19_16 (fun x hx => hx) rfl ?_
                      refine d_pass 17 rfl rfl rfl rfl rfl sb_189_19_17 (fun x hx => hx) rfl ?_
                      refine d_pass 18 rfl rfl rfl rfl rfl sb_189_19_18 (fun x hx => hx) rfl ?_
                      refine d_pass 19 rfl rfl rfl rfl rfl sb_189_19_19 (fun x hx => hx) rfl ?_
                      refine d_T 20 rfl sb_189_19_20 rfl (y_pickT rfl rfl) rfl ?_
                      refine d_nil1 86 sb_189_19_21 rfl rfl ?_
                      obtain rfl := p1 hm
                      exact ⟨_, _, ⟨rfl, rfl⟩, ⟨rfl, trivial⟩, ⟨rfl, rfl⟩, _, (s_take (s_take (s_take (s_take (s_take (s_take (s_take (s_take (s_take (s_take s_nil))))))))))⟩
                    · have hm := cd_f h10 hm
                      refine d_Tg 8 rfl rfl rfl rfl sb_189_19_8 rfl (y_move rfl) rfl ?_
                      obtain ⟨x2, hx6, hm⟩ := bd hm
                      obtain ⟨b6, w2, cs2, y2, z5, vs2, hc2, ha2, hr2, hy2⟩ := ho5.rd.ix hx6
                      obtain rfl : vs2 = (enc8 x2) := hr2
                      refine d_Tg 9 rfl rfl rfl rfl sb_189_19_9 rfl (hy2 sl_81 rfl rfl rfl) rfl ?_
                      refine d_ldt 10 rfl rfl rfl rfl sb_189_19_10 one_5 rfl (fun x hx => hx) (ms (ms (ms (ms (ms (ms (mg hc2))))))) (At.getA (ha2)) rfl ?_
                      refine d_cvg 11 rfl rfl rfl rfl sb_189_19_11 (fun x hx => hx) (y_conv Tryz.underlying5 Tryz.underlying3 rfl (wbi _)) rfl ?_
                      refine d_Tg 12 rfl rfl rfl rfl sb_189_19_12 rfl (y_move rfl) rfl ?_
                      refine d_Tg 13 rfl rfl rfl rfl sb_189_19_13 rfl (y_neq rfl rfl) rfl ?_
                      refine d_T 14 rfl sb_189_19_14 rfl (y_pickF rfl rfl) rfl ?_
                      refine d_T 15 rfl sb_189_19_15 rfl (y_move rfl) rfl ?_
                      refine d_split 81 rfl (fun h11 => ?_) (fun h11 => ?_)
                      · have hm := cd_t h11 hm
                        refine d_pass 16 rfl rfl rfl rfl rfl sb_189_19_16 (fun x hx => hx) rfl ?_
                        refine d_pass 17 rfl rfl rfl rfl rfl sb_189_19_17 (fun x hx => hx) rfl ?_
                        refine d_pass 18 rfl rfl rfl rfl rfl sb_189_19_18 (fun x hx => hx) rfl ?_
                        refine d_pass 19 rfl rfl rfl rfl rfl sb_189_19_19 (fun x hx => hx) rfl ?_
                        refine d_T 20 rfl sb_189_19_20 rfl (y_pickT rfl rfl) rfl ?_
                        refine d_nil1 86 sb_189_19_21 rfl rfl ?_
                        obtain rfl := p1 hm
                        exact ⟨_, _, ⟨rfl, rfl⟩, ⟨rfl, trivial⟩, ⟨rfl, rfl⟩, _, (s_take (s_take (s_take (s_take (s_take (s_take (s_take (s_take (s_take (s_take s_nil))))))))))⟩
                      · have hm := cd_f h11 hm
                        refine d_Tg 16 rfl rfl rfl rfl sb_189_19_16 rfl (y_move rfl) rfl ?_
                        obtain ⟨x3, hx7, hm⟩ := bd hm
                        obtain ⟨b7, w3, cs3, y3, z6, vs3, hc3, ha3, hr3, hy3⟩ := ho5.rd.ix hx7
                        obtain rfl : vs3 = (enc8 x3) := hr3
                        refine d_Tg 17 rfl rfl rfl rfl sb_189_19_17 rfl (hy3 sl_81 rfl rfl rfl) rfl ?_
                        refine d_ldt 18 rfl rfl rfl rfl sb_189_19_18 one_5 rfl (fun x hx => hx) (ms (ms (ms (ms (ms (ms (mg hc3))))))) (At.getA (ha3)) rfl ?_
                        refine d_Tg 19 rfl rfl rfl rfl sb_189_19_19 rfl (y_neq rfl rfl) rfl ?_
                        refine d_T 20 rfl sb_189_19_20 rfl (y_pickF rfl rfl) rfl ?_
                        refine d_nil1 86 sb_189_19_21 rfl rfl ?_
                        obtain rfl := p1 hm
                        exact ⟨_, _, ⟨rfl, rfl⟩, ⟨rfl, trivial⟩, ⟨rfl, rfl⟩, _, (s_take (s_take (s_take (s_take (s_take (s_take (s_take (s_take (s_take (s_take s_nil))))))))))⟩
                  · rintro sh G ⟨rfl, rfl⟩
                    refine c_cond rfl (fun h12 => ?_) (fun h12 => ?_)
                    · have hm := cd_t h12 hm
                      refine c_seq ?_
                      refine c_region ?_
                      refine o_L (y_assign rfl) rfl rfl ?_
                      refine o_nil0 rfl ?_
                      refine c_ret ?_
                      obtain ⟨q4, hq3, hm⟩ := bd hm
                      have hm := fl_ret hm hF2
                      have hm := hq3.trans hm
                      obtain ⟨rfl, rfl⟩ := pr2 hm
                      refine fun aX wX heX hsX => ret1 Tryz.results189 heX rfl (s_take (s_take (s_take (s_take (s_take (s_take (s_skip (s_take (s_skip (s_take s_nil)))))))))) ?_
                      exact ⟨rfl, rfl⟩
                    · have hm := cd_f h12 hm
                      refine c_skip ?_
                      refine c_seq ?_
                      refine c_seq ?_
                      refine c_region ?_
                      refine o_L (y_assign rfl) rfl rfl ?_
                      refine o_nil0 rfl ?_
                      obtain ⟨f2, F2, hF3, hj4, hF4⟩ := fl2 hm
                      refine c_joinP (n := 0) (fun sh G => ∃ (c15 : Int), ∃ (c16 : Int), sh = [(9, .int .u32 c15), (14, .int .i64 c16)] ∧ G = [] ∧ F2 (c15, c16) = some f1) (s_take (s_take (s_take (s_take (s_take (s_take (s_take (s_take (s_take (s_take s_nil)))))))))) .z (fun _ _ h => h) ?_ ?_
                      · skip
                        refine c_block ?_
                        refine c_loopP (n := 0) (fun mm sh G => ∃ (c13 : Int), ∃ (c14 : Int), sh = [(9, .int .u32 c13), (14, .int .i64 c14)] ∧ G = [] ∧ m189_w2 n z3 l1 c11 mm c13 c14 = some f2) n (s_take (s_take (s_take (s_take (s_take (s_take (s_take (s_take (s_take (s_take s_nil)))))))))) .z ⟨_, _, ⟨_, _, rfl, rfl, hj4⟩, ⟨rfl, rfl, trivial⟩, _, (s_take (s_take (s_take (s_take (s_take (s_take (s_take (s_take (s_take (s_take s_nil))))))))))⟩ ?_
                        rintro mm sh G ⟨c13, c14, rfl, rfl, hm⟩
                        obtain ⟨mm2, rfl, hm⟩ := it2_s hm
                        refine c_seq ?_
                        refine c_seq ?_
                        refine c_region ?_
                        refine o_T (y_move rfl) rfl ?_
                        refine o_T (y_lss rfl rfl) rfl ?_
                        refine o_nil1 88 rfl rfl ?_
                        refine c_cond rfl (fun h13 => ?_) (fun h13 => ?_)
                        · have hm := cd_t h13 hm
                          refine c_skip ?_
                          refine c_seq ?_
                          refine c_block ?_
                          refine c_seq ?_
                          refine c_region ?_
                          refine o_T (y_move rfl) rfl ?_
                          refine o_T (y_move rfl) rfl ?_
                          refine o_T (y_lss rfl rfl) rfl ?_
                          refine o_nil1 93 rfl rfl ?_
                          refine c_cond rfl (fun h14 => ?_) (fun h14 => ?_)
                          · have hm := cd_t h14 hm
                            refine c_region ?_
                            refine o_T (y_move rfl) rfl ?_
                            refine o_T (y_mul rfl rfl rfl) rfl ?_
                            refine o_T (y_move rfl) rfl ?_
                            refine o_T (y_move rfl) rfl ?_
                            refine o_T (y_add rfl rfl rfl) rfl ?_
                            obtain ⟨x4, hx8, hm⟩ := bd hm
                            obtain ⟨b8, w4, cs4, y4, z7, vs4, hc4, ha4, hr4, hy4⟩ := ho5.rd.ix hx8
                            obtain rfl : vs4 = (enc8 x4) := hr4
                            refine o_T (hy4 sl_81 rfl rfl rfl) rfl ?_
                            refine o_ld one_5 rfl (ms (ms (ms (ms (ms (ms (mg hc4))))))) (At.getA (ha4)) rfl ?_
                            refine o_T (y_conv Tryz.underlying5 Tryz.underlying118 rfl (wbw _)) rfl ?_
                            refine o_T (y_add rfl rfl rfl) rfl ?_
                            refine o_L (y_assign rfl) rfl rfl ?_
                            refine o_nil0 rfl ?_
                            refine c_region ?_
                            refine o_T (y_move rfl) rfl ?_
                            refine o_T (y_add rfl rfl rfl) rfl ?_
                            refine o_L (y_assign rfl) rfl rfl ?_
                            refine o_nil0 rfl ?_
                            exact ⟨mm2, Nat.lt_succ_self _, _, _, ⟨_, _, rfl, rfl, hm⟩, ⟨rfl, rfl, trivial⟩, ⟨rfl, rfl⟩, _, (s_take (s_take (s_take (s_take (s_take (s_take (s_take (s_take (s_take (s_take s_nil))))))))))⟩
                          · have hm := cd_f h14 hm
                            refine c_seq ?_
                            refine c_region ?_
                            refine o_T (y_move rfl) rfl ?_
                            refine o_T (y_move rfl) rfl ?_
                            refine o_T (y_add rfl rfl rfl) rfl ?_
                            obtain ⟨x5, hx9, hm⟩ := bd hm
                            obtain ⟨b9, w5, cs5, y5, z8, vs5, hc5, ha5, hr5, hy5⟩ := ho5.rd.ix hx9
                            obtain rfl : vs5 = (enc8 x5) := hr5
                            refine o_T (hy5 sl_81 rfl rfl rfl) rfl ?_
                            refine o_ld one_5 rfl (ms (ms (ms (ms (ms (ms (mg hc5))))))) (At.getA (ha5)) rfl ?_
                            refine o_T (y_neq rfl rfl) rfl ?_
                            refine o_nil1 108 rfl rfl ?_
                            refine c_cond rfl (fun h15 => ?_) (fun h15 => ?_)
                            · have hm := cd_t h15 hm
                              refine c_seq ?_
                              refine c_region ?_
                              refine o_L (y_assign rfl) rfl rfl ?_
                              refine o_nil0 rfl ?_
                              refine c_ret ?_
                              obtain ⟨q5, hq4, hm⟩ := bd hm
                              have hm := fl_ret hm hF4
                              have hm := hq4.trans hm
                              obtain ⟨q6, hq5, hm⟩ := bd hm
                              have hm := fl_ret hm hF2
                              have hm := hq5.trans hm
                              obtain ⟨rfl, rfl⟩ := pr2 hm
                              refine fun aX wX heX hsX => ret1 Tryz.results189 heX rfl (s_take (s_take (s_take (s_take (s_take (s_take (s_skip (s_take (s_skip (s_take s_nil)))))))))) ?_
                              exact ⟨rfl, rfl⟩
                            · have hm := cd_f h15 hm
                              refine c_skip ?_
                              refine c_region ?_
                              refine o_T (y_move rfl) rfl ?_
                              refine o_T (y_add rfl rfl rfl) rfl ?_
                              refine o_L (y_assign rfl) rfl rfl ?_
                              refine o_nil0 rfl ?_
                              exact ⟨mm2, Nat.lt_succ_self _, _, _, ⟨_, _, rfl, rfl, hm⟩, ⟨rfl, rfl, trivial⟩, ⟨rfl, rfl⟩, _, (s_take (s_take (s_take (s_take (s_take (s_take (s_take (s_take (s_take (s_take s_nil))))))))))⟩
                        · have hm := cd_f h13 hm
                          refine c_exit ?_
                          have hm := fl_nx hm hF4
                          exact ⟨_, _, ⟨_, _, rfl, rfl, hm⟩, ⟨rfl, rfl, trivial⟩, ⟨rfl, rfl⟩, _, (s_take (s_take (s_take (s_take (s_take (s_take (s_take (s_take (s_take (s_take s_nil))))))))))⟩
                      · rintro sh G ⟨c15, c16, rfl, rfl, hm⟩
                        subst hF3
                        refine c_seq ?_
                        refine c_region ?_
                        refine o_T (y_move rfl) rfl ?_
                        refine o_T (y_move rfl) rfl ?_
                        refine o_T (y_sub rfl rfl rfl) rfl ?_
                        refine o_L (y_assign rfl) rfl rfl ?_
                        refine o_nil0 rfl ?_
                        refine c_region ?_
                        refine o_T (y_move rfl) rfl ?_
                        obtain ⟨x6, hx10, hm⟩ := bd hm
                        obtain ⟨b10, w6, cs6, y6, z9, vs6, hc6, ha6, hr6, hy6⟩ := ho5.rd.ix hx10
                        obtain rfl : vs6 = (enc8 x6) := hr6
                        refine o_T (hy6 sl_81 rfl rfl rfl) rfl ?_
                        refine o_ld one_5 rfl (ms (ms (ms (ms (ms (ms (mg hc6))))))) (At.getA (ha6)) rfl ?_
                        refine o_T (y_conv Tryz.underlying5 Tryz.underlying3 rfl (wbi _)) rfl ?_
                        refine o_L (y_assign rfl) rfl rfl ?_
                        refine o_nil0 rfl ?_
                        refine c_region ?_
                        refine o_T (y_move rfl) rfl ?_
                        refine o_T (y_add rfl rfl rfl) rfl ?_
                        refine o_L (y_assign rfl) rfl rfl ?_
                        refine o_nil0 rfl ?_
                        exact ⟨mm1, Nat.lt_succ_self _, _, _, ⟨_, _, _, _, _, rfl, rfl, hm⟩, ⟨rfl, rfl, rfl, rfl, trivial⟩, ⟨rfl, rfl⟩, _, (s_get (ks (ks (ks (ks (ks (ks (ks k0))))))) (s_get (ks (ks (ks (ks (ks (ks (ks k0))))))) (s_take (s_take (s_take (s_take (s_take (s_take (s_skip (s_take s_nil))))))))))⟩
        · have hm := cd_f h5 hm
          refine c_exit ?_
          have hm := fl_nx hm hF2
          exact ⟨_, _, ⟨_, _, _, _, _, rfl, rfl, hm⟩, ⟨rfl, rfl, rfl, rfl, trivial⟩, ⟨rfl, rfl⟩, _, (s_take (s_take (s_take (s_take (s_take (s_take (s_take (s_take (s_take s_nil)))))))))⟩
      · rintro sh G ⟨c6, c7, c8, c9, z2, rfl, rfl, hm⟩
        subst hF1
        refine c_seq ?_
        refine c_joinP (n := 0) (fun sh G => sh = [(6, .bool (((decide (c8 = 0)) && (decide (c6 = 0))) && (decide (c7 = e_.hash))))] ∧ G = []) Sel.all' .z (fun _ _ h => h) ?_ ?_
        · skip
          refine c_region ?_
          refine o_T (y_move rfl) rfl ?_
          refine o_T (y_eql rfl rfl) rfl ?_
          refine o_T (y_move rfl) rfl ?_
          refine o_split 118 rfl (fun h16 => ?_) (fun h16 => ?_)
          · skip
            refine o_take rfl rfl rfl ?_
            refine o_T (y_move rfl) rfl ?_
            refine o_take rfl rfl rfl ?_
            refine o_T (y_eql rfl rfl) rfl ?_
            refine o_T (y_pickT rfl rfl) rfl ?_
            refine o_T (y_move rfl) rfl ?_
            refine o_split 122 rfl (fun h17 => ?_) (fun h17 => ?_)
            · skip
              refine o_take rfl rfl rfl ?_
              refine o_T (y_move rfl) rfl ?_
              refine o_take rfl rfl rfl ?_
              refine o_T (y_fa fl_120_4 rfl) rfl ?_
              refine o_take rfl rfl rfl ?_
              refine o_ld one_118 rfl (ms m0) (At.got (At.refl.comp Entr.a_hash)) rfl ?_
              refine o_take rfl rfl rfl ?_
              refine o_T (y_eql rfl rfl) rfl ?_
              refine o_T (y_pickT rfl rfl) rfl ?_
              refine o_L (y_assign rfl) rfl rfl ?_
              refine o_nil0 rfl ?_
              refine ⟨_, _, ⟨rfl, rfl⟩, ⟨by first | rfl | exact gtb rfl (by simp only [h16, h17, Bool.true_and, Bool.false_and, Bool.true_or, Bool.false_or, Bool.and_true, Bool.and_false, Bool.or_true, Bool.or_false, Bool.not_true, Bool.not_false]), trivial⟩, ⟨rfl, rfl⟩, _, (s_take (s_take (s_take (s_take (s_take (s_take (s_take (s_take (s_take s_nil)))))))))⟩
            · skip
              refine o_pass rfl rfl rfl rfl rfl ?_
              refine o_pass rfl rfl rfl rfl rfl ?_
              refine o_pass rfl rfl rfl rfl rfl ?_
              refine o_pass rfl rfl rfl rfl rfl ?_
              refine o_T (y_pickF rfl rfl) rfl ?_
              refine o_L (y_assign rfl) rfl rfl ?_
              refine o_nil0 rfl ?_
              refine ⟨_, _, ⟨rfl, rfl⟩, ⟨by first | rfl | exact gtb rfl (by simp only [h16, h17, Bool.true_and, Bool.false_and, Bool.true_or, Bool.false_or, Bool.and_true, Bool.and_false, Bool.or_true, Bool.or_false, Bool.not_true, Bool.not_false]), trivial⟩, ⟨rfl, rfl⟩, _, (s_take (s_take (s_take (s_take (s_take (s_take (s_take (s_take (s_take s_nil)))))))))⟩
          · skip
            refine o_pass rfl rfl rfl rfl rfl ?_
            refine o_pass rfl rfl rfl rfl rfl ?_
            refine o_T (y_pickF rfl rfl) rfl ?_
            refine o_T (y_move rfl) rfl ?_
            refine o_pass rfl rfl rfl rfl rfl ?_
            refine o_pass rfl rfl rfl rfl rfl ?_
            refine o_pass rfl rfl rfl rfl rfl ?_
            refine o_pass rfl rfl rfl rfl rfl ?_
            refine o_T (y_pickF rfl rfl) rfl ?_
            refine o_L (y_assign rfl) rfl rfl ?_
            refine o_nil0 rfl ?_
            refine ⟨_, _, ⟨rfl, rfl⟩, ⟨by first | rfl | exact gtb rfl (by simp only [h16, Bool.true_and, Bool.false_and, Bool.true_or, Bool.false_or, Bool.and_true, Bool.and_false, Bool.or_true, Bool.or_false, Bool.not_true, Bool.not_false]), trivial⟩, ⟨rfl, rfl⟩, _, (s_take (s_take (s_take (s_take (s_take (s_take (s_take (s_take (s_take s_nil)))))))))⟩
        · rintro sh G ⟨rfl, rfl⟩
          refine c_ret ?_
          obtain ⟨rfl, rfl⟩ := pr2 hm
          refine fun aX wX heX hsX => ret1 Tryz.results189 heX rfl (s_get (ks (ks k0)) (s_get (ks (ks k0)) (s_get (ks (ks k0)) (s_get (ks (ks k0)) (s_get (ks (ks k0)) (s_get (ks (ks k0)) (s_take (s_skip (s_take s_nil))))))))) ?_
          exact ⟨rfl, rfl⟩
end Go.Proofs.Qxb6500350aGreat
