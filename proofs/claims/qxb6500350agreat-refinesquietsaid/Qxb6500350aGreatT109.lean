/- MADE BY PROGRAM (tools350/mir.py): mirror and walk. -/
import Derived.Test.Qxb6500350aGreatF2
import Derived.Test.Qxb6500350aGreatT200
import Derived.Test.Qxb6500350aGreatT201
import Derived.Test.Qxb6500350aGreatT122
import Derived.Test.Qxb6500350aGreatT152
set_option linter.unusedVariables false
set_option linter.unusedSimpArgs false
set_option maxRecDepth 20000
set_option maxHeartbeats 4000000
namespace Go.Proofs.Qxb6500350aGreat
open Go.Eng

def op_109_6 : Array Go.Oper := #[{ dst := some 53, op := Go.Op.move (Go.Operand.tmp 4), type := 214, pos := "walk.go:87", after := #[], guard := none }, { dst := some 54, op := Go.Op.nilCheck (Go.Operand.tmp 53), type := 0, pos := "walk.go:87", after := #[{ on := 0, ground := Go.Ground.data }], guard := none }, { dst := some 55, op := Go.Op.fieldAddr 217 (Go.Operand.tmp 54) 2, type := 0, pos := "walk.go:87", after := #[{ on := 1, ground := Go.Ground.data }], guard := none }, { dst := some 56, op := Go.Op.load 4 (Go.Operand.tmp 55), type := 4, pos := "walk.go:87", after := #[{ on := 2, ground := Go.Ground.data }], guard := none }, { dst := some 57, op := Go.Op.move (Go.Operand.tmp 56), type := 4, pos := "walk.go:87", after := #[{ on := 3, ground := Go.Ground.data }], guard := none }, { dst := some 58, op := Go.Op.move (Go.Operand.tmp 4), type := 214, pos := "walk.go:87", after := #[{ on := 4, ground := Go.Ground.guard }], guard := some (4, false) }, { dst := some 59, op := Go.Op.nilCheck (Go.Operand.tmp 58), type := 0, pos := "walk.go:87", after := #[{ on := 5, ground := Go.Ground.data }, { on := 4, ground := Go.Ground.guard }], guard := some (4, false) }, { dst := some 60, op := Go.Op.fieldAddr 217 (Go.Operand.tmp 59) 1, type := 0, pos := "walk.go:87", after := #[{ on := 6, ground := Go.Ground.data }, { on := 4, ground := Go.Ground.guard }], guard := some (4, false) }, { dst := some 61, op := Go.Op.load 3 (Go.Operand.tmp 60), type := 3, pos := "walk.go:87", after := #[{ on := 7, ground := Go.Ground.data }, { on := 4, ground := Go.Ground.guard }], guard := some (4, false) }, { dst := some 62, op := Go.Op.move (Go.Operand.tmp 0), type := 31, pos := "walk.go:87", after := #[{ on := 4, ground := Go.Ground.guard }], guard := some (4, false) }, { dst := some 63, op := Go.Op.nilCheck (Go.Operand.tmp 62), type := 0, pos := "walk.go:87", after := #[{ on := 9, ground := Go.Ground.data }, { on := 4, ground := Go.Ground.guard }], guard := some (4, false) }, { dst := some 64, op := Go.Op.fieldAddr 184 (Go.Operand.tmp 63) 2, type := 0, pos := "walk.go:87", after := #[{ on := 10, ground := Go.Ground.data }, { on := 4, ground := Go.Ground.guard }], guard := some (4, false) }, { dst := some 65, op := Go.Op.load 3 (Go.Operand.tmp 64), type := 3, pos := "walk.go:87", after := #[{ on := 11, ground := Go.Ground.data }, { on := 4, ground := Go.Ground.guard }], guard := some (4, false) }, { dst := some 66, op := Go.Op.binOp Go.BinOp.neq 3 (Go.Operand.tmp 61) (Go.Operand.tmp 65) 3, type := 4, pos := "walk.go:87", after := #[{ on := 8, ground := Go.Ground.data }, { on := 12, ground := Go.Ground.data }, { on := 4, ground := Go.Ground.guard }], guard := some (4, false) }, { dst := some 67, op := Go.Op.pick (Go.Operand.tmp 57) (Go.Operand.const (Go.Value.bool true)) (Go.Operand.tmp 66), type := 4, pos := "walk.go:87", after := #[{ on := 4, ground := Go.Ground.data }, { on := 13, ground := Go.Ground.data }], guard := none }, { dst := some 68, op := Go.Op.move (Go.Operand.tmp 67), type := 4, pos := "walk.go:87", after := #[{ on := 14, ground := Go.Ground.data }, { on := 4, ground := Go.Ground.chain }], guard := none }, { dst := some 69, op := Go.Op.move (Go.Operand.tmp 4), type := 214, pos := "walk.go:87", after := #[{ on := 15, ground := Go.Ground.guard }], guard := some (15, false) }, { dst := some 70, op := Go.Op.nilCheck (Go.Operand.tmp 69), type := 0, pos := "walk.go:87", after := #[{ on := 16, ground := Go.Ground.data }, { on := 15, ground := Go.Ground.guard }], guard := some (15, false) }, { dst := some 71, op := Go.Op.fieldAddr 217 (Go.Operand.tmp 70) 1, type := 0, pos := "walk.go:87", after := #[{ on := 17, ground := Go.Ground.data }, { on := 15, ground := Go.Ground.guard }], guard := some (15, false) }, { dst := some 72, op := Go.Op.load 3 (Go.Operand.tmp 71), type := 3, pos := "walk.go:87", after := #[{ on := 18, ground := Go.Ground.data }, { on := 15, ground := Go.Ground.guard }], guard := some (15, false) }, { dst := some 73, op := Go.Op.binOp Go.BinOp.gtr 3 (Go.Operand.tmp 72) (Go.Operand.const (Go.Value.int Go.IntKind.i64 8)) 3, type := 4, pos := "walk.go:87", after := #[{ on := 19, ground := Go.Ground.data }, { on := 15, ground := Go.Ground.guard }], guard := some (15, false) }, { dst := some 74, op := Go.Op.pick (Go.Operand.tmp 68) (Go.Operand.const (Go.Value.bool true)) (Go.Operand.tmp 73), type := 4, pos := "walk.go:87", after := #[{ on := 15, ground := Go.Ground.data }, { on := 20, ground := Go.Ground.data }], guard := none }]
theorem sb_109_6_0 : softB op_109_6 #[true, true, true, true, true, true, true, true, true, true, true, true, true, true, true, true, true, true, true, true, true, true] (Array.replicate 22 false) 0 = true := by kernel_rfl
theorem sb_109_6_1 : softB op_109_6 #[true, true, true, true, true, true, true, true, true, true, true, true, true, true, true, true, true, true, true, true, true, true] ((Array.replicate 22 false).setIfInBounds 0 true) 1 = true := by kernel_rfl
theorem sb_109_6_2 : softB op_109_6 #[true, true, true, true, true, true, true, true, true, true, true, true, true, true, true, true, true, true, true, true, true, true] (((Array.replicate 22 false).setIfInBounds 0 true).setIfInBounds 1 true) 2 = true := by kernel_rfl
theorem sb_109_6_3 : softB op_109_6 #[true, true, true, true, true, true, true, true, true, true, true, true, true, true, true, true, true, true, true, true, true, true] ((((Array.replicate 22 false).setIfInBounds 0 true).setIfInBounds 1 true).setIfInBounds 2 true) 3 = true := by kernel_rfl
theorem sb_109_6_4 : softB op_109_6 #[true, true, true, true, true, true, true, true, true, true, true, true, true, true, true, true, true, true, true, true, true, true] (((((Array.replicate 22 false).setIfInBounds 0 true).setIfInBounds 1 true).setIfInBounds 2 true).setIfInBounds 3 true) 4 = true := by kernel_rfl
theorem sb_109_6_5 : softB op_109_6 #[true, true, true, true, true, true, true, true, true, true, true, true, true, true, true, true, true, true, true, true, true, true] ((((((Array.replicate 22 false).setIfInBounds 0 true).setIfInBounds 1 true).setIfInBounds 2 true).setIfInBounds 3 true).setIfInBounds 4 true) 5 = true := by kernel_rfl
theorem sb_109_6_6 : softB op_109_6 #[true, true, true, true, true, true, true, true, true, true, true, true, true, true, true, true, true, true, true, true, true, true] (((((((Array.replicate 22 false).setIfInBounds 0 true).setIfInBounds 1 true).setIfInBounds 2 true).setIfInBounds 3 true).setIfInBounds 4 true).setIfInBounds 5 true) 6 = true := by kernel_rfl
theorem sb_109_6_7 : softB op_109_6 #[true, true, true, true, true, true, true, true, true, true, true, true, true, true, true, true, true, true, true, true, true, true] ((((((((Array.replicate 22 false).setIfInBounds 0 true).setIfInBounds 1 true).setIfInBounds 2 true).setIfInBounds 3 true).setIfInBounds 4 true).setIfInBounds 5 true).setIfInBounds 6 true) 7 = true := by kernel_rfl
theorem sb_109_6_8 : softB op_109_6 #[true, true, true, true, true, true, true, true, true, true, true, true, true, true, true, true, true, true, true, true, true, true] (((((((((Array.replicate 22 false).setIfInBounds 0 true).setIfInBounds 1 true).setIfInBounds 2 true).setIfInBounds 3 true).setIfInBounds 4 true).setIfInBounds 5 true).setIfInBounds 6 true).setIfInBounds 7 true) 8 = true := by kernel_rfl
theorem sb_109_6_9 : softB op_109_6 #[true, true, true, true, true, true, true, true, true, true, true, true, true, true, true, true, true, true, true, true, true, true] ((((((((((Array.replicate 22 false).setIfInBounds 0 true).setIfInBounds 1 true).setIfInBounds 2 true).setIfInBounds 3 true).setIfInBounds 4 true).setIfInBounds 5 true).setIfInBounds 6 true).setIfInBounds 7 true).setIfInBounds 8 true) 9 = true := by kernel_rfl
theorem sb_109_6_10 : softB op_109_6 #[true, true, true, true, true, true, true, true, true, true, true, true, true, true, true, true, true, true, true, true, true, true] (((((((((((Array.replicate 22 false).setIfInBounds 0 true).setIfInBounds 1 true).setIfInBounds 2 true).setIfInBounds 3 true).setIfInBounds 4 true).setIfInBounds 5 true).setIfInBounds 6 true).setIfInBounds 7 true).setIfInBounds 8 true).setIfInBounds 9 true) 10 = true := by kernel_rfl
theorem sb_109_6_11 : softB op_109_6 #[true, true, true, true, true, true, true, true, true, true, true, true, true, true, true, true, true, true, true, true, true, true] ((((((((((((Array.replicate 22 false).setIfInBounds 0 true).setIfInBounds 1 true).setIfInBounds 2 true).setIfInBounds 3 true).setIfInBounds 4 true).setIfInBounds 5 true).setIfInBounds 6 true).setIfInBounds 7 true).setIfInBounds 8 true).setIfInBounds 9 true).setIfInBounds 10 true) 11 = true := by kernel_rfl
theorem sb_109_6_12 : softB op_109_6 #[true, true, true, true, true, true, true, true, true, true, true, true, true, true, true, true, true, true, true, true, true, true] (((((((((((((Array.replicate 22 false).setIfInBounds 0 true).setIfInBounds 1 true).setIfInBounds 2 true).setIfInBounds 3 true).setIfInBounds 4 true).setIfInBounds 5 true).setIfInBounds 6 true).setIfInBounds 7 true).setIfInBounds 8 true).setIfInBounds 9 true).setIfInBounds 10 true).setIfInBounds 11 true) 12 = true := by kernel_rfl
theorem sb_109_6_13 : softB op_109_6 #[true, true, true, true, true, true, true, true, true, true, true, true, true, true, true, true, true, true, true, true, true, true] ((((((((((((((Array.replicate 22 false).setIfInBounds 0 true).setIfInBounds 1 true).setIfInBounds 2 true).setIfInBounds 3 true).setIfInBounds 4 true).setIfInBounds 5 true).setIfInBounds 6 true).setIfInBounds 7 true).setIfInBounds 8 true).setIfInBounds 9 true).setIfInBounds 10 true).setIfInBounds 11 true).setIfInBounds 12 true) 13 = true := by kernel_rfl
theorem sb_109_6_14 : softB op_109_6 #[true, true, true, true, true, true, true, true, true, true, true, true, true, true, true, true, true, true, true, true, true, true] (((((((((((((((Array.replicate 22 false).setIfInBounds 0 true).setIfInBounds 1 true).setIfInBounds 2 true).setIfInBounds 3 true).setIfInBounds 4 true).setIfInBounds 5 true).setIfInBounds 6 true).setIfInBounds 7 true).setIfInBounds 8 true).setIfInBounds 9 true).setIfInBounds 10 true).setIfInBounds 11 true).setIfInBounds 12 true).setIfInBounds 13 true) 14 = true := by kernel_rfl
theorem sb_109_6_15 : softB op_109_6 #[true, true, true, true, true, true, true, true, true, true, true, true, true, true, true, true, true, true, true, true, true, true] ((((((((((((((((Array.replicate 22 false).setIfInBounds 0 true).setIfInBounds 1 true).setIfInBounds 2 true).setIfInBounds 3 true).setIfInBounds 4 true).setIfInBounds 5 true).setIfInBounds 6 true).setIfInBounds 7 true).setIfInBounds 8 true).setIfInBounds 9 true).setIfInBounds 10 true).setIfInBounds 11 true).setIfInBounds 12 true).setIfInBounds 13 true).setIfInBounds 14 true) 15 = true := by kernel_rfl
theorem sb_109_6_16 : softB op_109_6 #[true, true, true, true, true, true, true, true, true, true, true, true, true, true, true, true, true, true, true, true, true, true] (((((((((((((((((Array.replicate 22 false).setIfInBounds 0 true).setIfInBounds 1 true).setIfInBounds 2 true).setIfInBounds 3 true).setIfInBounds 4 true).setIfInBounds 5 true).setIfInBounds 6 true).setIfInBounds 7 true).setIfInBounds 8 true).setIfInBounds 9 true).setIfInBounds 10 true).setIfInBounds 11 true).setIfInBounds 12 true).setIfInBounds 13 true).setIfInBounds 14 true).setIfInBounds 15 true) 16 = true := by kernel_rfl
theorem sb_109_6_17 : softB op_109_6 #[true, true, true, true, true, true, true, true, true, true, true, true, true, true, true, true, true, true, true, true, true, true] ((((((((((((((((((Array.replicate 22 false).setIfInBounds 0 true).setIfInBounds 1 true).setIfInBounds 2 true).setIfInBounds 3 true).setIfInBounds 4 true).setIfInBounds 5 true).setIfInBounds 6 true).setIfInBounds 7 true).setIfInBounds 8 true).setIfInBounds 9 true).setIfInBounds 10 true).setIfInBounds 11 true).setIfInBounds 12 true).setIfInBounds 13 true).setIfInBounds 14 true).setIfInBounds 15 true).setIfInBounds 16 true) 17 = true := by kernel_rfl
theorem sb_109_6_18 : softB op_109_6 #[true, true, true, true, true, true, true, true, true, true, true, true, true, true, true, true, true, true, true, true, true, true] (((((((((((((((((((Array.replicate 22 false).setIfInBounds 0 true).setIfInBounds 1 true).setIfInBounds 2 true).setIfInBounds 3 true).setIfInBounds 4 true).setIfInBounds 5 true).setIfInBounds 6 true).setIfInBounds 7 true).setIfInBounds 8 true).setIfInBounds 9 true).setIfInBounds 10 true).setIfInBounds 11 true).setIfInBounds 12 true).setIfInBounds 13 true).setIfInBounds 14 true).setIfInBounds 15 true).setIfInBounds 16 true).setIfInBounds 17 true) 18 = true := by kernel_rfl
theorem sb_109_6_19 : softB op_109_6 #[true, true, true, true, true, true, true, true, true, true, true, true, true, true, true, true, true, true, true, true, true, true] ((((((((((((((((((((Array.replicate 22 false).setIfInBounds 0 true).setIfInBounds 1 true).setIfInBounds 2 true).setIfInBounds 3 true).setIfInBounds 4 true).setIfInBounds 5 true).setIfInBounds 6 true).setIfInBounds 7 true).setIfInBounds 8 true).setIfInBounds 9 true).setIfInBounds 10 true).setIfInBounds 11 true).setIfInBounds 12 true).setIfInBounds 13 true).setIfInBounds 14 true).setIfInBounds 15 true).setIfInBounds 16 true).setIfInBounds 17 true).setIfInBounds 18 true) 19 = true := by kernel_rfl
theorem sb_109_6_20 : softB op_109_6 #[true, true, true, true, true, true, true, true, true, true, true, true, true, true, true, true, true, true, true, true, true, true] (((((((((((((((((((((Array.replicate 22 false).setIfInBounds 0 true).setIfInBounds 1 true).setIfInBounds 2 true).setIfInBounds 3 true).setIfInBounds 4 true).setIfInBounds 5 true).setIfInBounds 6 true).setIfInBounds 7 true).setIfInBounds 8 true).setIfInBounds 9 true).setIfInBounds 10 true).setIfInBounds 11 true).setIfInBounds 12 true).setIfInBounds 13 true).setIfInBounds 14 true).setIfInBounds 15 true).setIfInBounds 16 true).setIfInBounds 17 true).setIfInBounds 18 true).setIfInBounds 19 true) 20 = true := by kernel_rfl
theorem sb_109_6_21 : softB op_109_6 #[true, true, true, true, true, true, true, true, true, true, true, true, true, true, true, true, true, true, true, true, true, true] ((((((((((((((((((((((Array.replicate 22 false).setIfInBounds 0 true).setIfInBounds 1 true).setIfInBounds 2 true).setIfInBounds 3 true).setIfInBounds 4 true).setIfInBounds 5 true).setIfInBounds 6 true).setIfInBounds 7 true).setIfInBounds 8 true).setIfInBounds 9 true).setIfInBounds 10 true).setIfInBounds 11 true).setIfInBounds 12 true).setIfInBounds 13 true).setIfInBounds 14 true).setIfInBounds 15 true).setIfInBounds 16 true).setIfInBounds 17 true).setIfInBounds 18 true).setIfInBounds 19 true).setIfInBounds 20 true) 21 = true := by kernel_rfl
theorem sb_109_6_22 : hardB op_109_6 (((((((((((((((((((((((Array.replicate 22 false).setIfInBounds 0 true).setIfInBounds 1 true).setIfInBounds 2 true).setIfInBounds 3 true).setIfInBounds 4 true).setIfInBounds 5 true).setIfInBounds 6 true).setIfInBounds 7 true).setIfInBounds 8 true).setIfInBounds 9 true).setIfInBounds 10 true).setIfInBounds 11 true).setIfInBounds 12 true).setIfInBounds 13 true).setIfInBounds 14 true).setIfInBounds 15 true).setIfInBounds 16 true).setIfInBounds 17 true).setIfInBounds 18 true).setIfInBounds 19 true).setIfInBounds 20 true).setIfInBounds 21 true) [] = true := by kernel_rfl
/- (*index.Index).Check -/
def m109_w1 (n : Nat) (x : Index) (mm : Nat) : Int → Int → Tally → Option (Flow (Bool) (Int × Int × Tally)) := it3 (fun lp1 c1 c2 z3 =>
cond ((decide (c2 < 49)) && (decide (¬ (c1 = 0)))) (
ob1 (m201 n z3 c1) fun z5 =>
cond z5.bad (
Option.bind (some false) fun q1 => some (.ret q1)) (
Option.bind (ckA c1 49) fun _ =>
nm ((x.pool c1) : Nod) fun z6 =>
cond (((((((!(decide (z6.name = []))) || (decide (¬ (z6.child = 0)))) || z6.file) || (!(decide (z6.data = [])))) || (decide (¬ (z6.mode = 0)))) || (decide (¬ (z6.size = 0)))) || (decide (¬ (z6.hash = 0)))) (
Option.bind (some false) fun q2 => some (.ret q2)) (
lp1 z6.nxt (wi (c2 + 1)) z5))) (
some (.nx (c1, c2, z3)))) mm
def m109_w2 (n : Nat) (z4 : Tally) (mm : Nat) : Int → Option (Flow (Bool) (Int)) := it1 (fun lp2 c5 =>
cond (decide (c5 < 49)) (
Option.bind (ckA c5 49) fun _ =>
cond (!(z4.seen c5)) (
Option.bind (some false) fun q3 => some (.ret q3)) (
lp2 (wi (c5 + 1)))) (
some (.nx c5))) mm
def m109 (n : Nat) (x : Index) : Option (Bool) :=
nm ((x.pool 0) : Nod) fun z1 =>
cond (((((((!(decide (z1.name = []))) || (decide (¬ (z1.nxt = 0)))) || z1.file) || (!(decide (z1.data = [])))) || (decide (¬ (z1.mode = 0)))) || (decide (¬ (z1.size = 0)))) || (decide (¬ (z1.hash = 0)))) (
some false) (
ob1 (m200 n x Tally.zero 0 [] 6) fun z2 =>
cond ((z2.bad || (decide (¬ (z2.files = x.files)))) || (decide ((8 : Int) < z2.files))) (
some false) (
flow (m109_w1 n x n x.free 0 z2) some (un3 fun c3 c4 z4 =>
flow (m109_w2 n z4 n 1) some (un1 fun c6 =>
ob1 (m122 n x) fun l1 =>
ob1 (m152 n l1) fun c7 =>
some (decide (c7 = 0))))))
theorem t109 {n : Nat} {C : List Chunk} {rc1 : Bool} {b1 : Nat} {x : Index}   (hm : m109 n x = some rc1) : Trip Tryz.prog 109 #[.pointer (some ⟨b1, 0, none⟩)] ([[(b1, .cells (Index.enc x).toArray 184 (0, 0))]] ++ [C]) (fun u S' => .bool rc1 = u ∧ S' = [[(b1, .cells (Index.enc x).toArray 184 (0, 0))]] ++ [C]) := by
  refine fn_entry (args := [.pointer (some ⟨b1, 0, none⟩)]) Tryz.func109 rfl Tryz.ntmps109 rfl (fun w0 => ?_)
  refine c_seq ?_
  refine c_region ?_
  refine o_L (y_assign rfl) rfl rfl ?_
  refine o_nil0 rfl ?_
  refine c_seq ?_
  refine c_region ?_
  refine o_T (y_move rfl) rfl ?_
  refine o_T (y_nilck rfl) rfl ?_
  refine o_T (y_fa fl_184_0 rfl) rfl ?_
  refine o_T (y_ia ar_182 rfl rfl (show (0 : Int) ≤ 0 ∧ (0 : Int) < 49 from ⟨by decide, by decide⟩).1 (show (0 : Int) ≤ 0 ∧ (0 : Int) < 49 from ⟨by decide, by decide⟩).2) rfl ?_
  refine o_lda ag_181 rfl m0 (At.exs ((At.refl.comp Index.a_pool).comp (encN_a Nod.len _ _ (show (0 : Int) ≤ 0 ∧ (0 : Int) < 49 from ⟨by decide, by decide⟩).1 _ (show (0 : Int) ≤ 0 ∧ (0 : Int) < 49 from ⟨by decide, by decide⟩).2)) (Nod.len _)) (At.fits ((At.refl.comp Index.a_pool).comp (encN_a Nod.len _ _ (show (0 : Int) ≤ 0 ∧ (0 : Int) < 49 from ⟨by decide, by decide⟩).1 _ (show (0 : Int) ≤ 0 ∧ (0 : Int) < 49 from ⟨by decide, by decide⟩).2)) (Nod.len _)) rfl ?_
  refine o_alloc ze_181 rfl rfl (fun b2 => ?_)
  obtain ⟨z1, hn1, hm⟩ := nm_s hm
  refine o_stNA ag_181 rfl rfl (Nod.plain _) (Nod.len _) (Upd.refl ((Nod.len _).trans (Nod.len _).symm)) r0 (show (Nod.enc z1) = _ from by subst hn1; rfl) ?_
  refine o_nil0 rfl ?_
  refine c_seq ?_
  refine c_seq ?_
  refine c_joinP (n := 0) (fun sh G => sh = [(47, .bool (((((((!(decide (z1.name = []))) || (decide (¬ (z1.nxt = 0)))) || z1.file) || (!(decide (z1.data = [])))) || (decide (¬ (z1.mode = 0)))) || (decide (¬ (z1.size = 0)))) || (decide (¬ (z1.hash = 0)))))] ∧ G = []) Sel.all' .z (fun _ _ h => h) ?_ ?_
  · skip
    refine c_region ?_
    refine o_T (y_fa fl_181_0 rfl) rfl ?_
    refine o_ld one_9 rfl m0 (At.got (At.refl.comp Nod.a_name)) rfl ?_
    refine o_T (y_sne rfl rfl) rfl ?_
    refine o_T (y_move rfl) rfl ?_
    refine o_split 19 rfl (fun h1 => ?_) (fun h1 => ?_)
    · skip
      refine o_pass rfl rfl rfl rfl rfl ?_
      refine o_pass rfl rfl rfl rfl rfl ?_
      refine o_pass rfl rfl rfl rfl rfl ?_
      refine o_T (y_pickT rfl rfl) rfl ?_
      refine o_T (y_move rfl) rfl ?_
      refine o_pass rfl rfl rfl rfl rfl ?_
      refine o_pass rfl rfl rfl rfl rfl ?_
      refine o_T (y_pickT rfl rfl) rfl ?_
      refine o_T (y_move rfl) rfl ?_
      refine o_pass rfl rfl rfl rfl rfl ?_
      refine o_pass rfl rfl rfl rfl rfl ?_
      refine o_pass rfl rfl rfl rfl rfl ?_
      refine o_T (y_pickT rfl rfl) rfl ?_
      refine o_T (y_move rfl) rfl ?_
      refine o_pass rfl rfl rfl rfl rfl ?_
      refine o_pass rfl rfl rfl rfl rfl ?_
      refine o_pass rfl rfl rfl rfl rfl ?_
      refine o_T (y_pickT rfl rfl) rfl ?_
      refine o_T (y_move rfl) rfl ?_
      refine o_pass rfl rfl rfl rfl rfl ?_
      refine o_pass rfl rfl rfl rfl rfl ?_
      refine o_pass rfl rfl rfl rfl rfl ?_
      refine o_T (y_pickT rfl rfl) rfl ?_
      refine o_T (y_move rfl) rfl ?_
      refine o_pass rfl rfl rfl rfl rfl ?_
      refine o_pass rfl rfl rfl rfl rfl ?_
      refine o_pass rfl rfl rfl rfl rfl ?_
      refine o_T (y_pickT rfl rfl) rfl ?_
      refine o_nil1 47 rfl rfl ?_
      refine ⟨_, _, ⟨rfl, rfl⟩, ⟨by first | rfl | exact gtb rfl (by simp only [h1, Bool.true_and, Bool.false_and, Bool.true_or, Bool.false_or, Bool.and_true, Bool.and_false, Bool.or_true, Bool.or_false, Bool.not_true, Bool.not_false]), trivial⟩, ⟨rfl, rfl⟩, _, (s_take (s_take (s_take s_nil)))⟩
    · skip
      refine o_take rfl rfl rfl ?_
      refine o_T (y_fa fl_181_2 rfl) rfl ?_
      refine o_take rfl rfl rfl ?_
      refine o_ld one_3 rfl m0 (At.got (At.refl.comp Nod.a_nxt)) rfl ?_
      refine o_take rfl rfl rfl ?_
      refine o_T (y_neq rfl rfl) rfl ?_
      refine o_T (y_pickF rfl rfl) rfl ?_
      refine o_T (y_move rfl) rfl ?_
      refine o_split 24 rfl (fun h2 => ?_) (fun h2 => ?_)
      · skip
        refine o_pass rfl rfl rfl rfl rfl ?_
        refine o_pass rfl rfl rfl rfl rfl ?_
        refine o_T (y_pickT rfl rfl) rfl ?_
        refine o_T (y_move rfl) rfl ?_
        refine o_pass rfl rfl rfl rfl rfl ?_
        refine o_pass rfl rfl rfl rfl rfl ?_
        refine o_pass rfl rfl rfl rfl rfl ?_
        refine o_T (y_pickT rfl rfl) rfl ?_
        refine o_T (y_move rfl) rfl ?_
        refine o_pass rfl rfl rfl rfl rfl ?_
        refine o_pass rfl rfl rfl rfl rfl ?_
        refine o_pass rfl rfl rfl rfl rfl ?_
        refine o_T (y_pickT rfl rfl) rfl ?_
        refine o_T (y_move rfl) rfl ?_
        refine o_pass rfl rfl rfl rfl rfl ?_
        refine o_pass rfl rfl rfl rfl rfl ?_
        refine o_pass rfl rfl rfl rfl rfl ?_
        refine o_T (y_pickT rfl rfl) rfl ?_
        refine o_T (y_move rfl) rfl ?_
        refine o_pass rfl rfl rfl rfl rfl ?_
        refine o_pass rfl rfl rfl rfl rfl ?_
        refine o_pass rfl rfl rfl rfl rfl ?_
        refine o_T (y_pickT rfl rfl) rfl ?_
        refine o_nil1 47 rfl rfl ?_
        refine ⟨_, _, ⟨rfl, rfl⟩, ⟨by first | rfl | exact gtb rfl (by simp only [h1, h2, Bool.true_and, Bool.false_and, Bool.true_or, Bool.false_or, Bool.and_true, Bool.and_false, Bool.or_true, Bool.or_false, Bool.not_true, Bool.not_false]), trivial⟩, ⟨rfl, rfl⟩, _, (s_take (s_take (s_take s_nil)))⟩
      · skip
        refine o_take rfl rfl rfl ?_
        refine o_T (y_fa fl_181_3 rfl) rfl ?_
        refine o_take rfl rfl rfl ?_
        refine o_ld one_4 rfl m0 (At.got (At.refl.comp Nod.a_file)) rfl ?_
        refine o_T (y_pickF rfl rfl) rfl ?_
        refine o_T (y_move rfl) rfl ?_
        refine o_split 28 rfl (fun h3 => ?_) (fun h3 => ?_)
        · skip
          refine o_pass rfl rfl rfl rfl rfl ?_
          refine o_pass rfl rfl rfl rfl rfl ?_
          refine o_pass rfl rfl rfl rfl rfl ?_
          refine o_T (y_pickT rfl rfl) rfl ?_
          refine o_T (y_move rfl) rfl ?_
          refine o_pass rfl rfl rfl rfl rfl ?_
          refine o_pass rfl rfl rfl rfl rfl ?_
          refine o_pass rfl rfl rfl rfl rfl ?_
          refine o_T (y_pickT rfl rfl) rfl ?_
          refine o_T (y_move rfl) rfl ?_
          refine o_pass rfl rfl rfl rfl rfl ?_
          refine o_pass rfl rfl rfl rfl rfl ?_
          refine o_pass rfl rfl rfl rfl rfl ?_
          refine o_T (y_pickT rfl rfl) rfl ?_
          refine o_T (y_move rfl) rfl ?_
          refine o_pass rfl rfl rfl rfl rfl ?_
          refine o_pass rfl rfl rfl rfl rfl ?_
          refine o_pass rfl rfl rfl rfl rfl ?_
          refine o_T (y_pickT rfl rfl) rfl ?_
          refine o_nil1 47 rfl rfl ?_
          refine ⟨_, _, ⟨rfl, rfl⟩, ⟨by first | rfl | exact gtb rfl (by simp only [h1, h2, h3, Bool.true_and, Bool.false_and, Bool.true_or, Bool.false_or, Bool.and_true, Bool.and_false, Bool.or_true, Bool.or_false, Bool.not_true, Bool.not_false]), trivial⟩, ⟨rfl, rfl⟩, _, (s_take (s_take (s_take s_nil)))⟩
        · skip
          refine o_take rfl rfl rfl ?_
          refine o_T (y_fa fl_181_4 rfl) rfl ?_
          refine o_take rfl rfl rfl ?_
          refine o_ld one_9 rfl m0 (At.got (At.refl.comp Nod.a_data)) rfl ?_
          refine o_take rfl rfl rfl ?_
          refine o_T (y_sne rfl rfl) rfl ?_
          refine o_T (y_pickF rfl rfl) rfl ?_
          refine o_T (y_move rfl) rfl ?_
          refine o_split 33 rfl (fun h4 => ?_) (fun h4 => ?_)
          · skip
            refine o_pass rfl rfl rfl rfl rfl ?_
            refine o_pass rfl rfl rfl rfl rfl ?_
            refine o_pass rfl rfl rfl rfl rfl ?_
            refine o_T (y_pickT rfl rfl) rfl ?_
            refine o_T (y_move rfl) rfl ?_
            refine o_pass rfl rfl rfl rfl rfl ?_
            refine o_pass rfl rfl rfl rfl rfl ?_
            refine o_pass rfl rfl rfl rfl rfl ?_
            refine o_T (y_pickT rfl rfl) rfl ?_
            refine o_T (y_move rfl) rfl ?_
            refine o_pass rfl rfl rfl rfl rfl ?_
            refine o_pass rfl rfl rfl rfl rfl ?_
            refine o_pass rfl rfl rfl rfl rfl ?_
            refine o_T (y_pickT rfl rfl) rfl ?_
            refine o_nil1 47 rfl rfl ?_
            refine ⟨_, _, ⟨rfl, rfl⟩, ⟨by first | rfl | exact gtb rfl (by simp only [h1, h2, h3, h4, Bool.true_and, Bool.false_and, Bool.true_or, Bool.false_or, Bool.and_true, Bool.and_false, Bool.or_true, Bool.or_false, Bool.not_true, Bool.not_false]), trivial⟩, ⟨rfl, rfl⟩, _, (s_take (s_take (s_take s_nil)))⟩
          · skip
            refine o_take rfl rfl rfl ?_
            refine o_T (y_fa fl_181_5 rfl) rfl ?_
            refine o_take rfl rfl rfl ?_
            refine o_ld one_3 rfl m0 (At.got (At.refl.comp Nod.a_mode)) rfl ?_
            refine o_take rfl rfl rfl ?_
            refine o_T (y_neq rfl rfl) rfl ?_
            refine o_T (y_pickF rfl rfl) rfl ?_
            refine o_T (y_move rfl) rfl ?_
            refine o_split 38 rfl (fun h5 => ?_) (fun h5 => ?_)
            · skip
              refine o_pass rfl rfl rfl rfl rfl ?_
              refine o_pass rfl rfl rfl rfl rfl ?_
              refine o_pass rfl rfl rfl rfl rfl ?_
              refine o_T (y_pickT rfl rfl) rfl ?_
              refine o_T (y_move rfl) rfl ?_
              refine o_pass rfl rfl rfl rfl rfl ?_
              refine o_pass rfl rfl rfl rfl rfl ?_
              refine o_pass rfl rfl rfl rfl rfl ?_
              refine o_T (y_pickT rfl rfl) rfl ?_
              refine o_nil1 47 rfl rfl ?_
              refine ⟨_, _, ⟨rfl, rfl⟩, ⟨by first | rfl | exact gtb rfl (by simp only [h1, h2, h3, h4, h5, Bool.true_and, Bool.false_and, Bool.true_or, Bool.false_or, Bool.and_true, Bool.and_false, Bool.or_true, Bool.or_false, Bool.not_true, Bool.not_false]), trivial⟩, ⟨rfl, rfl⟩, _, (s_take (s_take (s_take s_nil)))⟩
            · skip
              refine o_take rfl rfl rfl ?_
              refine o_T (y_fa fl_181_6 rfl) rfl ?_
              refine o_take rfl rfl rfl ?_
              refine o_ld one_3 rfl m0 (At.got (At.refl.comp Nod.a_size)) rfl ?_
              refine o_take rfl rfl rfl ?_
              refine o_T (y_neq rfl rfl) rfl ?_
              refine o_T (y_pickF rfl rfl) rfl ?_
              refine o_T (y_move rfl) rfl ?_
              refine o_split 43 rfl (fun h6 => ?_) (fun h6 => ?_)
              · skip
                refine o_pass rfl rfl rfl rfl rfl ?_
                refine o_pass rfl rfl rfl rfl rfl ?_
                refine o_pass rfl rfl rfl rfl rfl ?_
                refine o_T (y_pickT rfl rfl) rfl ?_
                refine o_nil1 47 rfl rfl ?_
                refine ⟨_, _, ⟨rfl, rfl⟩, ⟨by first | rfl | exact gtb rfl (by simp only [h1, h2, h3, h4, h5, h6, Bool.true_and, Bool.false_and, Bool.true_or, Bool.false_or, Bool.and_true, Bool.and_false, Bool.or_true, Bool.or_false, Bool.not_true, Bool.not_false]), trivial⟩, ⟨rfl, rfl⟩, _, (s_take (s_take (s_take s_nil)))⟩
              · skip
                refine o_take rfl rfl rfl ?_
                refine o_T (y_fa fl_181_7 rfl) rfl ?_
                refine o_take rfl rfl rfl ?_
                refine o_ld one_3 rfl m0 (At.got (At.refl.comp Nod.a_hash)) rfl ?_
                refine o_take rfl rfl rfl ?_
                refine o_T (y_neq rfl rfl) rfl ?_
                refine o_T (y_pickF rfl rfl) rfl ?_
                refine o_nil1 47 rfl rfl ?_
                refine ⟨_, _, ⟨rfl, rfl⟩, ⟨by first | rfl | exact gtb rfl (by simp only [h1, h2, h3, h4, h5, h6, Bool.true_and, Bool.false_and, Bool.true_or, Bool.false_or, Bool.and_true, Bool.and_false, Bool.or_true, Bool.or_false, Bool.not_true, Bool.not_false]), trivial⟩, ⟨rfl, rfl⟩, _, (s_take (s_take (s_take s_nil)))⟩
  · rintro sh G ⟨rfl, rfl⟩
    refine c_cond rfl (fun h7 => ?_) (fun h7 => ?_)
    · have hm := cd_t h7 hm
      refine c_seq ?_
      refine c_region ?_
      refine o_L (y_assign rfl) rfl rfl ?_
      refine o_nil0 rfl ?_
      refine c_ret ?_
      obtain rfl := p1 hm
      refine fun aX wX heX hsX => ret1 Tryz.results109 heX rfl (s_skip (s_take (s_take s_nil))) ?_
      exact ⟨rfl, rfl⟩
    · have hm := cd_f h7 hm
      refine c_skip ?_
      refine c_seq ?_
      refine c_region ?_
      refine o_T (y_build st_217 rfl fbU0) rfl ?_
      refine o_box rfl rfl rfl rfl (fun b3 => ?_)
      refine o_L (y_assign rfl) rfl rfl ?_
      refine o_nil0 rfl ?_
      refine c_seq ?_
      refine c_region ?_
      refine o_T (y_move rfl) rfl ?_
      refine o_T (y_move rfl) rfl ?_
      obtain ⟨z2, hx1, hm⟩ := bd1 hm
      refine o_callC en_200 rfl (s_get (ks (ks k0)) (s_take s_nil)) (t200 hx1) rfl (fun u1 S1 hR1 => ?_)
      obtain ⟨rfl, rfl⟩ := hR1
      refine o_rest ?_
      refine o_nil0 rfl ?_
      refine c_seq ?_
      refine c_seq ?_
      refine c_joinP (n := 0) (fun sh G => sh = [(74, .bool ((z2.bad || (decide (¬ (z2.files = x.files)))) || (decide ((8 : Int) < z2.files))))] ∧ G = []) Sel.all' .z (fun _ _ h => h) ?_ ?_
      · skip
        refine c_draw #[true, true, true, true, true, true, true, true, true, true, true, true, true, true, true, true, true, true, true, true, true, true] rfl (n := 22) rfl ?_
        refine d_T 0 rfl sb_109_6_0 rfl (y_move rfl) rfl ?_
        refine d_T 1 rfl sb_109_6_1 rfl (y_nilck rfl) rfl ?_
        refine d_T 2 rfl sb_109_6_2 rfl (y_fa fl_217_2 rfl) rfl ?_
        refine d_ld 3 rfl sb_109_6_3 one_4 rfl (fun x hx => hx) (ms m0) (At.got (At.refl.comp Tally.a_bad)) rfl ?_
        refine d_T 4 rfl sb_109_6_4 rfl (y_move rfl) rfl ?_
        refine d_split 57 rfl (fun h8 => ?_) (fun h8 => ?_)
        · skip
          refine d_pass 5 rfl rfl rfl rfl rfl sb_109_6_5 (fun x hx => hx) rfl ?_
          refine d_pass 6 rfl rfl rfl rfl rfl sb_109_6_6 (fun x hx => hx) rfl ?_
          refine d_pass 7 rfl rfl rfl rfl rfl sb_109_6_7 (fun x hx => hx) rfl ?_
          refine d_pass 8 rfl rfl rfl rfl rfl sb_109_6_8 (fun x hx => hx) rfl ?_
          refine d_pass 9 rfl rfl rfl rfl rfl sb_109_6_9 (fun x hx => hx) rfl ?_
          refine d_pass 10 rfl rfl rfl rfl rfl sb_109_6_10 (fun x hx => hx) rfl ?_
          refine d_pass 11 rfl rfl rfl rfl rfl sb_109_6_11 (fun x hx => hx) rfl ?_
          refine d_pass 12 rfl rfl rfl rfl rfl sb_109_6_12 (fun x hx => hx) rfl ?_
          refine d_pass 13 rfl rfl rfl rfl rfl sb_109_6_13 (fun x hx => hx) rfl ?_
          refine d_T 14 rfl sb_109_6_14 rfl (y_pickT rfl rfl) rfl ?_
          refine d_T 15 rfl sb_109_6_15 rfl (y_move rfl) rfl ?_
          refine d_pass 16 rfl rfl rfl rfl rfl sb_109_6_16 (fun x hx => hx) rfl ?_
          refine d_pass 17 rfl rfl rfl rfl rfl sb_109_6_17 (fun x hx => hx) rfl ?_
          refine d_pass 18 rfl rfl rfl rfl rfl sb_109_6_18 (fun x hx => hx) rfl ?_
          refine d_pass 19 rfl rfl rfl rfl rfl sb_109_6_19 (fun x hx => hx) rfl ?_
          refine d_pass 20 rfl rfl rfl rfl rfl sb_109_6_20 (fun x hx => hx) rfl ?_
          refine d_T 21 rfl sb_109_6_21 rfl (y_pickT rfl rfl) rfl ?_
          refine d_nil1 74 sb_109_6_22 rfl rfl ?_
          refine ⟨_, _, ⟨rfl, rfl⟩, ⟨by first | rfl | exact gtb rfl (by simp only [h8, Bool.true_and, Bool.false_and, Bool.true_or, Bool.false_or, Bool.and_true, Bool.and_false, Bool.or_true, Bool.or_false, Bool.not_true, Bool.not_false]), trivial⟩, ⟨rfl, rfl⟩, _, (s_take (s_take (s_take (s_take s_nil))))⟩
        · skip
          refine d_Tg 5 rfl rfl rfl rfl sb_109_6_5 rfl (y_move rfl) rfl ?_
          refine d_Tg 6 rfl rfl rfl rfl sb_109_6_6 rfl (y_nilck rfl) rfl ?_
          refine d_Tg 7 rfl rfl rfl rfl sb_109_6_7 rfl (y_fa fl_217_1 rfl) rfl ?_
          refine d_ldt 8 rfl rfl rfl rfl sb_109_6_8 one_3 rfl (fun x hx => hx) (ms m0) (At.got (At.refl.comp Tally.a_files)) rfl ?_
          refine d_Tg 9 rfl rfl rfl rfl sb_109_6_9 rfl (y_move rfl) rfl ?_
          refine d_Tg 10 rfl rfl rfl rfl sb_109_6_10 rfl (y_nilck rfl) rfl ?_
          refine d_Tg 11 rfl rfl rfl rfl sb_109_6_11 rfl (y_fa fl_184_2 rfl) rfl ?_
          refine d_ldt 12 rfl rfl rfl rfl sb_109_6_12 one_3 rfl (fun x hx => hx) m0 (At.got (At.refl.comp Index.a_files)) rfl ?_
          refine d_Tg 13 rfl rfl rfl rfl sb_109_6_13 rfl (y_neq rfl rfl) rfl ?_
          refine d_T 14 rfl sb_109_6_14 rfl (y_pickF rfl rfl) rfl ?_
          refine d_T 15 rfl sb_109_6_15 rfl (y_move rfl) rfl ?_
          refine d_split 68 rfl (fun h9 => ?_) (fun h9 => ?_)
          · skip
            refine d_pass 16 rfl rfl rfl rfl rfl sb_109_6_16 (fun x hx => hx) rfl ?_
            refine d_pass 17 rfl rfl rfl rfl rfl sb_109_6_17 (fun x hx => hx) rfl ?_
            refine d_pass 18 rfl rfl rfl rfl rfl sb_109_6_18 (fun x hx => hx) rfl ?_
            refine d_pass 19 rfl rfl rfl rfl rfl sb_109_6_19 (fun x hx => hx) rfl ?_
            refine d_pass 20 rfl rfl rfl rfl rfl sb_109_6_20 (fun x hx => hx) rfl ?_
            refine d_T 21 rfl sb_109_6_21 rfl (y_pickT rfl rfl) rfl ?_
            refine d_nil1 74 sb_109_6_22 rfl rfl ?_
            refine ⟨_, _, ⟨rfl, rfl⟩, ⟨by first | rfl | exact gtb rfl (by simp only [h8, h9, Bool.true_and, Bool.false_and, Bool.true_or, Bool.false_or, Bool.and_true, Bool.and_false, Bool.or_true, Bool.or_false, Bool.not_true, Bool.not_false]), trivial⟩, ⟨rfl, rfl⟩, _, (s_take (s_take (s_take (s_take s_nil))))⟩
          · skip
            refine d_Tg 16 rfl rfl rfl rfl sb_109_6_16 rfl (y_move rfl) rfl ?_
            refine d_Tg 17 rfl rfl rfl rfl sb_109_6_17 rfl (y_nilck rfl) rfl ?_
            refine d_Tg 18 rfl rfl rfl rfl sb_109_6_18 rfl (y_fa fl_217_1 rfl) rfl ?_
            refine d_ldt 19 rfl rfl rfl rfl sb_109_6_19 one_3 rfl (fun x hx => hx) (ms m0) (At.got (At.refl.comp Tally.a_files)) rfl ?_
            refine d_Tg 20 rfl rfl rfl rfl sb_109_6_20 rfl (y_gtr rfl rfl) rfl ?_
            refine d_T 21 rfl sb_109_6_21 rfl (y_pickF rfl rfl) rfl ?_
            refine d_nil1 74 sb_109_6_22 rfl rfl ?_
            refine ⟨_, _, ⟨rfl, rfl⟩, ⟨by first | rfl | exact gtb rfl (by simp only [h8, h9, Bool.true_and, Bool.false_and, Bool.true_or, Bool.false_or, Bool.and_true, Bool.and_false, Bool.or_true, Bool.or_false, Bool.not_true, Bool.not_false]), trivial⟩, ⟨rfl, rfl⟩, _, (s_take (s_take (s_take (s_take s_nil))))⟩
      · rintro sh G ⟨rfl, rfl⟩
        refine c_cond rfl (fun h10 => ?_) (fun h10 => ?_)
        · have hm := cd_t h10 hm
          refine c_seq ?_
          refine c_region ?_
          refine o_L (y_assign rfl) rfl rfl ?_
          refine o_nil0 rfl ?_
          refine c_ret ?_
          obtain rfl := p1 hm
          refine fun aX wX heX hsX => ret1 Tryz.results109 heX rfl (s_take (s_skip (s_skip (s_take s_nil)))) ?_
          exact ⟨rfl, rfl⟩
        · have hm := cd_f h10 hm
          refine c_skip ?_
          refine c_seq ?_
          refine c_region ?_
          refine o_T (y_move rfl) rfl ?_
          refine o_T (y_nilck rfl) rfl ?_
          refine o_T (y_fa fl_184_1 rfl) rfl ?_
          refine o_ld one_3 rfl m0 (At.got (At.refl.comp Index.a_free)) rfl ?_
          refine o_L (y_assign rfl) rfl rfl ?_
          refine o_nil0 rfl ?_
          refine c_seq ?_
          refine c_seq ?_
          refine c_region ?_
          refine o_L (y_assign rfl) rfl rfl ?_
          refine o_nil0 rfl ?_
          obtain ⟨f1, F1, hF1, hj1, hF2⟩ := fl2 hm
          refine c_joinP (n := 1) (fun sh G => ∃ (c3 : Int), ∃ (c4 : Int), ∃ (z4 : Tally), sh = [(5, .int .i64 c3), (6, .int .i64 c4)] ∧ G = [[(b3, .cells (Tally.enc z4).toArray 217 (0, 0))]] ∧ F1 (c3, c4, z4) = some rc1) (s_get (ks k0) (s_take (s_skip (s_take s_nil)))) (.s .z) (fun _ _ h => h) ?_ ?_
          · skip
            refine c_block ?_
            refine c_loopP (n := 1) (fun mm sh G => ∃ (c1 : Int), ∃ (c2 : Int), ∃ (z3 : Tally), sh = [(5, .int .i64 c1), (6, .int .i64 c2)] ∧ G = [[(b3, .cells (Tally.enc z3).toArray 217 (0, 0))]] ∧ m109_w1 n x mm c1 c2 z3 = some f1) n (s_get (ks k0) (s_take (s_skip (s_take s_nil)))) (.s .z) ⟨_, _, ⟨_, _, _, rfl, rfl, hj1⟩, ⟨rfl, rfl, trivial⟩, _, (s_get (ks k0) (s_take (s_skip (s_take s_nil))))⟩ ?_
            rintro mm sh G ⟨c1, c2, z3, rfl, rfl, hm⟩
            obtain ⟨mm1, rfl, hm⟩ := it3_s hm
            refine c_seq ?_
            refine c_seq ?_
            refine c_joinP (n := 0) (fun sh G => sh = [(84, .bool ((decide (c2 < 49)) && (decide (¬ (c1 = 0)))))] ∧ G = []) Sel.all' .z (fun _ _ h => h) ?_ ?_
            · skip
              refine c_region ?_
              refine o_T (y_move rfl) rfl ?_
              refine o_T (y_lss rfl rfl) rfl ?_
              refine o_T (y_move rfl) rfl ?_
              refine o_split 81 rfl (fun h11 => ?_) (fun h11 => ?_)
              · skip
                refine o_take rfl rfl rfl ?_
                refine o_T (y_move rfl) rfl ?_
                refine o_take rfl rfl rfl ?_
                refine o_T (y_neq rfl rfl) rfl ?_
                refine o_T (y_pickT rfl rfl) rfl ?_
                refine o_nil1 84 rfl rfl ?_
                refine ⟨_, _, ⟨rfl, rfl⟩, ⟨by first | rfl | exact gtb rfl (by simp only [h11, Bool.true_and, Bool.false_and, Bool.true_or, Bool.false_or, Bool.and_true, Bool.and_false, Bool.or_true, Bool.or_false, Bool.not_true, Bool.not_false]), trivial⟩, ⟨rfl, rfl⟩, _, (s_take (s_take (s_take s_nil)))⟩
              · skip
                refine o_pass rfl rfl rfl rfl rfl ?_
                refine o_pass rfl rfl rfl rfl rfl ?_
                refine o_T (y_pickF rfl rfl) rfl ?_
                refine o_nil1 84 rfl rfl ?_
                refine ⟨_, _, ⟨rfl, rfl⟩, ⟨by first | rfl | exact gtb rfl (by simp only [h11, Bool.true_and, Bool.false_and, Bool.true_or, Bool.false_or, Bool.and_true, Bool.and_false, Bool.or_true, Bool.or_false, Bool.not_true, Bool.not_false]), trivial⟩, ⟨rfl, rfl⟩, _, (s_take (s_take (s_take s_nil)))⟩
            · rintro sh G ⟨rfl, rfl⟩
              refine c_cond rfl (fun h12 => ?_) (fun h12 => ?_)
              · have hm := cd_t h12 hm
                refine c_skip ?_
                refine c_seq ?_
                refine c_block ?_
                refine c_seq ?_
                refine c_region ?_
                refine o_T (y_move rfl) rfl ?_
                refine o_T (y_move rfl) rfl ?_
                obtain ⟨z5, hx2, hm⟩ := bd1 hm
                refine o_callC en_201 rfl (s_take s_nil) (t201 hx2) rfl (fun u2 S2 hR2 => ?_)
                obtain ⟨rfl, rfl⟩ := hR2
                refine o_rest ?_
                refine o_nil0 rfl ?_
                refine c_seq ?_
                refine c_seq ?_
                refine c_region ?_
                refine o_T (y_move rfl) rfl ?_
                refine o_T (y_nilck rfl) rfl ?_
                refine o_T (y_fa fl_217_2 rfl) rfl ?_
                refine o_ld one_4 rfl m0 (At.got (At.refl.comp Tally.a_bad)) rfl ?_
                refine o_nil1 93 rfl rfl ?_
                refine c_cond rfl (fun h13 => ?_) (fun h13 => ?_)
                · have hm := cd_t h13 hm
                  refine c_seq ?_
                  refine c_region ?_
                  refine o_L (y_assign rfl) rfl rfl ?_
                  refine o_nil0 rfl ?_
                  refine c_ret ?_
                  obtain ⟨q1, hq1, hm⟩ := bd hm
                  have hm := fl_ret hm hF2
                  have hm := hq1.trans hm
                  obtain rfl := p1 hm
                  refine fun aX wX heX hsX => ret1 Tryz.results109 heX rfl (s_skip (s_take (s_take s_nil))) ?_
                  exact ⟨rfl, rfl⟩
                · have hm := cd_f h13 hm
                  refine c_skip ?_
                  refine c_seq ?_
                  refine c_region ?_
                  refine o_T (y_move rfl) rfl ?_
                  refine o_T (y_move rfl) rfl ?_
                  refine o_T (y_nilck rfl) rfl ?_
                  refine o_T (y_fa fl_184_0 rfl) rfl ?_
                  obtain ⟨_, hx3, hm⟩ := bd hm
                  have hx3 := ckA_some hx3
                  refine o_T (y_ia ar_182 rfl rfl hx3.1 hx3.2) rfl ?_
                  refine o_lda ag_181 rfl (ms m0) (At.exs ((At.refl.comp Index.a_pool).comp (encN_a Nod.len _ _ hx3.1 _ hx3.2)) (Nod.len _)) (At.fits ((At.refl.comp Index.a_pool).comp (encN_a Nod.len _ _ hx3.1 _ hx3.2)) (Nod.len _)) rfl ?_
                  refine o_alloc ze_181 rfl rfl (fun b4 => ?_)
                  obtain ⟨z6, hn2, hm⟩ := nm_s hm
                  refine o_stNA ag_181 rfl rfl (Nod.plain _) (Nod.len _) (Upd.refl ((Nod.len _).trans (Nod.len _).symm)) r0 (show (Nod.enc z6) = _ from by subst hn2; rfl) ?_
                  refine o_nil0 rfl ?_
                  refine c_seq ?_
                  refine c_seq ?_
                  refine c_joinP (n := 0) (fun sh G => sh = [(131, .bool (((((((!(decide (z6.name = []))) || (decide (¬ (z6.child = 0)))) || z6.file) || (!(decide (z6.data = [])))) || (decide (¬ (z6.mode = 0)))) || (decide (¬ (z6.size = 0)))) || (decide (¬ (z6.hash = 0)))))] ∧ G = []) Sel.all' .z (fun _ _ h => h) ?_ ?_
                  · skip
                    refine c_region ?_
                    refine o_T (y_fa fl_181_0 rfl) rfl ?_
                    refine o_ld one_9 rfl m0 (At.got (At.refl.comp Nod.a_name)) rfl ?_
                    refine o_T (y_sne rfl rfl) rfl ?_
                    refine o_T (y_move rfl) rfl ?_
                    refine o_split 103 rfl (fun h14 => ?_) (fun h14 => ?_)
                    · skip
                      refine o_pass rfl rfl rfl rfl rfl ?_
                      refine o_pass rfl rfl rfl rfl rfl ?_
                      refine o_pass rfl rfl rfl rfl rfl ?_
                      refine o_T (y_pickT rfl rfl) rfl ?_
                      refine o_T (y_move rfl) rfl ?_
                      refine o_pass rfl rfl rfl rfl rfl ?_
                      refine o_pass rfl rfl rfl rfl rfl ?_
                      refine o_T (y_pickT rfl rfl) rfl ?_
                      refine o_T (y_move rfl) rfl ?_
                      refine o_pass rfl rfl rfl rfl rfl ?_
                      refine o_pass rfl rfl rfl rfl rfl ?_
                      refine o_pass rfl rfl rfl rfl rfl ?_
                      refine o_T (y_pickT rfl rfl) rfl ?_
                      refine o_T (y_move rfl) rfl ?_
                      refine o_pass rfl rfl rfl rfl rfl ?_
                      refine o_pass rfl rfl rfl rfl rfl ?_
                      refine o_pass rfl rfl rfl rfl rfl ?_
                      refine o_T (y_pickT rfl rfl) rfl ?_
                      refine o_T (y_move rfl) rfl ?_
                      refine o_pass rfl rfl rfl rfl rfl ?_
                      refine o_pass rfl rfl rfl rfl rfl ?_
                      refine o_pass rfl rfl rfl rfl rfl ?_
                      refine o_T (y_pickT rfl rfl) rfl ?_
                      refine o_T (y_move rfl) rfl ?_
                      refine o_pass rfl rfl rfl rfl rfl ?_
                      refine o_pass rfl rfl rfl rfl rfl ?_
                      refine o_pass rfl rfl rfl rfl rfl ?_
                      refine o_T (y_pickT rfl rfl) rfl ?_
                      refine o_nil1 131 rfl rfl ?_
                      refine ⟨_, _, ⟨rfl, rfl⟩, ⟨by first | rfl | exact gtb rfl (by simp only [h14, Bool.true_and, Bool.false_and, Bool.true_or, Bool.false_or, Bool.and_true, Bool.and_false, Bool.or_true, Bool.or_false, Bool.not_true, Bool.not_false]), trivial⟩, ⟨rfl, rfl⟩, _, (s_take (s_take (s_take (s_take s_nil))))⟩
                    · skip
                      refine o_take rfl rfl rfl ?_
                      refine o_T (y_fa fl_181_1 rfl) rfl ?_
                      refine o_take rfl rfl rfl ?_
                      refine o_ld one_3 rfl m0 (At.got (At.refl.comp Nod.a_child)) rfl ?_
                      refine o_take rfl rfl rfl ?_
                      refine o_T (y_neq rfl rfl) rfl ?_
                      refine o_T (y_pickF rfl rfl) rfl ?_
                      refine o_T (y_move rfl) rfl ?_
                      refine o_split 108 rfl (fun h15 => ?_) (fun h15 => ?_)
                      · skip
                        refine o_pass rfl rfl rfl rfl rfl ?_
                        refine o_pass rfl rfl rfl rfl rfl ?_
                        refine o_T (y_pickT rfl rfl) rfl ?_
                        refine o_T (y_move rfl) rfl ?_
                        refine o_pass rfl rfl rfl rfl rfl ?_
                        refine o_pass rfl rfl rfl rfl rfl ?_
                        refine o_pass rfl rfl rfl rfl rfl ?_
                        refine o_T (y_pickT rfl rfl) rfl ?_
                        refine o_T (y_move rfl) rfl ?_
                        refine o_pass rfl rfl rfl rfl rfl ?_
                        refine o_pass rfl rfl rfl rfl rfl ?_
                        refine o_pass rfl rfl rfl rfl rfl ?_
                        refine o_T (y_pickT rfl rfl) rfl ?_
                        refine o_T (y_move rfl) rfl ?_
                        refine o_pass rfl rfl rfl rfl rfl ?_
                        refine o_pass rfl rfl rfl rfl rfl ?_
                        refine o_pass rfl rfl rfl rfl rfl ?_
                        refine o_T (y_pickT rfl rfl) rfl ?_
                        refine o_T (y_move rfl) rfl ?_
                        refine o_pass rfl rfl rfl rfl rfl ?_
                        refine o_pass rfl rfl rfl rfl rfl ?_
                        refine o_pass rfl rfl rfl rfl rfl ?_
                        refine o_T (y_pickT rfl rfl) rfl ?_
                        refine o_nil1 131 rfl rfl ?_
                        refine ⟨_, _, ⟨rfl, rfl⟩, ⟨by first | rfl | exact gtb rfl (by simp only [h14, h15, Bool.true_and, Bool.false_and, Bool.true_or, Bool.false_or, Bool.and_true, Bool.and_false, Bool.or_true, Bool.or_false, Bool.not_true, Bool.not_false]), trivial⟩, ⟨rfl, rfl⟩, _, (s_take (s_take (s_take (s_take s_nil))))⟩
                      · skip
                        refine o_take rfl rfl rfl ?_
                        refine o_T (y_fa fl_181_3 rfl) rfl ?_
                        refine o_take rfl rfl rfl ?_
                        refine o_ld one_4 rfl m0 (At.got (At.refl.comp Nod.a_file)) rfl ?_
                        refine o_T (y_pickF rfl rfl) rfl ?_
                        refine o_T (y_move rfl) rfl ?_
                        refine o_split 112 rfl (fun h16 => ?_) (fun h16 => ?_)
                        · skip
                          refine o_pass rfl rfl rfl rfl rfl ?_
                          refine o_pass rfl rfl rfl rfl rfl ?_
                          refine o_pass rfl rfl rfl rfl rfl ?_
                          refine o_T (y_pickT rfl rfl) rfl ?_
                          refine o_T (y_move rfl) rfl ?_
                          refine o_pass rfl rfl rfl rfl rfl ?_
                          refine o_pass rfl rfl rfl rfl rfl ?_
                          refine o_pass rfl rfl rfl rfl rfl ?_
                          refine o_T (y_pickT rfl rfl) rfl ?_
                          refine o_T (y_move rfl) rfl ?_
                          refine o_pass rfl rfl rfl rfl rfl ?_
                          refine o_pass rfl rfl rfl rfl rfl ?_
                          refine o_pass rfl rfl rfl rfl rfl ?_
                          refine o_T (y_pickT rfl rfl) rfl ?_
                          refine o_T (y_move rfl) rfl ?_
                          refine o_pass rfl rfl rfl rfl rfl ?_
                          refine o_pass rfl rfl rfl rfl rfl ?_
                          refine o_pass rfl rfl rfl rfl rfl ?_
                          refine o_T (y_pickT rfl rfl) rfl ?_
                          refine o_nil1 131 rfl rfl ?_
                          refine ⟨_, _, ⟨rfl, rfl⟩, ⟨by first | rfl | exact gtb rfl (by simp only [h14, h15, h16, Bool.true_and, Bool.false_and, Bool.true_or, Bool.false_or, Bool.and_true, Bool.and_false, Bool.or_true, Bool.or_false, Bool.not_true, Bool.not_false]), trivial⟩, ⟨rfl, rfl⟩, _, (s_take (s_take (s_take (s_take s_nil))))⟩
                        · skip
                          refine o_take rfl rfl rfl ?_
                          refine o_T (y_fa fl_181_4 rfl) rfl ?_
                          refine o_take rfl rfl rfl ?_
                          refine o_ld one_9 rfl m0 (At.got (At.refl.comp Nod.a_data)) rfl ?_
                          refine o_take rfl rfl rfl ?_
                          refine o_T (y_sne rfl rfl) rfl ?_
                          refine o_T (y_pickF rfl rfl) rfl ?_
                          refine o_T (y_move rfl) rfl ?_
                          refine o_split 117 rfl (fun h17 => ?_) (fun h17 => ?_)
                          · skip
                            refine o_pass rfl rfl rfl rfl rfl ?_
                            refine o_pass rfl rfl rfl rfl rfl ?_
                            refine o_pass rfl rfl rfl rfl rfl ?_
                            refine o_T (y_pickT rfl rfl) rfl ?_
                            refine o_T (y_move rfl) rfl ?_
                            refine o_pass rfl rfl rfl rfl rfl ?_
                            refine o_pass rfl rfl rfl rfl rfl ?_
                            refine o_pass rfl rfl rfl rfl rfl ?_
                            refine o_T (y_pickT rfl rfl) rfl ?_
                            refine o_T (y_move rfl) rfl ?_
                            refine o_pass rfl rfl rfl rfl rfl ?_
                            refine o_pass rfl rfl rfl rfl rfl ?_
                            refine o_pass rfl rfl rfl rfl rfl ?_
                            refine o_T (y_pickT rfl rfl) rfl ?_
                            refine o_nil1 131 rfl rfl ?_
                            refine ⟨_, _, ⟨rfl, rfl⟩, ⟨by first | rfl | exact gtb rfl (by simp only [h14, h15, h16, h17, Bool.true_and, Bool.false_and, Bool.true_or, Bool.false_or, Bool.and_true, Bool.and_false, Bool.or_true, Bool.or_false, Bool.not_true, Bool.not_false]), trivial⟩, ⟨rfl, rfl⟩, _, (s_take (s_take (s_take (s_take s_nil))))⟩
                          · skip
                            refine o_take rfl rfl rfl ?_
                            refine o_T (y_fa fl_181_5 rfl) rfl ?_
                            refine o_take rfl rfl rfl ?_
                            refine o_ld one_3 rfl m0 (At.got (At.refl.comp Nod.a_mode)) rfl ?_
                            refine o_take rfl rfl rfl ?_
                            refine o_T (y_neq rfl rfl) rfl ?_
                            refine o_T (y_pickF rfl rfl) rfl ?_
                            refine o_T (y_move rfl) rfl ?_
                            refine o_split 122 rfl (fun h18 => ?_) (fun h18 => ?_)
                            · skip
                              refine o_pass rfl rfl rfl rfl rfl ?_
                              refine o_pass rfl rfl rfl rfl rfl ?_
                              refine o_pass rfl rfl rfl rfl rfl ?_
                              refine o_T (y_pickT rfl rfl) rfl ?_
                              refine o_T (y_move rfl) rfl ?_
                              refine o_pass rfl rfl rfl rfl rfl ?_
                              refine o_pass rfl rfl rfl rfl rfl ?_
                              refine o_pass rfl rfl rfl rfl rfl ?_
                              refine o_T (y_pickT rfl rfl) rfl ?_
                              refine o_nil1 131 rfl rfl ?_
                              refine ⟨_, _, ⟨rfl, rfl⟩, ⟨by first | rfl | exact gtb rfl (by simp only [h14, h15, h16, h17, h18, Bool.true_and, Bool.false_and, Bool.true_or, Bool.false_or, Bool.and_true, Bool.and_false, Bool.or_true, Bool.or_false, Bool.not_true, Bool.not_false]), trivial⟩, ⟨rfl, rfl⟩, _, (s_take (s_take (s_take (s_take s_nil))))⟩
                            · skip
                              refine o_take rfl rfl rfl ?_
                              refine o_T (y_fa fl_181_6 rfl) rfl ?_
                              refine o_take rfl rfl rfl ?_
                              refine o_ld one_3 rfl m0 (At.got (At.refl.comp Nod.a_size)) rfl ?_
                              refine o_take rfl rfl rfl ?_
                              refine o_T (y_neq rfl rfl) rfl ?_
                              refine o_T (y_pickF rfl rfl) rfl ?_
                              refine o_T (y_move rfl) rfl ?_
                              refine o_split 127 rfl (fun h19 => ?_) (fun h19 => ?_)
                              · skip
                                refine o_pass rfl rfl rfl rfl rfl ?_
                                refine o_pass rfl rfl rfl rfl rfl ?_
                                refine o_pass rfl rfl rfl rfl rfl ?_
                                refine o_T (y_pickT rfl rfl) rfl ?_
                                refine o_nil1 131 rfl rfl ?_
                                refine ⟨_, _, ⟨rfl, rfl⟩, ⟨by first | rfl | exact gtb rfl (by simp only [h14, h15, h16, h17, h18, h19, Bool.true_and, Bool.false_and, Bool.true_or, Bool.false_or, Bool.and_true, Bool.and_false, Bool.or_true, Bool.or_false, Bool.not_true, Bool.not_false]), trivial⟩, ⟨rfl, rfl⟩, _, (s_take (s_take (s_take (s_take s_nil))))⟩
                              · skip
                                refine o_take rfl rfl rfl ?_
                                refine o_T (y_fa fl_181_7 rfl) rfl ?_
                                refine o_take rfl rfl rfl ?_
                                refine o_ld one_3 rfl m0 (At.got (At.refl.comp Nod.a_hash)) rfl ?_
                                refine o_take rfl rfl rfl ?_
                                refine o_T (y_neq rfl rfl) rfl ?_
                                refine o_T (y_pickF rfl rfl) rfl ?_
                                refine o_nil1 131 rfl rfl ?_
                                refine ⟨_, _, ⟨rfl, rfl⟩, ⟨by first | rfl | exact gtb rfl (by simp only [h14, h15, h16, h17, h18, h19, Bool.true_and, Bool.false_and, Bool.true_or, Bool.false_or, Bool.and_true, Bool.and_false, Bool.or_true, Bool.or_false, Bool.not_true, Bool.not_false]), trivial⟩, ⟨rfl, rfl⟩, _, (s_take (s_take (s_take (s_take s_nil))))⟩
                  · rintro sh G ⟨rfl, rfl⟩
                    refine c_cond rfl (fun h20 => ?_) (fun h20 => ?_)
                    · have hm := cd_t h20 hm
                      refine c_seq ?_
                      refine c_region ?_
                      refine o_L (y_assign rfl) rfl rfl ?_
                      refine o_nil0 rfl ?_
                      refine c_ret ?_
                      obtain ⟨q2, hq2, hm⟩ := bd hm
                      have hm := fl_ret hm hF2
                      have hm := hq2.trans hm
                      obtain rfl := p1 hm
                      refine fun aX wX heX hsX => ret1 Tryz.results109 heX rfl (s_skip (s_skip (s_take (s_take s_nil)))) ?_
                      exact ⟨rfl, rfl⟩
                    · have hm := cd_f h20 hm
                      refine c_skip ?_
                      refine c_region ?_
                      refine o_T (y_fa fl_181_2 rfl) rfl ?_
                      refine o_ld one_3 rfl m0 (At.got (At.refl.comp Nod.a_nxt)) rfl ?_
                      refine o_L (y_assign rfl) rfl rfl ?_
                      refine o_nil0 rfl ?_
                      refine c_region ?_
                      refine o_T (y_move rfl) rfl ?_
                      refine o_T (y_add rfl rfl rfl) rfl ?_
                      refine o_L (y_assign rfl) rfl rfl ?_
                      refine o_nil0 rfl ?_
                      exact ⟨mm1, Nat.lt_succ_self _, _, _, ⟨_, _, _, rfl, rfl, hm⟩, ⟨rfl, rfl, trivial⟩, ⟨rfl, rfl⟩, _, (s_skip (s_take (s_take (s_take s_nil))))⟩
              · have hm := cd_f h12 hm
                refine c_exit ?_
                have hm := fl_nx hm hF2
                exact ⟨_, _, ⟨_, _, _, rfl, rfl, hm⟩, ⟨rfl, rfl, trivial⟩, ⟨rfl, rfl⟩, _, (s_take (s_take (s_take s_nil)))⟩
          · rintro sh G ⟨c3, c4, z4, rfl, rfl, hm⟩
            subst hF1
            refine c_seq ?_
            refine c_seq ?_
            refine c_region ?_
            refine o_L (y_assign rfl) rfl rfl ?_
            refine o_nil0 rfl ?_
            obtain ⟨f2, F2, hF3, hj2, hF4⟩ := fl2 hm
            refine c_joinP (n := 0) (fun sh G => ∃ (c6 : Int), sh = [(8, .int .i64 c6)] ∧ G = [] ∧ F2 c6 = some rc1) (s_take (s_take (s_take s_nil))) .z (fun _ _ h => h) ?_ ?_
            · skip
              refine c_block ?_
              refine c_loopP (n := 0) (fun mm sh G => ∃ (c5 : Int), sh = [(8, .int .i64 c5)] ∧ G = [] ∧ m109_w2 n z4 mm c5 = some f2) n (s_take (s_take (s_take s_nil))) .z ⟨_, _, ⟨_, rfl, rfl, hj2⟩, ⟨rfl, trivial⟩, _, (s_take (s_take (s_take s_nil)))⟩ ?_
              rintro mm sh G ⟨c5, rfl, rfl, hm⟩
              obtain ⟨mm2, rfl, hm⟩ := it1_s hm
              refine c_seq ?_
              refine c_seq ?_
              refine c_region ?_
              refine o_T (y_move rfl) rfl ?_
              refine o_T (y_lss rfl rfl) rfl ?_
              refine o_nil1 135 rfl rfl ?_
              refine c_cond rfl (fun h21 => ?_) (fun h21 => ?_)
              · have hm := cd_t h21 hm
                refine c_skip ?_
                refine c_seq ?_
                refine c_block ?_
                refine c_seq ?_
                refine c_region ?_
                refine o_T (y_move rfl) rfl ?_
                refine o_T (y_move rfl) rfl ?_
                refine o_T (y_nilck rfl) rfl ?_
                refine o_T (y_fa fl_217_0 rfl) rfl ?_
                obtain ⟨_, hx4, hm⟩ := bd hm
                have hx4 := ckA_some hx4
                refine o_T (y_ia ar_215 rfl rfl hx4.1 hx4.2) rfl ?_
                refine o_ld one_4 rfl m0 (At.got ((At.refl.comp Tally.a_seen).comp (encN_a encB_len _ _ hx4.1 _ hx4.2))) rfl ?_
                refine o_T (y_not rfl) rfl ?_
                refine o_nil1 144 rfl rfl ?_
                refine c_cond rfl (fun h22 => ?_) (fun h22 => ?_)
                · have hm := cd_t h22 hm
                  refine c_seq ?_
                  refine c_region ?_
                  refine o_L (y_assign rfl) rfl rfl ?_
                  refine o_nil0 rfl ?_
                  refine c_ret ?_
                  obtain ⟨q3, hq3, hm⟩ := bd hm
                  have hm := fl_ret hm hF4
                  have hm := hq3.trans hm
                  obtain rfl := p1 hm
                  refine fun aX wX heX hsX => ret1 Tryz.results109 heX rfl (s_skip (s_take (s_take s_nil))) ?_
                  exact ⟨rfl, rfl⟩
                · have hm := cd_f h22 hm
                  refine c_skip ?_
                  refine c_region ?_
                  refine o_T (y_move rfl) rfl ?_
                  refine o_T (y_add rfl rfl rfl) rfl ?_
                  refine o_L (y_assign rfl) rfl rfl ?_
                  refine o_nil0 rfl ?_
                  exact ⟨mm2, Nat.lt_succ_self _, _, _, ⟨_, rfl, rfl, hm⟩, ⟨rfl, trivial⟩, ⟨rfl, rfl⟩, _, (s_take (s_take (s_take s_nil)))⟩
              · have hm := cd_f h21 hm
                refine c_exit ?_
                have hm := fl_nx hm hF4
                exact ⟨_, _, ⟨_, rfl, rfl, hm⟩, ⟨rfl, trivial⟩, ⟨rfl, rfl⟩, _, (s_take (s_take (s_take s_nil)))⟩
            · rintro sh G ⟨c6, rfl, rfl, hm⟩
              subst hF3
              refine c_seq ?_
              refine c_region ?_
              refine o_T (y_move rfl) rfl ?_
              obtain ⟨l1, hx5, hm⟩ := bd1 hm
              refine o_callC en_122 rfl (s_skip (s_take s_nil)) (t122 hx5) rfl (fun u3 S3 hR3 => ?_)
              obtain ⟨v1, g1, rfl, rfl, ho1⟩ := hR3
              refine o_rest ?_
              refine o_L (y_assign rfl) rfl rfl ?_
              refine o_nil0 rfl ?_
              refine c_seq ?_
              refine c_region ?_
              refine o_T (y_move rfl) rfl ?_
              obtain ⟨c7, hx6, hm⟩ := bd1 hm
              refine o_callC en_152 rfl s_nil (t152 (ho1.rd.mono (fun _ hz => (ms (mg hz)))) hx6) rfl (fun u4 S4 hR4 => ?_)
              obtain ⟨rfl, rfl⟩ := hR4
              refine o_rest ?_
              refine o_L (y_assign rfl) rfl rfl ?_
              refine o_nil0 rfl ?_
              refine c_seq ?_
              refine c_region ?_
              refine o_T (y_move rfl) rfl ?_
              refine o_T (y_eql rfl rfl) rfl ?_
              refine o_L (y_assign rfl) rfl rfl ?_
              refine o_nil0 rfl ?_
              refine c_ret ?_
              obtain rfl := p1 hm
              refine fun aX wX heX hsX => ret1 Tryz.results109 heX rfl (s_take (s_skip (s_skip (s_take s_nil)))) ?_
              exact ⟨rfl, rfl⟩
end Go.Proofs.Qxb6500350aGreat
