/- MADE BY PROGRAM (tools350/mir.py): mirror and walk. -/
import Derived.Test.Qxb6500350aGreatF2
import Derived.Test.Qxb6500350aGreatT161
import Derived.Test.Qxb6500350aGreatT162
set_option linter.unusedVariables false
set_option linter.unusedSimpArgs false
set_option maxRecDepth 20000
set_option maxHeartbeats 4000000
namespace Go.Proofs.Qxb6500350aGreat
open Go.Eng

def op_68_3 : Array Go.Oper := #[{ dst := some 17, op := Go.Op.move (Go.Operand.tmp 0), type := 39, pos := "repom.go:353", after := #[], guard := none }, { dst := some 18, op := Go.Op.move (Go.Operand.tmp 0), type := 39, pos := "repom.go:353", after := #[], guard := none }, { dst := some 19, op := Go.Op.nilCheck (Go.Operand.tmp 18), type := 0, pos := "repom.go:353", after := #[{ on := 1, ground := Go.Ground.data }], guard := none }, { dst := some 20, op := Go.Op.fieldAddr 59 (Go.Operand.tmp 19) 0, type := 0, pos := "repom.go:353", after := #[{ on := 2, ground := Go.Ground.data }], guard := none }, { dst := some 21, op := Go.Op.load 55 (Go.Operand.tmp 20), type := 55, pos := "repom.go:353", after := #[{ on := 3, ground := Go.Ground.data }], guard := none }, { dst := some 22, op := Go.Op.move (Go.Operand.tmp 0), type := 39, pos := "repom.go:353", after := #[], guard := none }, { dst := some 23, op := Go.Op.nilCheck (Go.Operand.tmp 22), type := 0, pos := "repom.go:353", after := #[{ on := 5, ground := Go.Ground.data }], guard := none }, { dst := some 24, op := Go.Op.fieldAddr 59 (Go.Operand.tmp 23) 2, type := 0, pos := "repom.go:353", after := #[{ on := 6, ground := Go.Ground.data }], guard := none }, { dst := some 25, op := Go.Op.load 56 (Go.Operand.tmp 24), type := 56, pos := "repom.go:353", after := #[{ on := 7, ground := Go.Ground.data }], guard := none }, { dst := some 26, op := Go.Op.move (Go.Operand.tmp 0), type := 39, pos := "repom.go:353", after := #[], guard := none }, { dst := some 27, op := Go.Op.nilCheck (Go.Operand.tmp 26), type := 0, pos := "repom.go:353", after := #[{ on := 9, ground := Go.Ground.data }], guard := none }, { dst := some 28, op := Go.Op.fieldAddr 59 (Go.Operand.tmp 27) 3, type := 0, pos := "repom.go:353", after := #[{ on := 10, ground := Go.Ground.data }], guard := none }, { dst := some 29, op := Go.Op.load 54 (Go.Operand.tmp 28), type := 54, pos := "repom.go:353", after := #[{ on := 11, ground := Go.Ground.data }], guard := none }, { dst := some 30, op := Go.Op.call { callee := Go.Callee.value (Go.Operand.func 161), args := #[Go.Operand.tmp 21, Go.Operand.tmp 25, Go.Operand.tmp 29], argTypes := #[55, 56, 54] }, type := 55, pos := "repom.go:353", after := #[{ on := 4, ground := Go.Ground.data }, { on := 8, ground := Go.Ground.data }, { on := 12, ground := Go.Ground.data }], guard := none }, { dst := some 31, op := Go.Op.nilCheck (Go.Operand.tmp 17), type := 0, pos := "repom.go:353", after := #[{ on := 0, ground := Go.Ground.data }, { on := 0, ground := Go.Ground.phase }, { on := 1, ground := Go.Ground.phase }, { on := 2, ground := Go.Ground.phase }, { on := 3, ground := Go.Ground.phase }, { on := 4, ground := Go.Ground.phase }, { on := 5, ground := Go.Ground.phase }, { on := 6, ground := Go.Ground.phase }, { on := 7, ground := Go.Ground.phase }, { on := 8, ground := Go.Ground.phase }, { on := 9, ground := Go.Ground.phase }, { on := 10, ground := Go.Ground.phase }, { on := 11, ground := Go.Ground.phase }, { on := 12, ground := Go.Ground.phase }, { on := 13, ground := Go.Ground.phase }], guard := none }, { dst := some 32, op := Go.Op.fieldAddr 59 (Go.Operand.tmp 31) 0, type := 0, pos := "repom.go:353", after := #[{ on := 14, ground := Go.Ground.data }, { on := 0, ground := Go.Ground.phase }, { on := 1, ground := Go.Ground.phase }, { on := 2, ground := Go.Ground.phase }, { on := 3, ground := Go.Ground.phase }, { on := 4, ground := Go.Ground.phase }, { on := 5, ground := Go.Ground.phase }, { on := 6, ground := Go.Ground.phase }, { on := 7, ground := Go.Ground.phase }, { on := 8, ground := Go.Ground.phase }, { on := 9, ground := Go.Ground.phase }, { on := 10, ground := Go.Ground.phase }, { on := 11, ground := Go.Ground.phase }, { on := 12, ground := Go.Ground.phase }, { on := 13, ground := Go.Ground.phase }], guard := none }, { dst := none, op := Go.Op.store 55 (Go.Operand.tmp 32) (Go.Operand.tmp 30), type := 0, pos := "repom.go:353", after := #[{ on := 15, ground := Go.Ground.data }, { on := 13, ground := Go.Ground.data }, { on := 13, ground := Go.Ground.chain }, { on := 0, ground := Go.Ground.phase }, { on := 1, ground := Go.Ground.phase }, { on := 2, ground := Go.Ground.phase }, { on := 3, ground := Go.Ground.phase }, { on := 4, ground := Go.Ground.phase }, { on := 5, ground := Go.Ground.phase }, { on := 6, ground := Go.Ground.phase }, { on := 7, ground := Go.Ground.phase }, { on := 8, ground := Go.Ground.phase }, { on := 9, ground := Go.Ground.phase }, { on := 10, ground := Go.Ground.phase }, { on := 11, ground := Go.Ground.phase }, { on := 12, ground := Go.Ground.phase }, { on := 13, ground := Go.Ground.phase }], guard := none }]
def op_68_4 : Array Go.Oper := #[{ dst := some 33, op := Go.Op.move (Go.Operand.tmp 0), type := 39, pos := "repom.go:354", after := #[], guard := none }, { dst := some 34, op := Go.Op.nilCheck (Go.Operand.tmp 33), type := 0, pos := "repom.go:354", after := #[{ on := 0, ground := Go.Ground.data }], guard := none }, { dst := some 35, op := Go.Op.fieldAddr 59 (Go.Operand.tmp 34) 0, type := 0, pos := "repom.go:354", after := #[{ on := 1, ground := Go.Ground.data }], guard := none }, { dst := some 36, op := Go.Op.load 55 (Go.Operand.tmp 35), type := 55, pos := "repom.go:354", after := #[{ on := 2, ground := Go.Ground.data }], guard := none }, { dst := some 37, op := Go.Op.move (Go.Operand.tmp 0), type := 39, pos := "repom.go:354", after := #[], guard := none }, { dst := some 38, op := Go.Op.nilCheck (Go.Operand.tmp 37), type := 0, pos := "repom.go:354", after := #[{ on := 4, ground := Go.Ground.data }], guard := none }, { dst := some 39, op := Go.Op.fieldAddr 59 (Go.Operand.tmp 38) 4, type := 0, pos := "repom.go:354", after := #[{ on := 5, ground := Go.Ground.data }], guard := none }, { dst := some 40, op := Go.Op.load 57 (Go.Operand.tmp 39), type := 57, pos := "repom.go:354", after := #[{ on := 6, ground := Go.Ground.data }], guard := none }, { dst := some 41, op := Go.Op.call { callee := Go.Callee.value (Go.Operand.func 162), args := #[Go.Operand.tmp 36, Go.Operand.tmp 40], argTypes := #[55, 57] }, type := 3, pos := "repom.go:354", after := #[{ on := 3, ground := Go.Ground.data }, { on := 7, ground := Go.Ground.data }], guard := none }, { dst := some 4, op := Go.Op.assign (Go.Operand.tmp 41), type := 3, pos := "repom.go:354", after := #[{ on := 8, ground := Go.Ground.data }, { on := 8, ground := Go.Ground.chain }, { on := 0, ground := Go.Ground.phase }, { on := 1, ground := Go.Ground.phase }, { on := 2, ground := Go.Ground.phase }, { on := 3, ground := Go.Ground.phase }, { on := 4, ground := Go.Ground.phase }, { on := 5, ground := Go.Ground.phase }, { on := 6, ground := Go.Ground.phase }, { on := 7, ground := Go.Ground.phase }, { on := 8, ground := Go.Ground.phase }], guard := none }]
theorem sb_68_3_0 : softB op_68_3 #[true, true, true, true, true, true, true, true, true, true, true, true, true, false, true, true, false] (Array.replicate 17 false) 0 = true := by kernel_rfl
theorem sb_68_3_1 : softB op_68_3 #[true, true, true, true, true, true, true, true, true, true, true, true, true, false, true, true, false] ((Array.replicate 17 false).setIfInBounds 0 true) 1 = true := by kernel_rfl
theorem sb_68_3_2 : softB op_68_3 #[true, true, true, true, true, true, true, true, true, true, true, true, true, false, true, true, false] (((Array.replicate 17 false).setIfInBounds 0 true).setIfInBounds 1 true) 2 = true := by kernel_rfl
theorem sb_68_3_3 : softB op_68_3 #[true, true, true, true, true, true, true, true, true, true, true, true, true, false, true, true, false] ((((Array.replicate 17 false).setIfInBounds 0 true).setIfInBounds 1 true).setIfInBounds 2 true) 3 = true := by kernel_rfl
theorem sb_68_3_4 : softB op_68_3 #[true, true, true, true, true, true, true, true, true, true, true, true, true, false, true, true, false] (((((Array.replicate 17 false).setIfInBounds 0 true).setIfInBounds 1 true).setIfInBounds 2 true).setIfInBounds 3 true) 4 = true := by kernel_rfl
theorem sb_68_3_5 : softB op_68_3 #[true, true, true, true, true, true, true, true, true, true, true, true, true, false, true, true, false] ((((((Array.replicate 17 false).setIfInBounds 0 true).setIfInBounds 1 true).setIfInBounds 2 true).setIfInBounds 3 true).setIfInBounds 4 true) 5 = true := by kernel_rfl
theorem sb_68_3_6 : softB op_68_3 #[true, true, true, true, true, true, true, true, true, true, true, true, true, false, true, true, false] (((((((Array.replicate 17 false).setIfInBounds 0 true).setIfInBounds 1 true).setIfInBounds 2 true).setIfInBounds 3 true).setIfInBounds 4 true).setIfInBounds 5 true) 6 = true := by kernel_rfl
theorem sb_68_3_7 : softB op_68_3 #[true, true, true, true, true, true, true, true, true, true, true, true, true, false, true, true, false] ((((((((Array.replicate 17 false).setIfInBounds 0 true).setIfInBounds 1 true).setIfInBounds 2 true).setIfInBounds 3 true).setIfInBounds 4 true).setIfInBounds 5 true).setIfInBounds 6 true) 7 = true := by kernel_rfl
theorem sb_68_3_8 : softB op_68_3 #[true, true, true, true, true, true, true, true, true, true, true, true, true, false, true, true, false] (((((((((Array.replicate 17 false).setIfInBounds 0 true).setIfInBounds 1 true).setIfInBounds 2 true).setIfInBounds 3 true).setIfInBounds 4 true).setIfInBounds 5 true).setIfInBounds 6 true).setIfInBounds 7 true) 8 = true := by kernel_rfl
theorem sb_68_3_9 : softB op_68_3 #[true, true, true, true, true, true, true, true, true, true, true, true, true, false, true, true, false] ((((((((((Array.replicate 17 false).setIfInBounds 0 true).setIfInBounds 1 true).setIfInBounds 2 true).setIfInBounds 3 true).setIfInBounds 4 true).setIfInBounds 5 true).setIfInBounds 6 true).setIfInBounds 7 true).setIfInBounds 8 true) 9 = true := by kernel_rfl
theorem sb_68_3_10 : softB op_68_3 #[true, true, true, true, true, true, true, true, true, true, true, true, true, false, true, true, false] (((((((((((Array.replicate 17 false).setIfInBounds 0 true).setIfInBounds 1 true).setIfInBounds 2 true).setIfInBounds 3 true).setIfInBounds 4 true).setIfInBounds 5 true).setIfInBounds 6 true).setIfInBounds 7 true).setIfInBounds 8 true).setIfInBounds 9 true) 10 = true := by kernel_rfl
theorem sb_68_3_11 : softB op_68_3 #[true, true, true, true, true, true, true, true, true, true, true, true, true, false, true, true, false] ((((((((((((Array.replicate 17 false).setIfInBounds 0 true).setIfInBounds 1 true).setIfInBounds 2 true).setIfInBounds 3 true).setIfInBounds 4 true).setIfInBounds 5 true).setIfInBounds 6 true).setIfInBounds 7 true).setIfInBounds 8 true).setIfInBounds 9 true).setIfInBounds 10 true) 11 = true := by kernel_rfl
theorem sb_68_3_12 : softB op_68_3 #[true, true, true, true, true, true, true, true, true, true, true, true, true, false, true, true, false] (((((((((((((Array.replicate 17 false).setIfInBounds 0 true).setIfInBounds 1 true).setIfInBounds 2 true).setIfInBounds 3 true).setIfInBounds 4 true).setIfInBounds 5 true).setIfInBounds 6 true).setIfInBounds 7 true).setIfInBounds 8 true).setIfInBounds 9 true).setIfInBounds 10 true).setIfInBounds 11 true) 12 = true := by kernel_rfl
theorem sb_68_3_13 : hardB op_68_3 ((((((((((((((Array.replicate 17 false).setIfInBounds 0 true).setIfInBounds 1 true).setIfInBounds 2 true).setIfInBounds 3 true).setIfInBounds 4 true).setIfInBounds 5 true).setIfInBounds 6 true).setIfInBounds 7 true).setIfInBounds 8 true).setIfInBounds 9 true).setIfInBounds 10 true).setIfInBounds 11 true).setIfInBounds 12 true) [13] = true := by kernel_rfl
theorem sb_68_3_14 : softB op_68_3 #[true, true, true, true, true, true, true, true, true, true, true, true, true, false, true, true, false] (((((((((((((((Array.replicate 17 false).setIfInBounds 0 true).setIfInBounds 1 true).setIfInBounds 2 true).setIfInBounds 3 true).setIfInBounds 4 true).setIfInBounds 5 true).setIfInBounds 6 true).setIfInBounds 7 true).setIfInBounds 8 true).setIfInBounds 9 true).setIfInBounds 10 true).setIfInBounds 11 true).setIfInBounds 12 true).setIfInBounds 13 true) 14 = true := by kernel_rfl
theorem sb_68_3_15 : softB op_68_3 #[true, true, true, true, true, true, true, true, true, true, true, true, true, false, true, true, false] ((((((((((((((((Array.replicate 17 false).setIfInBounds 0 true).setIfInBounds 1 true).setIfInBounds 2 true).setIfInBounds 3 true).setIfInBounds 4 true).setIfInBounds 5 true).setIfInBounds 6 true).setIfInBounds 7 true).setIfInBounds 8 true).setIfInBounds 9 true).setIfInBounds 10 true).setIfInBounds 11 true).setIfInBounds 12 true).setIfInBounds 13 true).setIfInBounds 14 true) 15 = true := by kernel_rfl
theorem sb_68_3_16 : hardB op_68_3 (((((((((((((((((Array.replicate 17 false).setIfInBounds 0 true).setIfInBounds 1 true).setIfInBounds 2 true).setIfInBounds 3 true).setIfInBounds 4 true).setIfInBounds 5 true).setIfInBounds 6 true).setIfInBounds 7 true).setIfInBounds 8 true).setIfInBounds 9 true).setIfInBounds 10 true).setIfInBounds 11 true).setIfInBounds 12 true).setIfInBounds 13 true).setIfInBounds 14 true).setIfInBounds 15 true) [16] = true := by kernel_rfl
theorem sb_68_3_17 : hardB op_68_3 ((((((((((((((((((Array.replicate 17 false).setIfInBounds 0 true).setIfInBounds 1 true).setIfInBounds 2 true).setIfInBounds 3 true).setIfInBounds 4 true).setIfInBounds 5 true).setIfInBounds 6 true).setIfInBounds 7 true).setIfInBounds 8 true).setIfInBounds 9 true).setIfInBounds 10 true).setIfInBounds 11 true).setIfInBounds 12 true).setIfInBounds 13 true).setIfInBounds 14 true).setIfInBounds 15 true).setIfInBounds 16 true) [] = true := by kernel_rfl
theorem sb_68_4_0 : softB op_68_4 #[true, true, true, true, true, true, true, true, false, true] (Array.replicate 10 false) 0 = true := by kernel_rfl
theorem sb_68_4_1 : softB op_68_4 #[true, true, true, true, true, true, true, true, false, true] ((Array.replicate 10 false).setIfInBounds 0 true) 1 = true := by kernel_rfl
theorem sb_68_4_2 : softB op_68_4 #[true, true, true, true, true, true, true, true, false, true] (((Array.replicate 10 false).setIfInBounds 0 true).setIfInBounds 1 true) 2 = true := by kernel_rfl
theorem sb_68_4_3 : softB op_68_4 #[true, true, true, true, true, true, true, true, false, true] ((((Array.replicate 10 false).setIfInBounds 0 true).setIfInBounds 1 true).setIfInBounds 2 true) 3 = true := by kernel_rfl
theorem sb_68_4_4 : softB op_68_4 #[true, true, true, true, true, true, true, true, false, true] (((((Array.replicate 10 false).setIfInBounds 0 true).setIfInBounds 1 true).setIfInBounds 2 true).setIfInBounds 3 true) 4 = true := by kernel_rfl
theorem sb_68_4_5 : softB op_68_4 #[true, true, true, true, true, true, true, true, false, true] ((((((Array.replicate 10 false).setIfInBounds 0 true).setIfInBounds 1 true).setIfInBounds 2 true).setIfInBounds 3 true).setIfInBounds 4 true) 5 = true := by kernel_rfl
theorem sb_68_4_6 : softB op_68_4 #[true, true, true, true, true, true, true, true, false, true] (((((((Array.replicate 10 false).setIfInBounds 0 true).setIfInBounds 1 true).setIfInBounds 2 true).setIfInBounds 3 true).setIfInBounds 4 true).setIfInBounds 5 true) 6 = true := by kernel_rfl
theorem sb_68_4_7 : softB op_68_4 #[true, true, true, true, true, true, true, true, false, true] ((((((((Array.replicate 10 false).setIfInBounds 0 true).setIfInBounds 1 true).setIfInBounds 2 true).setIfInBounds 3 true).setIfInBounds 4 true).setIfInBounds 5 true).setIfInBounds 6 true) 7 = true := by kernel_rfl
theorem sb_68_4_8 : hardB op_68_4 (((((((((Array.replicate 10 false).setIfInBounds 0 true).setIfInBounds 1 true).setIfInBounds 2 true).setIfInBounds 3 true).setIfInBounds 4 true).setIfInBounds 5 true).setIfInBounds 6 true).setIfInBounds 7 true) [8] = true := by kernel_rfl
theorem sb_68_4_9 : softB op_68_4 #[true, true, true, true, true, true, true, true, false, true] ((((((((((Array.replicate 10 false).setIfInBounds 0 true).setIfInBounds 1 true).setIfInBounds 2 true).setIfInBounds 3 true).setIfInBounds 4 true).setIfInBounds 5 true).setIfInBounds 6 true).setIfInBounds 7 true).setIfInBounds 8 true) 9 = true := by kernel_rfl
theorem sb_68_4_10 : hardB op_68_4 (((((((((((Array.replicate 10 false).setIfInBounds 0 true).setIfInBounds 1 true).setIfInBounds 2 true).setIfInBounds 3 true).setIfInBounds 4 true).setIfInBounds 5 true).setIfInBounds 6 true).setIfInBounds 7 true).setIfInBounds 8 true).setIfInBounds 9 true) [] = true := by kernel_rfl
/- (*repom.Repo).Collect -/
def m68 (n : Nat) (m : RepoM) : Option (Int × Int × RepoM) :=
cond ((!m.lax) && (decide (m.room < 1))) (
some (0, 5, m)) (
ob1 (m161 n m.nodes m.refs m.head) fun l1 =>
nm ({ m with nodes := l1 } : RepoM) fun z1 =>
ob1 (m162 n z1.nodes z1.index) fun c1 =>
nm ({ z1 with room := (wi (48 - c1)) } : RepoM) fun z2 =>
some (c1, 0, z2))
theorem t68 {n : Nat} {C : List Chunk} {rc1 : Int} {rc2 : Int} {rz1 : RepoM} {b1 : Nat} {m : RepoM} {v1 : Value} {g1 : List Chunk} {v2 : Value} {g2 : List Chunk} {v3 : Value} {g3 : List Chunk} {v4 : Value} {g4 : List Chunk} (ho1 : Own rNode v1 m.nodes g1) (ho2 : Own rRef_ v2 m.refs g2) (ho3 : Own rFile v3 m.index g3) (ho4 : Own rFile v4 m.work g4)  (hm : m68 n m = some (rc1, rc2, rz1)) : Trip Tryz.prog 68 #[.pointer (some ⟨b1, 0, none⟩)] ([[(b1, .cells (RepoM.enc (v1) (v2) (v3) (v4) m).toArray 59 (0, 0))], g1, g2, g3, g4] ++ [C]) (fun u S' => ∃ (ev1 : Value), ∃ (eg1 : List Chunk), .tuple #[.int .i64 rc1, .int .i64 rc2] = u ∧ S' = [[(b1, .cells (RepoM.enc (ev1) (v2) (v3) (v4) rz1).toArray 59 (0, 0))], eg1, g2, g3, g4] ++ [C] ∧ Own rNode ev1 rz1.nodes eg1 ∧ Own rRef_ v2 rz1.refs g2 ∧ Own rFile v3 rz1.index g3 ∧ Own rFile v4 rz1.work g4) := by
  refine fn_entry (args := [.pointer (some ⟨b1, 0, none⟩)]) Tryz.func68 rfl Tryz.ntmps68 rfl (fun w0 => ?_)
  refine c_seq ?_
  refine c_region ?_
  refine o_L (y_assign rfl) rfl rfl ?_
  refine o_L (y_assign rfl) rfl rfl ?_
  refine o_nil0 rfl ?_
  refine c_seq ?_
  refine c_seq ?_
  refine c_joinP (n := 0) (fun sh G => sh = [(16, .bool ((!m.lax) && (decide (m.room < 1))))] ∧ G = []) Sel.all' .z (fun _ _ h => h) ?_ ?_
  · skip
    refine c_region ?_
    refine o_T (y_move rfl) rfl ?_
    refine o_T (y_nilck rfl) rfl ?_
    refine o_T (y_fa fl_59_7 rfl) rfl ?_
    refine o_ld one_4 rfl m0 (At.got (At.refl.comp RepoM.a_lax)) rfl ?_
    refine o_T (y_not rfl) rfl ?_
    refine o_T (y_move rfl) rfl ?_
    refine o_split 10 rfl (fun h1 => ?_) (fun h1 => ?_)
    · skip
      refine o_take rfl rfl rfl ?_
      refine o_T (y_move rfl) rfl ?_
      refine o_take rfl rfl rfl ?_
      refine o_T (y_nilck rfl) rfl ?_
      refine o_take rfl rfl rfl ?_
      refine o_T (y_fa fl_59_6 rfl) rfl ?_
      refine o_take rfl rfl rfl ?_
      refine o_ld one_3 rfl m0 (At.got (At.refl.comp RepoM.a_room)) rfl ?_
      refine o_take rfl rfl rfl ?_
      refine o_T (y_lss rfl rfl) rfl ?_
      refine o_T (y_pickT rfl rfl) rfl ?_
      refine o_nil1 16 rfl rfl ?_
      refine ⟨_, _, ⟨rfl, rfl⟩, ⟨by first | rfl | exact gtb rfl (by simp only [h1, Bool.true_and, Bool.false_and, Bool.true_or, Bool.false_or, Bool.and_true, Bool.and_false, Bool.or_true, Bool.or_false, Bool.not_true, Bool.not_false]), trivial⟩, ⟨rfl, rfl⟩, _, (s_take (s_take (s_take (s_take (s_take (s_take s_nil))))))⟩
    · skip
      refine o_pass rfl rfl rfl rfl rfl ?_
      refine o_pass rfl rfl rfl rfl rfl ?_
      refine o_pass rfl rfl rfl rfl rfl ?_
      refine o_pass rfl rfl rfl rfl rfl ?_
      refine o_pass rfl rfl rfl rfl rfl ?_
      refine o_T (y_pickF rfl rfl) rfl ?_
      refine o_nil1 16 rfl rfl ?_
      refine ⟨_, _, ⟨rfl, rfl⟩, ⟨by first | rfl | exact gtb rfl (by simp only [h1, Bool.true_and, Bool.false_and, Bool.true_or, Bool.false_or, Bool.and_true, Bool.and_false, Bool.or_true, Bool.or_false, Bool.not_true, Bool.not_false]), trivial⟩, ⟨rfl, rfl⟩, _, (s_take (s_take (s_take (s_take (s_take (s_take s_nil))))))⟩
  · rintro sh G ⟨rfl, rfl⟩
    refine c_cond rfl (fun h2 => ?_) (fun h2 => ?_)
    · have hm := cd_t h2 hm
      refine c_seq ?_
      refine c_region ?_
      refine o_L (y_assign rfl) rfl rfl ?_
      refine o_L (y_assign rfl) rfl rfl ?_
      refine o_nil0 rfl ?_
      refine c_ret ?_
      obtain ⟨rfl, rfl, rfl⟩ := pr3 hm
      refine fun aX wX heX hsX => ret2 Tryz.results68 heX rfl rfl (s_take (s_take (s_take (s_take (s_take (s_take s_nil)))))) ?_
      exact ⟨v1, _, rfl, rfl, ho1, ho2, ho3, ho4⟩
    · have hm := cd_f h2 hm
      refine c_skip ?_
      refine c_seq ?_
      refine c_draw #[true, true, true, true, true, true, true, true, true, true, true, true, true, false, true, true, false] rfl (n := 17) rfl ?_
      refine d_T 0 rfl sb_68_3_0 rfl (y_move rfl) rfl ?_
      refine d_T 1 rfl sb_68_3_1 rfl (y_move rfl) rfl ?_
      refine d_T 2 rfl sb_68_3_2 rfl (y_nilck rfl) rfl ?_
      refine d_T 3 rfl sb_68_3_3 rfl (y_fa fl_59_0 rfl) rfl ?_
      refine d_ld 4 rfl sb_68_3_4 one_55 rfl (fun x hx => hx) m0 (At.got (At.refl.comp RepoM.a_nodes)) rfl ?_
      refine d_T 5 rfl sb_68_3_5 rfl (y_move rfl) rfl ?_
      refine d_T 6 rfl sb_68_3_6 rfl (y_nilck rfl) rfl ?_
      refine d_T 7 rfl sb_68_3_7 rfl (y_fa fl_59_2 rfl) rfl ?_
      refine d_ld 8 rfl sb_68_3_8 one_56 rfl (fun x hx => hx) m0 (At.got (At.refl.comp RepoM.a_refs)) rfl ?_
      refine d_T 9 rfl sb_68_3_9 rfl (y_move rfl) rfl ?_
      refine d_T 10 rfl sb_68_3_10 rfl (y_nilck rfl) rfl ?_
      refine d_T 11 rfl sb_68_3_11 rfl (y_fa fl_59_3 rfl) rfl ?_
      refine d_lda 12 rfl sb_68_3_12 ag_54 rfl (fun x hx => hx) m0 (At.exs (At.refl.comp RepoM.a_head) (Head.len _)) (At.fits (At.refl.comp RepoM.a_head) (Head.len _)) rfl ?_
      refine d_hard 13 rfl sb_68_3_13 ?_
      obtain ⟨l1, hx1, hm⟩ := bd1 hm
      refine o_callC en_161 rfl s_nil (t161 (ho1.rd.mono (fun _ hz => (ms (mg hz)))) (ho2.rd.mono (fun _ hz => (ms (ms (mg hz))))) hx1) rfl (fun u1 S1 hR1 => ?_)
      obtain ⟨v5, g5, rfl, rfl, ho5⟩ := hR1
      refine o_rest ?_
      refine o_stop (fun h => nomatch h) ?_
      refine d_T 14 rfl sb_68_3_14 rfl (y_nilck rfl) rfl ?_
      refine d_T 15 rfl sb_68_3_15 rfl (y_fa fl_59_0 rfl) rfl ?_
      refine d_hard 16 rfl sb_68_3_16 ?_
      obtain ⟨z1, hn1, hm⟩ := nm_s hm
      have ho6 := ho5.to (l' := z1.nodes) (by subst hn1; rfl)
      have ho7 := ho2.to (l' := z1.refs) (by subst hn1; rfl)
      have ho8 := ho3.to (l' := z1.index) (by subst hn1; rfl)
      have ho9 := ho4.to (l' := z1.work) (by subst hn1; rfl)
      refine o_stN one_55 rfl rfl ho5.pl (Upd.z RepoM.u_nodes) (rs r0) (show (RepoM.enc (v5) (v2) (v3) (v4) z1) = _ from by subst hn1; rfl) ?_
      refine o_stop (fun h => nomatch h) ?_
      refine d_nil0 sb_68_3_17 rfl ?_
      refine c_seq ?_
      refine c_draw #[true, true, true, true, true, true, true, true, false, true] rfl (n := 10) rfl ?_
      refine d_T 0 rfl sb_68_4_0 rfl (y_move rfl) rfl ?_
      refine d_T 1 rfl sb_68_4_1 rfl (y_nilck rfl) rfl ?_
      refine d_T 2 rfl sb_68_4_2 rfl (y_fa fl_59_0 rfl) rfl ?_
      refine d_ld 3 rfl sb_68_4_3 one_55 rfl (fun x hx => hx) (ms m0) (At.got (At.refl.comp RepoM.a_nodes)) rfl ?_
      refine d_T 4 rfl sb_68_4_4 rfl (y_move rfl) rfl ?_
      refine d_T 5 rfl sb_68_4_5 rfl (y_nilck rfl) rfl ?_
      refine d_T 6 rfl sb_68_4_6 rfl (y_fa fl_59_4 rfl) rfl ?_
      refine d_ld 7 rfl sb_68_4_7 one_57 rfl (fun x hx => hx) (ms m0) (At.got (At.refl.comp RepoM.a_index)) rfl ?_
      refine d_hard 8 rfl sb_68_4_8 ?_
      obtain ⟨c1, hx2, hm⟩ := bd1 hm
      refine o_callC en_162 rfl s_nil (t162 (ho6.rd.mono (fun _ hz => (mg hz))) (ho8.rd.mono (fun _ hz => (ms (ms (ms (ms (mg hz))))))) hx2) rfl (fun u2 S2 hR2 => ?_)
      obtain ⟨rfl, rfl⟩ := hR2
      refine o_rest ?_
      refine o_stop (fun h => nomatch h) ?_
      refine d_L 9 rfl sb_68_4_9 rfl (y_assign rfl) rfl rfl ?_
      refine d_nil0 sb_68_4_10 rfl ?_
      refine c_seq ?_
      refine c_region ?_
      refine o_T (y_move rfl) rfl ?_
      refine o_T (y_move rfl) rfl ?_
      refine o_T (y_sub rfl rfl rfl) rfl ?_
      refine o_T (y_nilck rfl) rfl ?_
      refine o_T (y_fa fl_59_6 rfl) rfl ?_
      obtain ⟨z2, hn2, hm⟩ := nm_s hm
      have ho10 := ho6.to (l' := z2.nodes) (by subst hn2; rfl)
      have ho11 := ho7.to (l' := z2.refs) (by subst hn2; rfl)
      have ho12 := ho8.to (l' := z2.index) (by subst hn2; rfl)
      have ho13 := ho9.to (l' := z2.work) (by subst hn2; rfl)
      refine o_stN one_3 rfl rfl rfl (Upd.z RepoM.u_room) (rs r0) (show (RepoM.enc (v5) (v2) (v3) (v4) z2) = _ from by subst hn2; rfl) ?_
      refine o_nil0 rfl ?_
      refine c_seq ?_
      refine c_region ?_
      refine o_T (y_move rfl) rfl ?_
      refine o_L (y_assign rfl) rfl rfl ?_
      refine o_L (y_assign rfl) rfl rfl ?_
      refine o_nil0 rfl ?_
      refine c_ret ?_
      obtain ⟨rfl, rfl, rfl⟩ := pr3 hm
      refine fun aX wX heX hsX => ret2 Tryz.results68 heX rfl rfl (s_get (ks k0) (s_take (s_skip (s_take (s_take (s_take (s_take s_nil))))))) ?_
      exact ⟨v5, _, rfl, rfl, ho10, ho11, ho12, ho13⟩
end Go.Proofs.Qxb6500350aGreat
