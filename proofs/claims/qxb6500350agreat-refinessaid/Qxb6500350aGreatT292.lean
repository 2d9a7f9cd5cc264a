/- MADE BY PROGRAM (tools350/mir.py): mirror and walk. -/
import Derived.Test.Qxb6500350aGreatF2
set_option linter.unusedVariables false
set_option linter.unusedSimpArgs false
set_option maxRecDepth 20000
set_option maxHeartbeats 4000000
namespace Go.Proofs.Qxb6500350aGreat
open Go.Eng

def op_292_1 : Array Go.Oper := #[{ dst := some 7, op := Go.Op.move (Go.Operand.tmp 0), type := 295, pos := "table.go:13", after := #[], guard := none }, { dst := some 8, op := Go.Op.nilCheck (Go.Operand.tmp 7), type := 0, pos := "table.go:13", after := #[{ on := 0, ground := Go.Ground.data }], guard := none }, { dst := some 9, op := Go.Op.fieldAddr 319 (Go.Operand.tmp 8) 1, type := 0, pos := "table.go:13", after := #[{ on := 1, ground := Go.Ground.data }], guard := none }, { dst := some 10, op := Go.Op.load 65 (Go.Operand.tmp 9), type := 65, pos := "table.go:13", after := #[{ on := 2, ground := Go.Ground.data }], guard := none }, { dst := some 11, op := Go.Op.move (Go.Operand.tmp 1), type := 3, pos := "table.go:13", after := #[], guard := none }, { dst := some 12, op := Go.Op.move (Go.Operand.tmp 0), type := 295, pos := "table.go:13", after := #[], guard := none }, { dst := some 13, op := Go.Op.nilCheck (Go.Operand.tmp 12), type := 0, pos := "table.go:13", after := #[{ on := 5, ground := Go.Ground.data }], guard := none }, { dst := some 14, op := Go.Op.fieldAddr 319 (Go.Operand.tmp 13) 0, type := 0, pos := "table.go:13", after := #[{ on := 6, ground := Go.Ground.data }], guard := none }, { dst := some 15, op := Go.Op.load 3 (Go.Operand.tmp 14), type := 3, pos := "table.go:13", after := #[{ on := 7, ground := Go.Ground.data }], guard := none }, { dst := some 16, op := Go.Op.binOp Go.BinOp.mul 3 (Go.Operand.tmp 11) (Go.Operand.tmp 15) 3, type := 3, pos := "table.go:13", after := #[{ on := 4, ground := Go.Ground.data }, { on := 8, ground := Go.Ground.data }], guard := none }, { dst := some 17, op := Go.Op.move (Go.Operand.tmp 2), type := 3, pos := "table.go:13", after := #[], guard := none }, { dst := some 18, op := Go.Op.binOp Go.BinOp.add 3 (Go.Operand.tmp 16) (Go.Operand.tmp 17) 3, type := 3, pos := "table.go:13", after := #[{ on := 9, ground := Go.Ground.data }, { on := 10, ground := Go.Ground.data }], guard := none }, { dst := some 19, op := Go.Op.indexAddr 65 (Go.Operand.tmp 10) (Go.Operand.tmp 18), type := 0, pos := "table.go:13", after := #[{ on := 3, ground := Go.Ground.data }, { on := 11, ground := Go.Ground.data }], guard := none }, { dst := some 20, op := Go.Op.load 3 (Go.Operand.tmp 19), type := 3, pos := "table.go:13", after := #[{ on := 12, ground := Go.Ground.data }], guard := none }, { dst := some 6, op := Go.Op.assign (Go.Operand.tmp 20), type := 3, pos := "table.go:13", after := #[{ on := 13, ground := Go.Ground.data }, { on := 0, ground := Go.Ground.phase }, { on := 1, ground := Go.Ground.phase }, { on := 2, ground := Go.Ground.phase }, { on := 3, ground := Go.Ground.phase }, { on := 4, ground := Go.Ground.phase }, { on := 5, ground := Go.Ground.phase }, { on := 6, ground := Go.Ground.phase }, { on := 7, ground := Go.Ground.phase }, { on := 8, ground := Go.Ground.phase }, { on := 9, ground := Go.Ground.phase }, { on := 10, ground := Go.Ground.phase }, { on := 11, ground := Go.Ground.phase }, { on := 12, ground := Go.Ground.phase }, { on := 13, ground := Go.Ground.phase }], guard := none }]
theorem sb_292_1_0 : softB op_292_1 #[true, true, true, true, true, true, true, true, true, true, true, true, true, true, true] (Array.replicate 15 false) 0 = true := by kernel_rfl
theorem sb_292_1_1 : softB op_292_1 #[true, true, true, true, true, true, true, true, true, true, true, true, true, true, true] ((Array.replicate 15 false).setIfInBounds 0 true) 1 = true := by kernel_rfl
theorem sb_292_1_2 : softB op_292_1 #[true, true, true, true, true, true, true, true, true, true, true, true, true, true, true] (((Array.replicate 15 false).setIfInBounds 0 true).setIfInBounds 1 true) 2 = true := by kernel_rfl
theorem sb_292_1_3 : softB op_292_1 #[true, true, true, true, true, true, true, true, true, true, true, true, true, true, true] ((((Array.replicate 15 false).setIfInBounds 0 true).setIfInBounds 1 true).setIfInBounds 2 true) 3 = true := by kernel_rfl
theorem sb_292_1_4 : softB op_292_1 #[true, true, true, true, true, true, true, true, true, true, true, true, true, true, true] (((((Array.replicate 15 false).setIfInBounds 0 true).setIfInBounds 1 true).setIfInBounds 2 true).setIfInBounds 3 true) 4 = true := by kernel_rfl
theorem sb_292_1_5 : softB op_292_1 #[true, true, true, true, true, true, true, true, true, true, true, true, true, true, true] ((((((Array.replicate 15 false).setIfInBounds 0 true).setIfInBounds 1 true).setIfInBounds 2 true).setIfInBounds 3 true).setIfInBounds 4 true) 5 = true := by kernel_rfl
theorem sb_292_1_6 : softB op_292_1 #[true, true, true, true, true, true, true, true, true, true, true, true, true, true, true] (((((((Array.replicate 15 false).setIfInBounds 0 true).setIfInBounds 1 true).setIfInBounds 2 true).setIfInBounds 3 true).setIfInBounds 4 true).setIfInBounds 5 true) 6 = true := by kernel_rfl
theorem sb_292_1_7 : softB op_292_1 #[true, true, true, true, true, true, true, true, true, true, true, true, true, true, true] ((((((((Array.replicate 15 false).setIfInBounds 0 true).setIfInBounds 1 true).setIfInBounds 2 true).setIfInBounds 3 true).setIfInBounds 4 true).setIfInBounds 5 true).setIfInBounds 6 true) 7 = true := by kernel_rfl
theorem sb_292_1_8 : softB op_292_1 #[true, true, true, true, true, true, true, true, true, true, true, true, true, true, true] (((((((((Array.replicate 15 false).setIfInBounds 0 true).setIfInBounds 1 true).setIfInBounds 2 true).setIfInBounds 3 true).setIfInBounds 4 true).setIfInBounds 5 true).setIfInBounds 6 true).setIfInBounds 7 true) 8 = true := by kernel_rfl
theorem sb_292_1_9 : softB op_292_1 #[true, true, true, true, true, true, true, true, true, true, true, true, true, true, true] ((((((((((Array.replicate 15 false).setIfInBounds 0 true).setIfInBounds 1 true).setIfInBounds 2 true).setIfInBounds 3 true).setIfInBounds 4 true).setIfInBounds 5 true).setIfInBounds 6 true).setIfInBounds 7 true).setIfInBounds 8 true) 9 = true := by kernel_rfl
theorem sb_292_1_10 : softB op_292_1 #[true, true, true, true, true, true, true, true, true, true, true, true, true, true, true] (((((((((((Array.replicate 15 false).setIfInBounds 0 true).setIfInBounds 1 true).setIfInBounds 2 true).setIfInBounds 3 true).setIfInBounds 4 true).setIfInBounds 5 true).setIfInBounds 6 true).setIfInBounds 7 true).setIfInBounds 8 true).setIfInBounds 9 true) 10 = true := by kernel_rfl
theorem sb_292_1_11 : softB op_292_1 #[true, true, true, true, true, true, true, true, true, true, true, true, true, true, true] ((((((((((((Array.replicate 15 false).setIfInBounds 0 true).setIfInBounds 1 true).setIfInBounds 2 true).setIfInBounds 3 true).setIfInBounds 4 true).setIfInBounds 5 true).setIfInBounds 6 true).setIfInBounds 7 true).setIfInBounds 8 true).setIfInBounds 9 true).setIfInBounds 10 true) 11 = true := by kernel_rfl
theorem sb_292_1_12 : softB op_292_1 #[true, true, true, true, true, true, true, true, true, true, true, true, true, true, true] (((((((((((((Array.replicate 15 false).setIfInBounds 0 true).setIfInBounds 1 true).setIfInBounds 2 true).setIfInBounds 3 true).setIfInBounds 4 true).setIfInBounds 5 true).setIfInBounds 6 true).setIfInBounds 7 true).setIfInBounds 8 true).setIfInBounds 9 true).setIfInBounds 10 true).setIfInBounds 11 true) 12 = true := by kernel_rfl
theorem sb_292_1_13 : softB op_292_1 #[true, true, true, true, true, true, true, true, true, true, true, true, true, true, true] ((((((((((((((Array.replicate 15 false).setIfInBounds 0 true).setIfInBounds 1 true).setIfInBounds 2 true).setIfInBounds 3 true).setIfInBounds 4 true).setIfInBounds 5 true).setIfInBounds 6 true).setIfInBounds 7 true).setIfInBounds 8 true).setIfInBounds 9 true).setIfInBounds 10 true).setIfInBounds 11 true).setIfInBounds 12 true) 13 = true := by kernel_rfl
theorem sb_292_1_14 : softB op_292_1 #[true, true, true, true, true, true, true, true, true, true, true, true, true, true, true] (((((((((((((((Array.replicate 15 false).setIfInBounds 0 true).setIfInBounds 1 true).setIfInBounds 2 true).setIfInBounds 3 true).setIfInBounds 4 true).setIfInBounds 5 true).setIfInBounds 6 true).setIfInBounds 7 true).setIfInBounds 8 true).setIfInBounds 9 true).setIfInBounds 10 true).setIfInBounds 11 true).setIfInBounds 12 true).setIfInBounds 13 true) 14 = true := by kernel_rfl
theorem sb_292_1_15 : hardB op_292_1 ((((((((((((((((Array.replicate 15 false).setIfInBounds 0 true).setIfInBounds 1 true).setIfInBounds 2 true).setIfInBounds 3 true).setIfInBounds 4 true).setIfInBounds 5 true).setIfInBounds 6 true).setIfInBounds 7 true).setIfInBounds 8 true).setIfInBounds 9 true).setIfInBounds 10 true).setIfInBounds 11 true).setIfInBounds 12 true).setIfInBounds 13 true).setIfInBounds 14 true) [] = true := by kernel_rfl
/- (*diff.table).at -/
def m292 (n : Nat) (tb : Tabl) (i : Int) (j : Int) : Option (Int) :=
Option.bind (ixL tb.flat (wi ((wi (i * tb.w)) + j))) fun x1 =>
some x1
theorem t292 {n : Nat} {C : List Chunk} {rc1 : Int} {b1 : Nat} {tb : Tabl} {v1 : Value} {g1 : List Chunk} {i : Int} {j : Int} (ho1 : Own rInt v1 tb.flat g1)  (hm : m292 n tb i j = some rc1) : Trip Tryz.prog 292 #[.pointer (some ⟨b1, 0, none⟩), .int .i64 i, .int .i64 j] ([[(b1, .cells (Tabl.enc (v1) tb).toArray 319 (0, 0))], g1] ++ [C]) (fun u S' => .int .i64 rc1 = u ∧ S' = [[(b1, .cells (Tabl.enc (v1) tb).toArray 319 (0, 0))], g1] ++ [C]) := by
  refine fn_entry (args := [.pointer (some ⟨b1, 0, none⟩), .int .i64 i, .int .i64 j]) Tryz.func292 rfl Tryz.ntmps292 rfl (fun w0 => ?_)
  refine c_seq ?_
  refine c_region ?_
  refine o_L (y_assign rfl) rfl rfl ?_
  refine o_nil0 rfl ?_
  refine c_seq ?_
  refine c_draw #[true, true, true, true, true, true, true, true, true, true, true, true, true, true, true] rfl (n := 15) rfl ?_
  refine d_T 0 rfl sb_292_1_0 rfl (y_move rfl) rfl ?_
  refine d_T 1 rfl sb_292_1_1 rfl (y_nilck rfl) rfl ?_
  refine d_T 2 rfl sb_292_1_2 rfl (y_fa fl_319_1 rfl) rfl ?_
  refine d_ld 3 rfl sb_292_1_3 one_65 rfl (fun x hx => hx) m0 (At.got (At.refl.comp Tabl.a_flat)) rfl ?_
  refine d_T 4 rfl sb_292_1_4 rfl (y_move rfl) rfl ?_
  refine d_T 5 rfl sb_292_1_5 rfl (y_move rfl) rfl ?_
  refine d_T 6 rfl sb_292_1_6 rfl (y_nilck rfl) rfl ?_
  refine d_T 7 rfl sb_292_1_7 rfl (y_fa fl_319_0 rfl) rfl ?_
  refine d_ld 8 rfl sb_292_1_8 one_3 rfl (fun x hx => hx) m0 (At.got (At.refl.comp Tabl.a_w)) rfl ?_
  refine d_T 9 rfl sb_292_1_9 rfl (y_mul rfl rfl rfl) rfl ?_
  refine d_T 10 rfl sb_292_1_10 rfl (y_move rfl) rfl ?_
  refine d_T 11 rfl sb_292_1_11 rfl (y_add rfl rfl rfl) rfl ?_
  obtain ⟨x1, hx1, hm⟩ := bd hm
  obtain ⟨b2, w1, cs1, y1, z1, vs1, hc1, ha1, hr1, hy1⟩ := ho1.rd.ix hx1
  obtain rfl : vs1 = (encI x1) := hr1
  refine d_T 12 rfl sb_292_1_12 rfl (hy1 sl_65 rfl rfl rfl) rfl ?_
  refine d_ld 13 rfl sb_292_1_13 one_3 rfl (fun x hx => hx) (ms (mg hc1)) (At.getA (ha1)) rfl ?_
  refine d_L 14 rfl sb_292_1_14 rfl (y_assign rfl) rfl rfl ?_
  refine d_nil0 sb_292_1_15 rfl ?_
  refine c_ret ?_
  obtain rfl := p1 hm
  refine fun aX wX heX hsX => ret1 Tryz.results292 heX rfl (s_take (s_take (s_take s_nil))) ?_
  exact ⟨rfl, rfl⟩
end Go.Proofs.Qxb6500350aGreat
