/- MADE BY PROGRAM (tools350/mir.py): mirror and walk. -/
import Derived.Test.Qxb6500350aGreatF2
set_option linter.unusedVariables false
set_option linter.unusedSimpArgs false
set_option maxRecDepth 20000
set_option maxHeartbeats 4000000
namespace Go.Proofs.Qxb6500350aGreat
open Go.Eng

def op_318_0 : Array Go.Oper := #[{ dst := some 8, op := Go.Op.move (Go.Operand.tmp 0), type := 295, pos := "table.go:17", after := #[], guard := none }, { dst := some 9, op := Go.Op.nilCheck (Go.Operand.tmp 8), type := 0, pos := "table.go:17", after := #[{ on := 0, ground := Go.Ground.data }], guard := none }, { dst := some 10, op := Go.Op.fieldAddr 319 (Go.Operand.tmp 9) 1, type := 0, pos := "table.go:17", after := #[{ on := 1, ground := Go.Ground.data }], guard := none }, { dst := some 11, op := Go.Op.load 65 (Go.Operand.tmp 10), type := 65, pos := "table.go:17", after := #[{ on := 2, ground := Go.Ground.data }], guard := none }, { dst := some 12, op := Go.Op.move (Go.Operand.tmp 1), type := 3, pos := "table.go:17", after := #[], guard := none }, { dst := some 13, op := Go.Op.move (Go.Operand.tmp 0), type := 295, pos := "table.go:17", after := #[], guard := none }, { dst := some 14, op := Go.Op.nilCheck (Go.Operand.tmp 13), type := 0, pos := "table.go:17", after := #[{ on := 5, ground := Go.Ground.data }], guard := none }, { dst := some 15, op := Go.Op.fieldAddr 319 (Go.Operand.tmp 14) 0, type := 0, pos := "table.go:17", after := #[{ on := 6, ground := Go.Ground.data }], guard := none }, { dst := some 16, op := Go.Op.load 3 (Go.Operand.tmp 15), type := 3, pos := "table.go:17", after := #[{ on := 7, ground := Go.Ground.data }], guard := none }, { dst := some 17, op := Go.Op.binOp Go.BinOp.mul 3 (Go.Operand.tmp 12) (Go.Operand.tmp 16) 3, type := 3, pos := "table.go:17", after := #[{ on := 4, ground := Go.Ground.data }, { on := 8, ground := Go.Ground.data }], guard := none }, { dst := some 18, op := Go.Op.move (Go.Operand.tmp 2), type := 3, pos := "table.go:17", after := #[], guard := none }, { dst := some 19, op := Go.Op.binOp Go.BinOp.add 3 (Go.Operand.tmp 17) (Go.Operand.tmp 18) 3, type := 3, pos := "table.go:17", after := #[{ on := 9, ground := Go.Ground.data }, { on := 10, ground := Go.Ground.data }], guard := none }, { dst := some 20, op := Go.Op.move (Go.Operand.tmp 3), type := 3, pos := "table.go:17", after := #[], guard := none }, { dst := some 21, op := Go.Op.indexAddr 65 (Go.Operand.tmp 11) (Go.Operand.tmp 19), type := 0, pos := "table.go:17", after := #[{ on := 3, ground := Go.Ground.data }, { on := 11, ground := Go.Ground.data }, { on := 0, ground := Go.Ground.phase }, { on := 1, ground := Go.Ground.phase }, { on := 2, ground := Go.Ground.phase }, { on := 3, ground := Go.Ground.phase }, { on := 4, ground := Go.Ground.phase }, { on := 5, ground := Go.Ground.phase }, { on := 6, ground := Go.Ground.phase }, { on := 7, ground := Go.Ground.phase }, { on := 8, ground := Go.Ground.phase }, { on := 9, ground := Go.Ground.phase }, { on := 10, ground := Go.Ground.phase }, { on := 11, ground := Go.Ground.phase }, { on := 12, ground := Go.Ground.phase }], guard := none }, { dst := none, op := Go.Op.store 3 (Go.Operand.tmp 21) (Go.Operand.tmp 20), type := 0, pos := "table.go:17", after := #[{ on := 13, ground := Go.Ground.data }, { on := 12, ground := Go.Ground.data }, { on := 0, ground := Go.Ground.phase }, { on := 1, ground := Go.Ground.phase }, { on := 2, ground := Go.Ground.phase }, { on := 3, ground := Go.Ground.phase }, { on := 4, ground := Go.Ground.phase }, { on := 5, ground := Go.Ground.phase }, { on := 6, ground := Go.Ground.phase }, { on := 7, ground := Go.Ground.phase }, { on := 8, ground := Go.Ground.phase }, { on := 9, ground := Go.Ground.phase }, { on := 10, ground := Go.Ground.phase }, { on := 11, ground := Go.Ground.phase }, { on := 12, ground := Go.Ground.phase }], guard := none }]
theorem sb_318_0_0 : softB op_318_0 #[true, true, true, true, true, true, true, true, true, true, true, true, true, true, false] (Array.replicate 15 false) 0 = true := by kernel_rfl
theorem sb_318_0_1 : softB op_318_0 #[true, true, true, true, true, true, true, true, true, true, true, true, true, true, false] ((Array.replicate 15 false).setIfInBounds 0 true) 1 = true := by kernel_rfl
theorem sb_318_0_2 : softB op_318_0 #[true, true, true, true, true, true, true, true, true, true, true, true, true, true, false] (((Array.replicate 15 false).setIfInBounds 0 true).setIfInBounds 1 true) 2 = true := by kernel_rfl
theorem sb_318_0_3 : softB op_318_0 #[true, true, true, true, true, true, true, true, true, true, true, true, true, true, false] ((((Array.replicate 15 false).setIfInBounds 0 true).setIfInBounds 1 true).setIfInBounds 2 true) 3 = true := by kernel_rfl
theorem sb_318_0_4 : softB op_318_0 #[true, true, true, true, true, true, true, true, true, true, true, true, true, true, false] (((((Array.replicate 15 false).setIfInBounds 0 true).setIfInBounds 1 true).setIfInBounds 2 true).setIfInBounds 3 true) 4 = true := by kernel_rfl
theorem sb_318_0_5 : softB op_318_0 #[true, true, true, true, true, true, true, true, true, true, true, true, true, true, false] ((((((Array.replicate 15 false).setIfInBounds 0 true).setIfInBounds 1 true).setIfInBounds 2 true).setIfInBounds 3 true).setIfInBounds 4 true) 5 = true := by kernel_rfl
theorem sb_318_0_6 : softB op_318_0 #[true, true, true, true, true, true, true, true, true, true, true, true, true, true, false] (((((((Array.replicate 15 false).setIfInBounds 0 true).setIfInBounds 1 true).setIfInBounds 2 true).setIfInBounds 3 true).setIfInBounds 4 true).setIfInBounds 5 true) 6 = true := by kernel_rfl
theorem sb_318_0_7 : softB op_318_0 #[true, true, true, true, true, true, true, true, true, true, true, true, true, true, false] ((((((((Array.replicate 15 false).setIfInBounds 0 true).setIfInBounds 1 true).setIfInBounds 2 true).setIfInBounds 3 true).setIfInBounds 4 true).setIfInBounds 5 true).setIfInBounds 6 true) 7 = true := by kernel_rfl
theorem sb_318_0_8 : softB op_318_0 #[true, true, true, true, true, true, true, true, true, true, true, true, true, true, false] (((((((((Array.replicate 15 false).setIfInBounds 0 true).setIfInBounds 1 true).setIfInBounds 2 true).setIfInBounds 3 true).setIfInBounds 4 true).setIfInBounds 5 true).setIfInBounds 6 true).setIfInBounds 7 true) 8 = true := by kernel_rfl
theorem sb_318_0_9 : softB op_318_0 #[true, true, true, true, true, true, true, true, true, true, true, true, true, true, false] ((((((((((Array.replicate 15 false).setIfInBounds 0 true).setIfInBounds 1 true).setIfInBounds 2 true).setIfInBounds 3 true).setIfInBounds 4 true).setIfInBounds 5 true).setIfInBounds 6 true).setIfInBounds 7 true).setIfInBounds 8 true) 9 = true := by kernel_rfl
theorem sb_318_0_10 : softB op_318_0 #[true, true, true, true, true, true, true, true, true, true, true, true, true, true, false] (((((((((((Array.replicate 15 false).setIfInBounds 0 true).setIfInBounds 1 true).setIfInBounds 2 true).setIfInBounds 3 true).setIfInBounds 4 true).setIfInBounds 5 true).setIfInBounds 6 true).setIfInBounds 7 true).setIfInBounds 8 true).setIfInBounds 9 true) 10 = true := by kernel_rfl
theorem sb_318_0_11 : softB op_318_0 #[true, true, true, true, true, true, true, true, true, true, true, true, true, true, false] ((((((((((((Array.replicate 15 false).setIfInBounds 0 true).setIfInBounds 1 true).setIfInBounds 2 true).setIfInBounds 3 true).setIfInBounds 4 true).setIfInBounds 5 true).setIfInBounds 6 true).setIfInBounds 7 true).setIfInBounds 8 true).setIfInBounds 9 true).setIfInBounds 10 true) 11 = true := by kernel_rfl
theorem sb_318_0_12 : softB op_318_0 #[true, true, true, true, true, true, true, true, true, true, true, true, true, true, false] (((((((((((((Array.replicate 15 false).setIfInBounds 0 true).setIfInBounds 1 true).setIfInBounds 2 true).setIfInBounds 3 true).setIfInBounds 4 true).setIfInBounds 5 true).setIfInBounds 6 true).setIfInBounds 7 true).setIfInBounds 8 true).setIfInBounds 9 true).setIfInBounds 10 true).setIfInBounds 11 true) 12 = true := by kernel_rfl
theorem sb_318_0_13 : softB op_318_0 #[true, true, true, true, true, true, true, true, true, true, true, true, true, true, false] ((((((((((((((Array.replicate 15 false).setIfInBounds 0 true).setIfInBounds 1 true).setIfInBounds 2 true).setIfInBounds 3 true).setIfInBounds 4 true).setIfInBounds 5 true).setIfInBounds 6 true).setIfInBounds 7 true).setIfInBounds 8 true).setIfInBounds 9 true).setIfInBounds 10 true).setIfInBounds 11 true).setIfInBounds 12 true) 13 = true := by kernel_rfl
theorem sb_318_0_14 : hardB op_318_0 (((((((((((((((Array.replicate 15 false).setIfInBounds 0 true).setIfInBounds 1 true).setIfInBounds 2 true).setIfInBounds 3 true).setIfInBounds 4 true).setIfInBounds 5 true).setIfInBounds 6 true).setIfInBounds 7 true).setIfInBounds 8 true).setIfInBounds 9 true).setIfInBounds 10 true).setIfInBounds 11 true).setIfInBounds 12 true).setIfInBounds 13 true) [14] = true := by kernel_rfl
theorem sb_318_0_15 : hardB op_318_0 ((((((((((((((((Array.replicate 15 false).setIfInBounds 0 true).setIfInBounds 1 true).setIfInBounds 2 true).setIfInBounds 3 true).setIfInBounds 4 true).setIfInBounds 5 true).setIfInBounds 6 true).setIfInBounds 7 true).setIfInBounds 8 true).setIfInBounds 9 true).setIfInBounds 10 true).setIfInBounds 11 true).setIfInBounds 12 true).setIfInBounds 13 true).setIfInBounds 14 true) [] = true := by kernel_rfl
/- (*diff.table).set -/
def m318 (n : Nat) (tb : Tabl) (i : Int) (j : Int) (v_ : Int) : Option (Tabl) :=
Option.bind (ckA (wi ((wi (i * tb.w)) + j)) (tb.flat.length : Int)) fun _ =>
Option.bind (stL tb.flat (wi ((wi (i * tb.w)) + j)) v_) fun l1 =>
nm ({ tb with flat := l1 } : Tabl) fun z1 =>
some z1
theorem t318 {n : Nat} {C : List Chunk} {rz1 : Tabl} {b1 : Nat} {tb : Tabl} {v1 : Value} {g1 : List Chunk} {i : Int} {j : Int} {v_ : Int} (ho1 : Own rInt v1 tb.flat g1)  (hm : m318 n tb i j v_ = some rz1) : Trip Tryz.prog 318 #[.pointer (some ⟨b1, 0, none⟩), .int .i64 i, .int .i64 j, .int .i64 v_] ([[(b1, .cells (Tabl.enc (v1) tb).toArray 319 (0, 0))], g1] ++ [C]) (fun u S' => ∃ (ev1 : Value), ∃ (eg1 : List Chunk), .tuple #[] = u ∧ S' = [[(b1, .cells (Tabl.enc (ev1) rz1).toArray 319 (0, 0))], eg1] ++ [C] ∧ Own rInt ev1 rz1.flat eg1) := by
  refine fn_entry (args := [.pointer (some ⟨b1, 0, none⟩), .int .i64 i, .int .i64 j, .int .i64 v_]) Tryz.func318 rfl Tryz.ntmps318 rfl (fun w0 => ?_)
  refine c_draw #[true, true, true, true, true, true, true, true, true, true, true, true, true, true, false] rfl (n := 15) rfl ?_
  refine d_T 0 rfl sb_318_0_0 rfl (y_move rfl) rfl ?_
  refine d_T 1 rfl sb_318_0_1 rfl (y_nilck rfl) rfl ?_
  refine d_T 2 rfl sb_318_0_2 rfl (y_fa fl_319_1 rfl) rfl ?_
  refine d_ld 3 rfl sb_318_0_3 one_65 rfl (fun x hx => hx) m0 (At.got (At.refl.comp Tabl.a_flat)) rfl ?_
  refine d_T 4 rfl sb_318_0_4 rfl (y_move rfl) rfl ?_
  refine d_T 5 rfl sb_318_0_5 rfl (y_move rfl) rfl ?_
  refine d_T 6 rfl sb_318_0_6 rfl (y_nilck rfl) rfl ?_
  refine d_T 7 rfl sb_318_0_7 rfl (y_fa fl_319_0 rfl) rfl ?_
  refine d_ld 8 rfl sb_318_0_8 one_3 rfl (fun x hx => hx) m0 (At.got (At.refl.comp Tabl.a_w)) rfl ?_
  refine d_T 9 rfl sb_318_0_9 rfl (y_mul rfl rfl rfl) rfl ?_
  refine d_T 10 rfl sb_318_0_10 rfl (y_move rfl) rfl ?_
  refine d_T 11 rfl sb_318_0_11 rfl (y_add rfl rfl rfl) rfl ?_
  refine d_T 12 rfl sb_318_0_12 rfl (y_move rfl) rfl ?_
  obtain ⟨_, hi1, hm⟩ := bd hm
  have hi1 := ckA_some hi1
  obtain ⟨b2, cp1, hv1, hy1⟩ := ho1.ix hi1
  refine d_T 13 rfl sb_318_0_13 rfl (hy1 sl_65 rfl rfl rfl) rfl ?_
  refine d_hard 14 rfl sb_318_0_14 ?_
  obtain ⟨l1, hx2, hm⟩ := bd hm
  refine o_stO1 one_3 rfl rfl rfl rfl ho1 hv1 hx2 (fun _ => (qs q0)) (fun g2 ho2 => ?_)
  obtain ⟨z1, hn1, hm⟩ := nm_s hm
  have ho3 := ho2.to (l' := z1.flat) (by subst hn1; rfl)
  refine o_row' (g' := [(b1, Obj.cells (Tabl.enc (v1) z1).toArray 319 (0, 0))]) q0 (by subst hn1; rfl) ?_
  refine o_stop (fun h => nomatch h) ?_
  refine d_nil0 sb_318_0_15 rfl ?_
  obtain rfl := p1 hm
  refine fun aX wX heX hsX => ret0 Tryz.results318 (s_take (s_take (s_take s_nil))) ?_
  exact ⟨v1, _, rfl, rfl, ho3⟩
end Go.Proofs.Qxb6500350aGreat
