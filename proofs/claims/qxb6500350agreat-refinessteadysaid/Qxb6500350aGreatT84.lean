/- MADE BY PROGRAM (tools350/mir.py): mirror and walk. -/
import Derived.Test.Qxb6500350aGreatF2
import Derived.Test.Qxb6500350aGreatT133
import Derived.Test.Qxb6500350aGreatT180
set_option linter.unusedVariables false
set_option linter.unusedSimpArgs false
set_option maxRecDepth 20000
set_option maxHeartbeats 4000000
namespace Go.Proofs.Qxb6500350aGreat
open Go.Eng

def op_84_2 : Array Go.Oper := #[{ dst := some 6, op := Go.Op.move (Go.Operand.tmp 3), type := 57, pos := "repom.go:368", after := #[], guard := none }, { dst := some 7, op := Go.Op.move (Go.Operand.tmp 0), type := 39, pos := "repom.go:368", after := #[], guard := none }, { dst := some 8, op := Go.Op.nilCheck (Go.Operand.tmp 7), type := 0, pos := "repom.go:368", after := #[{ on := 1, ground := Go.Ground.data }], guard := none }, { dst := some 9, op := Go.Op.fieldAddr 59 (Go.Operand.tmp 8) 4, type := 0, pos := "repom.go:368", after := #[{ on := 2, ground := Go.Ground.data }], guard := none }, { dst := some 10, op := Go.Op.load 57 (Go.Operand.tmp 9), type := 57, pos := "repom.go:368", after := #[{ on := 3, ground := Go.Ground.data }], guard := none }, { dst := some 11, op := Go.Op.move (Go.Operand.tmp 0), type := 39, pos := "repom.go:368", after := #[], guard := none }, { dst := some 12, op := Go.Op.nilCheck (Go.Operand.tmp 11), type := 0, pos := "repom.go:368", after := #[{ on := 5, ground := Go.Ground.data }], guard := none }, { dst := some 13, op := Go.Op.fieldAddr 59 (Go.Operand.tmp 12) 5, type := 0, pos := "repom.go:368", after := #[{ on := 6, ground := Go.Ground.data }], guard := none }, { dst := some 14, op := Go.Op.load 57 (Go.Operand.tmp 13), type := 57, pos := "repom.go:368", after := #[{ on := 7, ground := Go.Ground.data }], guard := none }, { dst := some 15, op := Go.Op.call { callee := Go.Callee.value (Go.Operand.func 180), args := #[Go.Operand.tmp 6, Go.Operand.tmp 10, Go.Operand.tmp 14], argTypes := #[57, 57, 57] }, type := 99, pos := "repom.go:368", after := #[{ on := 0, ground := Go.Ground.data }, { on := 4, ground := Go.Ground.data }, { on := 8, ground := Go.Ground.data }], guard := none }, { dst := some 2, op := Go.Op.assign (Go.Operand.tmp 15), type := 99, pos := "repom.go:368", after := #[{ on := 9, ground := Go.Ground.data }, { on := 9, ground := Go.Ground.chain }, { on := 0, ground := Go.Ground.phase }, { on := 1, ground := Go.Ground.phase }, { on := 2, ground := Go.Ground.phase }, { on := 3, ground := Go.Ground.phase }, { on := 4, ground := Go.Ground.phase }, { on := 5, ground := Go.Ground.phase }, { on := 6, ground := Go.Ground.phase }, { on := 7, ground := Go.Ground.phase }, { on := 8, ground := Go.Ground.phase }, { on := 9, ground := Go.Ground.phase }], guard := none }]
theorem sb_84_2_0 : softB op_84_2 #[true, true, true, true, true, true, true, true, true, false, true] (Array.replicate 11 false) 0 = true := by kernel_rfl
theorem sb_84_2_1 : softB op_84_2 #[true, true, true, true, true, true, true, true, true, false, true] ((Array.replicate 11 false).setIfInBounds 0 true) 1 = true := by kernel_rfl
theorem sb_84_2_2 : softB op_84_2 #[true, true, true, true, true, true, true, true, true, false, true] (((Array.replicate 11 false).setIfInBounds 0 true).setIfInBounds 1 true) 2 = true := by kernel_rfl
theorem sb_84_2_3 : softB op_84_2 #[true, true, true, true, true, true, true, true, true, false, true] ((((Array.replicate 11 false).setIfInBounds 0 true).setIfInBounds 1 true).setIfInBounds 2 true) 3 = true := by kernel_rfl
theorem sb_84_2_4 : softB op_84_2 #[true, true, true, true, true, true, true, true, true, false, true] (((((Array.replicate 11 false).setIfInBounds 0 true).setIfInBounds 1 true).setIfInBounds 2 true).setIfInBounds 3 true) 4 = true := by kernel_rfl
theorem sb_84_2_5 : softB op_84_2 #[true, true, true, true, true, true, true, true, true, false, true] ((((((Array.replicate 11 false).setIfInBounds 0 true).setIfInBounds 1 true).setIfInBounds 2 true).setIfInBounds 3 true).setIfInBounds 4 true) 5 = true := by kernel_rfl
theorem sb_84_2_6 : softB op_84_2 #[true, true, true, true, true, true, true, true, true, false, true] (((((((Array.replicate 11 false).setIfInBounds 0 true).setIfInBounds 1 true).setIfInBounds 2 true).setIfInBounds 3 true).setIfInBounds 4 true).setIfInBounds 5 true) 6 = true := by kernel_rfl
theorem sb_84_2_7 : softB op_84_2 #[true, true, true, true, true, true, true, true, true, false, true] ((((((((Array.replicate 11 false).setIfInBounds 0 true).setIfInBounds 1 true).setIfInBounds 2 true).setIfInBounds 3 true).setIfInBounds 4 true).setIfInBounds 5 true).setIfInBounds 6 true) 7 = true := by kernel_rfl
theorem sb_84_2_8 : softB op_84_2 #[true, true, true, true, true, true, true, true, true, false, true] (((((((((Array.replicate 11 false).setIfInBounds 0 true).setIfInBounds 1 true).setIfInBounds 2 true).setIfInBounds 3 true).setIfInBounds 4 true).setIfInBounds 5 true).setIfInBounds 6 true).setIfInBounds 7 true) 8 = true := by kernel_rfl
theorem sb_84_2_9 : hardB op_84_2 ((((((((((Array.replicate 11 false).setIfInBounds 0 true).setIfInBounds 1 true).setIfInBounds 2 true).setIfInBounds 3 true).setIfInBounds 4 true).setIfInBounds 5 true).setIfInBounds 6 true).setIfInBounds 7 true).setIfInBounds 8 true) [9] = true := by kernel_rfl
theorem sb_84_2_10 : softB op_84_2 #[true, true, true, true, true, true, true, true, true, false, true] (((((((((((Array.replicate 11 false).setIfInBounds 0 true).setIfInBounds 1 true).setIfInBounds 2 true).setIfInBounds 3 true).setIfInBounds 4 true).setIfInBounds 5 true).setIfInBounds 6 true).setIfInBounds 7 true).setIfInBounds 8 true).setIfInBounds 9 true) 10 = true := by kernel_rfl
theorem sb_84_2_11 : hardB op_84_2 ((((((((((((Array.replicate 11 false).setIfInBounds 0 true).setIfInBounds 1 true).setIfInBounds 2 true).setIfInBounds 3 true).setIfInBounds 4 true).setIfInBounds 5 true).setIfInBounds 6 true).setIfInBounds 7 true).setIfInBounds 8 true).setIfInBounds 9 true).setIfInBounds 10 true) [] = true := by kernel_rfl
/- (*repom.Repo).Status -/
def m84 (n : Nat) (m : RepoM) : Option ((List Chg)) :=
ob1 (m133 n m) fun l1 =>
ob1 (m180 n l1 m.index m.work) fun l2 =>
some l2
theorem t84 {n : Nat} {C : List Chunk} {rl1 : List Chg} {b1 : Nat} {m : RepoM} {v1 : Value} {g1 : List Chunk} {v2 : Value} {g2 : List Chunk} {v3 : Value} {g3 : List Chunk} {v4 : Value} {g4 : List Chunk} (ho1 : Own rNode v1 m.nodes g1) (ho2 : Own rRef_ v2 m.refs g2) (ho3 : Own rFile v3 m.index g3) (ho4 : Own rFile v4 m.work g4)  (hm : m84 n m = some rl1) : Trip Tryz.prog 84 #[.pointer (some ⟨b1, 0, none⟩)] ([[(b1, .cells (RepoM.enc (v1) (v2) (v3) (v4) m).toArray 59 (0, 0))], g1, g2, g3, g4] ++ [C]) (fun u S' => ∃ (ev1 : Value), ∃ (eg1 : List Chunk), ev1 = u ∧ S' = [[(b1, .cells (RepoM.enc (v1) (v2) (v3) (v4) m).toArray 59 (0, 0))], g1, g2, g3, g4, eg1] ++ [C] ∧ Own rChg ev1 rl1 eg1) := by
  refine fn_entry (args := [.pointer (some ⟨b1, 0, none⟩)]) Tryz.func84 rfl Tryz.ntmps84 rfl (fun w0 => ?_)
  refine c_seq ?_
  refine c_region ?_
  have ho5 : Own rChg (.slice none 0 0) [] [] := Own.nil
  refine o_emp ?_
  refine o_L (y_assign rfl) rfl rfl ?_
  refine o_nil0 rfl ?_
  refine c_seq ?_
  refine c_region ?_
  refine o_T (y_move rfl) rfl ?_
  obtain ⟨l1, hx1, hm⟩ := bd1 hm
  refine o_callC en_133 rfl (s_skip (s_take (s_take (s_take (s_take (s_take s_nil)))))) (t133 ho1 ho2 ho3 ho4 hx1) rfl (fun u1 S1 hR1 => ?_)
  obtain ⟨v5, rfl, rfl, hr1⟩ := hR1
  refine o_rest ?_
  refine o_L (y_assign rfl) rfl rfl ?_
  refine o_nil0 rfl ?_
  refine c_seq ?_
  refine c_draw #[true, true, true, true, true, true, true, true, true, false, true] rfl (n := 11) rfl ?_
  refine d_T 0 rfl sb_84_2_0 rfl (y_move rfl) rfl ?_
  refine d_T 1 rfl sb_84_2_1 rfl (y_move rfl) rfl ?_
  refine d_T 2 rfl sb_84_2_2 rfl (y_nilck rfl) rfl ?_
  refine d_T 3 rfl sb_84_2_3 rfl (y_fa fl_59_4 rfl) rfl ?_
  refine d_ld 4 rfl sb_84_2_4 one_57 rfl (fun x hx => hx) m0 (At.got (At.refl.comp RepoM.a_index)) rfl ?_
  refine d_T 5 rfl sb_84_2_5 rfl (y_move rfl) rfl ?_
  refine d_T 6 rfl sb_84_2_6 rfl (y_nilck rfl) rfl ?_
  refine d_T 7 rfl sb_84_2_7 rfl (y_fa fl_59_5 rfl) rfl ?_
  refine d_ld 8 rfl sb_84_2_8 one_57 rfl (fun x hx => hx) m0 (At.got (At.refl.comp RepoM.a_work)) rfl ?_
  refine d_hard 9 rfl sb_84_2_9 ?_
  obtain ⟨l2, hx2, hm⟩ := bd1 hm
  refine o_callC en_180 rfl s_nil (t180 (hr1.mono (fun _ hz => (ms (mg hz)))) (ho3.rd.mono (fun _ hz => (ms (ms (ms (mg hz)))))) (ho4.rd.mono (fun _ hz => (ms (ms (ms (ms (mg hz))))))) hx2) rfl (fun u2 S2 hR2 => ?_)
  obtain ⟨v6, g5, rfl, rfl, ho6⟩ := hR2
  refine o_rest ?_
  refine o_stop (fun h => nomatch h) ?_
  refine d_L 10 rfl sb_84_2_10 rfl (y_assign rfl) rfl rfl ?_
  refine d_nil0 sb_84_2_11 rfl ?_
  refine c_ret ?_
  obtain rfl := p1 hm
  refine fun aX wX heX hsX => ret1 Tryz.results84 heX rfl (s_get (ks k0) (s_get (ks k0) (s_get (ks k0) (s_get (ks k0) (s_get (ks k0) (s_take (s_skip (s_take s_nil)))))))) ?_
  exact ⟨v6, _, rfl, rfl, ho6⟩
end Go.Proofs.Qxb6500350aGreat
