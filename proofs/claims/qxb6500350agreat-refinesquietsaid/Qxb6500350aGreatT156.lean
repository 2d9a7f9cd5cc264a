/- MADE BY PROGRAM (tools350/mir.py): mirror and walk. -/
import Derived.Test.Qxb6500350aGreatF2
import Derived.Test.Qxb6500350aGreatT133
import Derived.Test.Qxb6500350aGreatT96
set_option linter.unusedVariables false
set_option linter.unusedSimpArgs false
set_option maxRecDepth 20000
set_option maxHeartbeats 4000000
namespace Go.Proofs.Qxb6500350aGreat
open Go.Eng

def op_156_4 : Array Go.Oper := #[{ dst := some 13, op := Go.Op.move (Go.Operand.tmp 0), type := 39, pos := "repom.go:50", after := #[], guard := none }, { dst := some 14, op := Go.Op.nilCheck (Go.Operand.tmp 13), type := 0, pos := "repom.go:50", after := #[{ on := 0, ground := Go.Ground.data }], guard := none }, { dst := some 15, op := Go.Op.fieldAddr 59 (Go.Operand.tmp 14) 5, type := 0, pos := "repom.go:50", after := #[{ on := 1, ground := Go.Ground.data }], guard := none }, { dst := some 16, op := Go.Op.load 57 (Go.Operand.tmp 15), type := 57, pos := "repom.go:50", after := #[{ on := 2, ground := Go.Ground.data }], guard := none }, { dst := some 17, op := Go.Op.move (Go.Operand.tmp 0), type := 39, pos := "repom.go:50", after := #[], guard := none }, { dst := some 18, op := Go.Op.nilCheck (Go.Operand.tmp 17), type := 0, pos := "repom.go:50", after := #[{ on := 4, ground := Go.Ground.data }], guard := none }, { dst := some 19, op := Go.Op.fieldAddr 59 (Go.Operand.tmp 18) 4, type := 0, pos := "repom.go:50", after := #[{ on := 5, ground := Go.Ground.data }], guard := none }, { dst := some 20, op := Go.Op.load 57 (Go.Operand.tmp 19), type := 57, pos := "repom.go:50", after := #[{ on := 6, ground := Go.Ground.data }], guard := none }, { dst := some 21, op := Go.Op.call { callee := Go.Callee.value (Go.Operand.func 96), args := #[Go.Operand.tmp 16, Go.Operand.tmp 20], argTypes := #[57, 57] }, type := 4, pos := "repom.go:50", after := #[{ on := 3, ground := Go.Ground.data }, { on := 7, ground := Go.Ground.data }], guard := none }, { dst := some 2, op := Go.Op.assign (Go.Operand.tmp 21), type := 4, pos := "repom.go:50", after := #[{ on := 8, ground := Go.Ground.data }, { on := 8, ground := Go.Ground.chain }, { on := 0, ground := Go.Ground.phase }, { on := 1, ground := Go.Ground.phase }, { on := 2, ground := Go.Ground.phase }, { on := 3, ground := Go.Ground.phase }, { on := 4, ground := Go.Ground.phase }, { on := 5, ground := Go.Ground.phase }, { on := 6, ground := Go.Ground.phase }, { on := 7, ground := Go.Ground.phase }, { on := 8, ground := Go.Ground.phase }], guard := none }]
theorem sb_156_4_0 : softB op_156_4 #[true, true, true, true, true, true, true, true, false, true] (Array.replicate 10 false) 0 = true := by kernel_rfl
theorem sb_156_4_1 : softB op_156_4 #[true, true, true, true, true, true, true, true, false, true] ((Array.replicate 10 false).setIfInBounds 0 true) 1 = true := by kernel_rfl
theorem sb_156_4_2 : softB op_156_4 #[true, true, true, true, true, true, true, true, false, true] (((Array.replicate 10 false).setIfInBounds 0 true).setIfInBounds 1 true) 2 = true := by kernel_rfl
theorem sb_156_4_3 : softB op_156_4 #[true, true, true, true, true, true, true, true, false, true] ((((Array.replicate 10 false).setIfInBounds 0 true).setIfInBounds 1 true).setIfInBounds 2 true) 3 = true := by kernel_rfl
theorem sb_156_4_4 : softB op_156_4 #[true, true, true, true, true, true, true, true, false, true] (((((Array.replicate 10 false).setIfInBounds 0 true).setIfInBounds 1 true).setIfInBounds 2 true).setIfInBounds 3 true) 4 = true := by kernel_rfl
theorem sb_156_4_5 : softB op_156_4 #[true, true, true, true, true, true, true, true, false, true] ((((((Array.replicate 10 false).setIfInBounds 0 true).setIfInBounds 1 true).setIfInBounds 2 true).setIfInBounds 3 true).setIfInBounds 4 true) 5 = true := by kernel_rfl
theorem sb_156_4_6 : softB op_156_4 #[true, true, true, true, true, true, true, true, false, true] (((((((Array.replicate 10 false).setIfInBounds 0 true).setIfInBounds 1 true).setIfInBounds 2 true).setIfInBounds 3 true).setIfInBounds 4 true).setIfInBounds 5 true) 6 = true := by kernel_rfl
theorem sb_156_4_7 : softB op_156_4 #[true, true, true, true, true, true, true, true, false, true] ((((((((Array.replicate 10 false).setIfInBounds 0 true).setIfInBounds 1 true).setIfInBounds 2 true).setIfInBounds 3 true).setIfInBounds 4 true).setIfInBounds 5 true).setIfInBounds 6 true) 7 = true := by kernel_rfl
theorem sb_156_4_8 : hardB op_156_4 (((((((((Array.replicate 10 false).setIfInBounds 0 true).setIfInBounds 1 true).setIfInBounds 2 true).setIfInBounds 3 true).setIfInBounds 4 true).setIfInBounds 5 true).setIfInBounds 6 true).setIfInBounds 7 true) [8] = true := by kernel_rfl
theorem sb_156_4_9 : softB op_156_4 #[true, true, true, true, true, true, true, true, false, true] ((((((((((Array.replicate 10 false).setIfInBounds 0 true).setIfInBounds 1 true).setIfInBounds 2 true).setIfInBounds 3 true).setIfInBounds 4 true).setIfInBounds 5 true).setIfInBounds 6 true).setIfInBounds 7 true).setIfInBounds 8 true) 9 = true := by kernel_rfl
theorem sb_156_4_10 : hardB op_156_4 (((((((((((Array.replicate 10 false).setIfInBounds 0 true).setIfInBounds 1 true).setIfInBounds 2 true).setIfInBounds 3 true).setIfInBounds 4 true).setIfInBounds 5 true).setIfInBounds 6 true).setIfInBounds 7 true).setIfInBounds 8 true).setIfInBounds 9 true) [] = true := by kernel_rfl
/- (*repom.Repo).clean -/
def m156 (n : Nat) (m : RepoM) : Option (Bool) :=
ob1 (m133 n m) fun l1 =>
ob1 (m96 n m.index l1) fun c1 =>
cond (!c1) (
some false) (
ob1 (m96 n m.work m.index) fun c2 =>
some c2)
theorem t156 {n : Nat} {C : List Chunk} {rc1 : Bool} {b1 : Nat} {m : RepoM} {v1 : Value} {g1 : List Chunk} {v2 : Value} {g2 : List Chunk} {v3 : Value} {g3 : List Chunk} {v4 : Value} {g4 : List Chunk} (ho1 : Own rNode v1 m.nodes g1) (ho2 : Own rRef_ v2 m.refs g2) (ho3 : Own rFile v3 m.index g3) (ho4 : Own rFile v4 m.work g4)  (hm : m156 n m = some rc1) : Trip Tryz.prog 156 #[.pointer (some ⟨b1, 0, none⟩)] ([[(b1, .cells (RepoM.enc (v1) (v2) (v3) (v4) m).toArray 59 (0, 0))], g1, g2, g3, g4] ++ [C]) (fun u S' => .bool rc1 = u ∧ S' = [[(b1, .cells (RepoM.enc (v1) (v2) (v3) (v4) m).toArray 59 (0, 0))], g1, g2, g3, g4] ++ [C]) := by
  refine fn_entry (args := [.pointer (some ⟨b1, 0, none⟩)]) Tryz.func156 rfl Tryz.ntmps156 rfl (fun w0 => ?_)
  refine c_seq ?_
  refine c_region ?_
  refine o_L (y_assign rfl) rfl rfl ?_
  refine o_nil0 rfl ?_
  refine c_seq ?_
  refine c_region ?_
  refine o_T (y_move rfl) rfl ?_
  obtain ⟨l1, hx1, hm⟩ := bd1 hm
  refine o_callC en_133 rfl (s_take (s_take (s_take (s_take (s_take s_nil))))) (t133 ho1 ho2 ho3 ho4 hx1) rfl (fun u1 S1 hR1 => ?_)
  obtain ⟨v5, rfl, rfl, hr1⟩ := hR1
  refine o_rest ?_
  refine o_L (y_assign rfl) rfl rfl ?_
  refine o_nil0 rfl ?_
  refine c_seq ?_
  refine c_seq ?_
  refine c_region ?_
  refine o_T (y_move rfl) rfl ?_
  refine o_T (y_nilck rfl) rfl ?_
  refine o_T (y_fa fl_59_4 rfl) rfl ?_
  refine o_ld one_57 rfl m0 (At.got (At.refl.comp RepoM.a_index)) rfl ?_
  refine o_T (y_move rfl) rfl ?_
  obtain ⟨c1, hx2, hm⟩ := bd1 hm
  refine o_callC en_96 rfl s_nil (t96 (ho3.rd.mono (fun _ hz => (ms (ms (ms (mg hz)))))) (hr1.mono (fun _ hz => (ms (mg hz)))) hx2) rfl (fun u2 S2 hR2 => ?_)
  obtain ⟨rfl, rfl⟩ := hR2
  refine o_rest ?_
  refine o_T (y_not rfl) rfl ?_
  refine o_nil1 12 rfl rfl ?_
  refine c_cond rfl (fun h1 => ?_) (fun h1 => ?_)
  · have hm := cd_t h1 hm
    refine c_seq ?_
    refine c_region ?_
    refine o_L (y_assign rfl) rfl rfl ?_
    refine o_nil0 rfl ?_
    refine c_ret ?_
    obtain rfl := p1 hm
    refine fun aX wX heX hsX => ret1 Tryz.results156 heX rfl (s_take (s_take (s_take (s_take (s_take (s_take s_nil)))))) ?_
    exact ⟨rfl, rfl⟩
  · have hm := cd_f h1 hm
    refine c_skip ?_
    refine c_seq ?_
    refine c_draw #[true, true, true, true, true, true, true, true, false, true] rfl (n := 10) rfl ?_
    refine d_T 0 rfl sb_156_4_0 rfl (y_move rfl) rfl ?_
    refine d_T 1 rfl sb_156_4_1 rfl (y_nilck rfl) rfl ?_
    refine d_T 2 rfl sb_156_4_2 rfl (y_fa fl_59_5 rfl) rfl ?_
    refine d_ld 3 rfl sb_156_4_3 one_57 rfl (fun x hx => hx) m0 (At.got (At.refl.comp RepoM.a_work)) rfl ?_
    refine d_T 4 rfl sb_156_4_4 rfl (y_move rfl) rfl ?_
    refine d_T 5 rfl sb_156_4_5 rfl (y_nilck rfl) rfl ?_
    refine d_T 6 rfl sb_156_4_6 rfl (y_fa fl_59_4 rfl) rfl ?_
    refine d_ld 7 rfl sb_156_4_7 one_57 rfl (fun x hx => hx) m0 (At.got (At.refl.comp RepoM.a_index)) rfl ?_
    refine d_hard 8 rfl sb_156_4_8 ?_
    obtain ⟨c2, hx3, hm⟩ := bd1 hm
    refine o_callC en_96 rfl s_nil (t96 (ho4.rd.mono (fun _ hz => (ms (ms (ms (ms (mg hz))))))) (ho3.rd.mono (fun _ hz => (ms (ms (ms (mg hz)))))) hx3) rfl (fun u3 S3 hR3 => ?_)
    obtain ⟨rfl, rfl⟩ := hR3
    refine o_rest ?_
    refine o_stop (fun h => nomatch h) ?_
    refine d_L 9 rfl sb_156_4_9 rfl (y_assign rfl) rfl rfl ?_
    refine d_nil0 sb_156_4_10 rfl ?_
    refine c_ret ?_
    obtain rfl := p1 hm
    refine fun aX wX heX hsX => ret1 Tryz.results156 heX rfl (s_take (s_take (s_take (s_take (s_take (s_take s_nil)))))) ?_
    exact ⟨rfl, rfl⟩
end Go.Proofs.Qxb6500350aGreat
