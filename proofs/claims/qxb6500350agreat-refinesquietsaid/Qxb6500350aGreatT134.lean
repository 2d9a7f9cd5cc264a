/- MADE BY PROGRAM (tools350/mir.py): mirror and walk. -/
import Derived.Test.Qxb6500350aGreatF2
import Derived.Test.Qxb6500350aGreatT140
set_option linter.unusedVariables false
set_option linter.unusedSimpArgs false
set_option maxRecDepth 20000
set_option maxHeartbeats 4000000
namespace Go.Proofs.Qxb6500350aGreat
open Go.Eng

def op_134_3 : Array Go.Oper := #[{ dst := some 15, op := Go.Op.move (Go.Operand.tmp 0), type := 39, pos := "repom.go:28", after := #[], guard := none }, { dst := some 16, op := Go.Op.nilCheck (Go.Operand.tmp 15), type := 0, pos := "repom.go:28", after := #[{ on := 0, ground := Go.Ground.data }], guard := none }, { dst := some 17, op := Go.Op.fieldAddr 59 (Go.Operand.tmp 16) 2, type := 0, pos := "repom.go:28", after := #[{ on := 1, ground := Go.Ground.data }], guard := none }, { dst := some 18, op := Go.Op.load 56 (Go.Operand.tmp 17), type := 56, pos := "repom.go:28", after := #[{ on := 2, ground := Go.Ground.data }], guard := none }, { dst := some 19, op := Go.Op.move (Go.Operand.tmp 0), type := 39, pos := "repom.go:28", after := #[], guard := none }, { dst := some 20, op := Go.Op.nilCheck (Go.Operand.tmp 19), type := 0, pos := "repom.go:28", after := #[{ on := 4, ground := Go.Ground.data }], guard := none }, { dst := some 21, op := Go.Op.fieldAddr 59 (Go.Operand.tmp 20) 3, type := 0, pos := "repom.go:28", after := #[{ on := 5, ground := Go.Ground.data }], guard := none }, { dst := some 22, op := Go.Op.fieldAddr 54 (Go.Operand.tmp 21) 0, type := 0, pos := "repom.go:28", after := #[{ on := 6, ground := Go.Ground.data }], guard := none }, { dst := some 23, op := Go.Op.load 9 (Go.Operand.tmp 22), type := 9, pos := "repom.go:28", after := #[{ on := 7, ground := Go.Ground.data }], guard := none }, { dst := some 24, op := Go.Op.call { callee := Go.Callee.value (Go.Operand.func 140), args := #[Go.Operand.tmp 18, Go.Operand.tmp 23], argTypes := #[56, 9] }, type := 3, pos := "repom.go:28", after := #[{ on := 3, ground := Go.Ground.data }, { on := 8, ground := Go.Ground.data }], guard := none }, { dst := some 3, op := Go.Op.assign (Go.Operand.tmp 24), type := 3, pos := "repom.go:28", after := #[{ on := 9, ground := Go.Ground.data }, { on := 9, ground := Go.Ground.chain }, { on := 0, ground := Go.Ground.phase }, { on := 1, ground := Go.Ground.phase }, { on := 2, ground := Go.Ground.phase }, { on := 3, ground := Go.Ground.phase }, { on := 4, ground := Go.Ground.phase }, { on := 5, ground := Go.Ground.phase }, { on := 6, ground := Go.Ground.phase }, { on := 7, ground := Go.Ground.phase }, { on := 8, ground := Go.Ground.phase }, { on := 9, ground := Go.Ground.phase }], guard := none }]
theorem sb_134_3_0 : softB op_134_3 #[true, true, true, true, true, true, true, true, true, false, true] (Array.replicate 11 false) 0 = true := by kernel_rfl
theorem sb_134_3_1 : softB op_134_3 #[true, true, true, true, true, true, true, true, true, false, true] ((Array.replicate 11 false).setIfInBounds 0 true) 1 = true := by kernel_rfl
theorem sb_134_3_2 : softB op_134_3 #[true, true, true, true, true, true, true, true, true, false, true] (((Array.replicate 11 false).setIfInBounds 0 true).setIfInBounds 1 true) 2 = true := by kernel_rfl
theorem sb_134_3_3 : softB op_134_3 #[true, true, true, true, true, true, true, true, true, false, true] ((((Array.replicate 11 false).setIfInBounds 0 true).setIfInBounds 1 true).setIfInBounds 2 true) 3 = true := by kernel_rfl
theorem sb_134_3_4 : softB op_134_3 #[true, true, true, true, true, true, true, true, true, false, true] (((((Array.replicate 11 false).setIfInBounds 0 true).setIfInBounds 1 true).setIfInBounds 2 true).setIfInBounds 3 true) 4 = true := by kernel_rfl
theorem sb_134_3_5 : softB op_134_3 #[true, true, true, true, true, true, true, true, true, false, true] ((((((Array.replicate 11 false).setIfInBounds 0 true).setIfInBounds 1 true).setIfInBounds 2 true).setIfInBounds 3 true).setIfInBounds 4 true) 5 = true := by kernel_rfl
theorem sb_134_3_6 : softB op_134_3 #[true, true, true, true, true, true, true, true, true, false, true] (((((((Array.replicate 11 false).setIfInBounds 0 true).setIfInBounds 1 true).setIfInBounds 2 true).setIfInBounds 3 true).setIfInBounds 4 true).setIfInBounds 5 true) 6 = true := by kernel_rfl
theorem sb_134_3_7 : softB op_134_3 #[true, true, true, true, true, true, true, true, true, false, true] ((((((((Array.replicate 11 false).setIfInBounds 0 true).setIfInBounds 1 true).setIfInBounds 2 true).setIfInBounds 3 true).setIfInBounds 4 true).setIfInBounds 5 true).setIfInBounds 6 true) 7 = true := by kernel_rfl
theorem sb_134_3_8 : softB op_134_3 #[true, true, true, true, true, true, true, true, true, false, true] (((((((((Array.replicate 11 false).setIfInBounds 0 true).setIfInBounds 1 true).setIfInBounds 2 true).setIfInBounds 3 true).setIfInBounds 4 true).setIfInBounds 5 true).setIfInBounds 6 true).setIfInBounds 7 true) 8 = true := by kernel_rfl
theorem sb_134_3_9 : hardB op_134_3 ((((((((((Array.replicate 11 false).setIfInBounds 0 true).setIfInBounds 1 true).setIfInBounds 2 true).setIfInBounds 3 true).setIfInBounds 4 true).setIfInBounds 5 true).setIfInBounds 6 true).setIfInBounds 7 true).setIfInBounds 8 true) [9] = true := by kernel_rfl
theorem sb_134_3_10 : softB op_134_3 #[true, true, true, true, true, true, true, true, true, false, true] (((((((((((Array.replicate 11 false).setIfInBounds 0 true).setIfInBounds 1 true).setIfInBounds 2 true).setIfInBounds 3 true).setIfInBounds 4 true).setIfInBounds 5 true).setIfInBounds 6 true).setIfInBounds 7 true).setIfInBounds 8 true).setIfInBounds 9 true) 10 = true := by kernel_rfl
theorem sb_134_3_11 : hardB op_134_3 ((((((((((((Array.replicate 11 false).setIfInBounds 0 true).setIfInBounds 1 true).setIfInBounds 2 true).setIfInBounds 3 true).setIfInBounds 4 true).setIfInBounds 5 true).setIfInBounds 6 true).setIfInBounds 7 true).setIfInBounds 8 true).setIfInBounds 9 true).setIfInBounds 10 true) [] = true := by kernel_rfl
/- (*repom.Repo).at -/
def m134 (n : Nat) (m : RepoM) : Option (Int) :=
cond (decide (m.head.name = [])) (
some m.head.seq) (
ob1 (m140 n m.refs m.head.name) fun c1 =>
cond (decide (c1 < 0)) (
some 0) (
Option.bind (ixL m.refs c1) fun x1 =>
some x1.seq))
theorem t134 {n : Nat} {C : List Chunk} {rc1 : Int} {b1 : Nat} {m : RepoM} {v1 : Value} {g1 : List Chunk} {v2 : Value} {g2 : List Chunk} {v3 : Value} {g3 : List Chunk} {v4 : Value} {g4 : List Chunk} (ho1 : Own rNode v1 m.nodes g1) (ho2 : Own rRef_ v2 m.refs g2) (ho3 : Own rFile v3 m.index g3) (ho4 : Own rFile v4 m.work g4)  (hm : m134 n m = some rc1) : Trip Tryz.prog 134 #[.pointer (some ⟨b1, 0, none⟩)] ([[(b1, .cells (RepoM.enc (v1) (v2) (v3) (v4) m).toArray 59 (0, 0))], g1, g2, g3, g4] ++ [C]) (fun u S' => .int .i64 rc1 = u ∧ S' = [[(b1, .cells (RepoM.enc (v1) (v2) (v3) (v4) m).toArray 59 (0, 0))], g1, g2, g3, g4] ++ [C]) := by
  refine fn_entry (args := [.pointer (some ⟨b1, 0, none⟩)]) Tryz.func134 rfl Tryz.ntmps134 rfl (fun w0 => ?_)
  refine c_seq ?_
  refine c_region ?_
  refine o_L (y_assign rfl) rfl rfl ?_
  refine o_nil0 rfl ?_
  refine c_seq ?_
  refine c_seq ?_
  refine c_region ?_
  refine o_T (y_move rfl) rfl ?_
  refine o_T (y_nilck rfl) rfl ?_
  refine o_T (y_fa fl_59_3 rfl) rfl ?_
  refine o_T (y_fa fl_54_0 rfl) rfl ?_
  refine o_ld one_9 rfl m0 (At.got ((At.refl.comp RepoM.a_head).comp Head.a_name)) rfl ?_
  refine o_T (y_seq rfl rfl) rfl ?_
  refine o_nil1 9 rfl rfl ?_
  refine c_cond rfl (fun h1 => ?_) (fun h1 => ?_)
  · have hm := cd_t h1 hm
    refine c_seq ?_
    refine c_region ?_
    refine o_T (y_move rfl) rfl ?_
    refine o_T (y_nilck rfl) rfl ?_
    refine o_T (y_fa fl_59_3 rfl) rfl ?_
    refine o_T (y_fa fl_54_1 rfl) rfl ?_
    refine o_ld one_3 rfl m0 (At.got ((At.refl.comp RepoM.a_head).comp Head.a_seq)) rfl ?_
    refine o_L (y_assign rfl) rfl rfl ?_
    refine o_nil0 rfl ?_
    refine c_ret ?_
    obtain rfl := p1 hm
    refine fun aX wX heX hsX => ret1 Tryz.results134 heX rfl (s_take (s_take (s_take (s_take (s_take (s_take s_nil)))))) ?_
    exact ⟨rfl, rfl⟩
  · have hm := cd_f h1 hm
    refine c_skip ?_
    refine c_seq ?_
    refine c_draw #[true, true, true, true, true, true, true, true, true, false, true] rfl (n := 11) rfl ?_
    refine d_T 0 rfl sb_134_3_0 rfl (y_move rfl) rfl ?_
    refine d_T 1 rfl sb_134_3_1 rfl (y_nilck rfl) rfl ?_
    refine d_T 2 rfl sb_134_3_2 rfl (y_fa fl_59_2 rfl) rfl ?_
    refine d_ld 3 rfl sb_134_3_3 one_56 rfl (fun x hx => hx) m0 (At.got (At.refl.comp RepoM.a_refs)) rfl ?_
    refine d_T 4 rfl sb_134_3_4 rfl (y_move rfl) rfl ?_
    refine d_T 5 rfl sb_134_3_5 rfl (y_nilck rfl) rfl ?_
    refine d_T 6 rfl sb_134_3_6 rfl (y_fa fl_59_3 rfl) rfl ?_
    refine d_T 7 rfl sb_134_3_7 rfl (y_fa fl_54_0 rfl) rfl ?_
    refine d_ld 8 rfl sb_134_3_8 one_9 rfl (fun x hx => hx) m0 (At.got ((At.refl.comp RepoM.a_head).comp Head.a_name)) rfl ?_
    refine d_hard 9 rfl sb_134_3_9 ?_
    obtain ⟨c1, hx1, hm⟩ := bd1 hm
    refine o_callC en_140 rfl s_nil (t140 (ho2.rd.mono (fun _ hz => (ms (ms (mg hz))))) hx1) rfl (fun u1 S1 hR1 => ?_)
    obtain ⟨rfl, rfl⟩ := hR1
    refine o_rest ?_
    refine o_stop (fun h => nomatch h) ?_
    refine d_L 10 rfl sb_134_3_10 rfl (y_assign rfl) rfl rfl ?_
    refine d_nil0 sb_134_3_11 rfl ?_
    refine c_seq ?_
    refine c_seq ?_
    refine c_region ?_
    refine o_T (y_move rfl) rfl ?_
    refine o_T (y_lss rfl rfl) rfl ?_
    refine o_nil1 26 rfl rfl ?_
    refine c_cond rfl (fun h2 => ?_) (fun h2 => ?_)
    · have hm := cd_t h2 hm
      refine c_seq ?_
      refine c_region ?_
      refine o_L (y_assign rfl) rfl rfl ?_
      refine o_nil0 rfl ?_
      refine c_ret ?_
      obtain rfl := p1 hm
      refine fun aX wX heX hsX => ret1 Tryz.results134 heX rfl (s_take (s_take (s_take (s_take (s_take (s_take s_nil)))))) ?_
      exact ⟨rfl, rfl⟩
    · have hm := cd_f h2 hm
      refine c_skip ?_
      refine c_seq ?_
      refine c_region ?_
      refine o_T (y_move rfl) rfl ?_
      refine o_T (y_nilck rfl) rfl ?_
      refine o_T (y_fa fl_59_2 rfl) rfl ?_
      refine o_ld one_56 rfl m0 (At.got (At.refl.comp RepoM.a_refs)) rfl ?_
      refine o_T (y_move rfl) rfl ?_
      obtain ⟨x1, hx2, hm⟩ := bd hm
      obtain ⟨b2, w1, cs1, y1, z1, vs1, hc1, ha1, hr1, hy1⟩ := ho2.rd.ix hx2
      obtain rfl : vs1 = Ref_.enc x1 := hr1
      refine o_T (hy1 sl_56 rfl rfl rfl) rfl ?_
      refine o_T (y_fa fl_96_1 rfl) rfl ?_
      refine o_ld one_3 rfl (ms (ms (mg hc1))) (At.getA (ha1.comp Ref_.a_seq)) rfl ?_
      refine o_L (y_assign rfl) rfl rfl ?_
      refine o_nil0 rfl ?_
      refine c_ret ?_
      obtain rfl := p1 hm
      refine fun aX wX heX hsX => ret1 Tryz.results134 heX rfl (s_take (s_take (s_take (s_take (s_take (s_take s_nil)))))) ?_
      exact ⟨rfl, rfl⟩
end Go.Proofs.Qxb6500350aGreat
