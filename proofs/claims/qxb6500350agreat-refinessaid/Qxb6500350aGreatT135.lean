/- MADE BY PROGRAM (tools350/mir.py): mirror and walk. -/
import Derived.Test.Qxb6500350aGreatF2
import Derived.Test.Qxb6500350aGreatT141
set_option linter.unusedVariables false
set_option linter.unusedSimpArgs false
set_option maxRecDepth 20000
set_option maxHeartbeats 4000000
namespace Go.Proofs.Qxb6500350aGreat
open Go.Eng

def op_135_1 : Array Go.Oper := #[{ dst := some 10, op := Go.Op.move (Go.Operand.tmp 0), type := 39, pos := "repom.go:70", after := #[], guard := none }, { dst := some 11, op := Go.Op.move (Go.Operand.tmp 0), type := 39, pos := "repom.go:70", after := #[], guard := none }, { dst := some 12, op := Go.Op.nilCheck (Go.Operand.tmp 11), type := 0, pos := "repom.go:70", after := #[{ on := 1, ground := Go.Ground.data }], guard := none }, { dst := some 13, op := Go.Op.fieldAddr 59 (Go.Operand.tmp 12) 2, type := 0, pos := "repom.go:70", after := #[{ on := 2, ground := Go.Ground.data }], guard := none }, { dst := some 14, op := Go.Op.load 56 (Go.Operand.tmp 13), type := 56, pos := "repom.go:70", after := #[{ on := 3, ground := Go.Ground.data }], guard := none }, { dst := some 15, op := Go.Op.move (Go.Operand.tmp 0), type := 39, pos := "repom.go:70", after := #[], guard := none }, { dst := some 16, op := Go.Op.nilCheck (Go.Operand.tmp 15), type := 0, pos := "repom.go:70", after := #[{ on := 5, ground := Go.Ground.data }], guard := none }, { dst := some 17, op := Go.Op.fieldAddr 59 (Go.Operand.tmp 16) 3, type := 0, pos := "repom.go:70", after := #[{ on := 6, ground := Go.Ground.data }], guard := none }, { dst := some 18, op := Go.Op.fieldAddr 54 (Go.Operand.tmp 17) 0, type := 0, pos := "repom.go:70", after := #[{ on := 7, ground := Go.Ground.data }], guard := none }, { dst := some 19, op := Go.Op.load 9 (Go.Operand.tmp 18), type := 9, pos := "repom.go:70", after := #[{ on := 8, ground := Go.Ground.data }], guard := none }, { dst := some 20, op := Go.Op.move (Go.Operand.tmp 1), type := 3, pos := "repom.go:70", after := #[], guard := none }, { dst := some 21, op := Go.Op.call { callee := Go.Callee.value (Go.Operand.func 141), args := #[Go.Operand.tmp 14, Go.Operand.tmp 19, Go.Operand.tmp 20], argTypes := #[56, 9, 3] }, type := 56, pos := "repom.go:70", after := #[{ on := 4, ground := Go.Ground.data }, { on := 9, ground := Go.Ground.data }, { on := 10, ground := Go.Ground.data }], guard := none }, { dst := some 22, op := Go.Op.nilCheck (Go.Operand.tmp 10), type := 0, pos := "repom.go:70", after := #[{ on := 0, ground := Go.Ground.data }, { on := 0, ground := Go.Ground.phase }, { on := 1, ground := Go.Ground.phase }, { on := 2, ground := Go.Ground.phase }, { on := 3, ground := Go.Ground.phase }, { on := 4, ground := Go.Ground.phase }, { on := 5, ground := Go.Ground.phase }, { on := 6, ground := Go.Ground.phase }, { on := 7, ground := Go.Ground.phase }, { on := 8, ground := Go.Ground.phase }, { on := 9, ground := Go.Ground.phase }, { on := 10, ground := Go.Ground.phase }, { on := 11, ground := Go.Ground.phase }], guard := none }, { dst := some 23, op := Go.Op.fieldAddr 59 (Go.Operand.tmp 22) 2, type := 0, pos := "repom.go:70", after := #[{ on := 12, ground := Go.Ground.data }, { on := 0, ground := Go.Ground.phase }, { on := 1, ground := Go.Ground.phase }, { on := 2, ground := Go.Ground.phase }, { on := 3, ground := Go.Ground.phase }, { on := 4, ground := Go.Ground.phase }, { on := 5, ground := Go.Ground.phase }, { on := 6, ground := Go.Ground.phase }, { on := 7, ground := Go.Ground.phase }, { on := 8, ground := Go.Ground.phase }, { on := 9, ground := Go.Ground.phase }, { on := 10, ground := Go.Ground.phase }, { on := 11, ground := Go.Ground.phase }], guard := none }, { dst := none, op := Go.Op.store 56 (Go.Operand.tmp 23) (Go.Operand.tmp 21), type := 0, pos := "repom.go:70", after := #[{ on := 13, ground := Go.Ground.data }, { on := 11, ground := Go.Ground.data }, { on := 11, ground := Go.Ground.chain }, { on := 0, ground := Go.Ground.phase }, { on := 1, ground := Go.Ground.phase }, { on := 2, ground := Go.Ground.phase }, { on := 3, ground := Go.Ground.phase }, { on := 4, ground := Go.Ground.phase }, { on := 5, ground := Go.Ground.phase }, { on := 6, ground := Go.Ground.phase }, { on := 7, ground := Go.Ground.phase }, { on := 8, ground := Go.Ground.phase }, { on := 9, ground := Go.Ground.phase }, { on := 10, ground := Go.Ground.phase }, { on := 11, ground := Go.Ground.phase }], guard := none }]
theorem sb_135_1_0 : softB op_135_1 #[true, true, true, true, true, true, true, true, true, true, true, false, true, true, false] (Array.replicate 15 false) 0 = true := by kernel_rfl
theorem sb_135_1_1 : softB op_135_1 #[true, true, true, true, true, true, true, true, true, true, true, false, true, true, false] ((Array.replicate 15 false).setIfInBounds 0 true) 1 = true := by kernel_rfl
theorem sb_135_1_2 : softB op_135_1 #[true, true, true, true, true, true, true, true, true, true, true, false, true, true, false] (((Array.replicate 15 false).setIfInBounds 0 true).setIfInBounds 1 true) 2 = true := by kernel_rfl
theorem sb_135_1_3 : softB op_135_1 #[true, true, true, true, true, true, true, true, true, true, true, false, true, true, false] ((((Array.replicate 15 false).setIfInBounds 0 true).setIfInBounds 1 true).setIfInBounds 2 true) 3 = true := by kernel_rfl
theorem sb_135_1_4 : softB op_135_1 #[true, true, true, true, true, true, true, true, true, true, true, false, true, true, false] (((((Array.replicate 15 false).setIfInBounds 0 true).setIfInBounds 1 true).setIfInBounds 2 true).setIfInBounds 3 true) 4 = true := by kernel_rfl
theorem sb_135_1_5 : softB op_135_1 #[true, true, true, true, true, true, true, true, true, true, true, false, true, true, false] ((((((Array.replicate 15 false).setIfInBounds 0 true).setIfInBounds 1 true).setIfInBounds 2 true).setIfInBounds 3 true).setIfInBounds 4 true) 5 = true := by kernel_rfl
theorem sb_135_1_6 : softB op_135_1 #[true, true, true, true, true, true, true, true, true, true, true, false, true, true, false] (((((((Array.replicate 15 false).setIfInBounds 0 true).setIfInBounds 1 true).setIfInBounds 2 true).setIfInBounds 3 true).setIfInBounds 4 true).setIfInBounds 5 true) 6 = true := by kernel_rfl
theorem sb_135_1_7 : softB op_135_1 #[true, true, true, true, true, true, true, true, true, true, true, false, true, true, false] ((((((((Array.replicate 15 false).setIfInBounds 0 true).setIfInBounds 1 true).setIfInBounds 2 true).setIfInBounds 3 true).setIfInBounds 4 true).setIfInBounds 5 true).setIfInBounds 6 true) 7 = true := by kernel_rfl
theorem sb_135_1_8 : softB op_135_1 #[true, true, true, true, true, true, true, true, true, true, true, false, true, true, false] (((((((((Array.replicate 15 false).setIfInBounds 0 true).setIfInBounds 1 true).setIfInBounds 2 true).setIfInBounds 3 true).setIfInBounds 4 true).setIfInBounds 5 true).setIfInBounds 6 true).setIfInBounds 7 true) 8 = true := by kernel_rfl
theorem sb_135_1_9 : softB op_135_1 #[true, true, true, true, true, true, true, true, true, true, true, false, true, true, false] ((((((((((Array.replicate 15 false).setIfInBounds 0 true).setIfInBounds 1 true).setIfInBounds 2 true).setIfInBounds 3 true).setIfInBounds 4 true).setIfInBounds 5 true).setIfInBounds 6 true).setIfInBounds 7 true).setIfInBounds 8 true) 9 = true := by kernel_rfl
theorem sb_135_1_10 : softB op_135_1 #[true, true, true, true, true, true, true, true, true, true, true, false, true, true, false] (((((((((((Array.replicate 15 false).setIfInBounds 0 true).setIfInBounds 1 true).setIfInBounds 2 true).setIfInBounds 3 true).setIfInBounds 4 true).setIfInBounds 5 true).setIfInBounds 6 true).setIfInBounds 7 true).setIfInBounds 8 true).setIfInBounds 9 true) 10 = true := by kernel_rfl
theorem sb_135_1_11 : hardB op_135_1 ((((((((((((Array.replicate 15 false).setIfInBounds 0 true).setIfInBounds 1 true).setIfInBounds 2 true).setIfInBounds 3 true).setIfInBounds 4 true).setIfInBounds 5 true).setIfInBounds 6 true).setIfInBounds 7 true).setIfInBounds 8 true).setIfInBounds 9 true).setIfInBounds 10 true) [11] = true := by kernel_rfl
theorem sb_135_1_12 : softB op_135_1 #[true, true, true, true, true, true, true, true, true, true, true, false, true, true, false] (((((((((((((Array.replicate 15 false).setIfInBounds 0 true).setIfInBounds 1 true).setIfInBounds 2 true).setIfInBounds 3 true).setIfInBounds 4 true).setIfInBounds 5 true).setIfInBounds 6 true).setIfInBounds 7 true).setIfInBounds 8 true).setIfInBounds 9 true).setIfInBounds 10 true).setIfInBounds 11 true) 12 = true := by kernel_rfl
theorem sb_135_1_13 : softB op_135_1 #[true, true, true, true, true, true, true, true, true, true, true, false, true, true, false] ((((((((((((((Array.replicate 15 false).setIfInBounds 0 true).setIfInBounds 1 true).setIfInBounds 2 true).setIfInBounds 3 true).setIfInBounds 4 true).setIfInBounds 5 true).setIfInBounds 6 true).setIfInBounds 7 true).setIfInBounds 8 true).setIfInBounds 9 true).setIfInBounds 10 true).setIfInBounds 11 true).setIfInBounds 12 true) 13 = true := by kernel_rfl
theorem sb_135_1_14 : hardB op_135_1 (((((((((((((((Array.replicate 15 false).setIfInBounds 0 true).setIfInBounds 1 true).setIfInBounds 2 true).setIfInBounds 3 true).setIfInBounds 4 true).setIfInBounds 5 true).setIfInBounds 6 true).setIfInBounds 7 true).setIfInBounds 8 true).setIfInBounds 9 true).setIfInBounds 10 true).setIfInBounds 11 true).setIfInBounds 12 true).setIfInBounds 13 true) [14] = true := by kernel_rfl
theorem sb_135_1_15 : hardB op_135_1 ((((((((((((((((Array.replicate 15 false).setIfInBounds 0 true).setIfInBounds 1 true).setIfInBounds 2 true).setIfInBounds 3 true).setIfInBounds 4 true).setIfInBounds 5 true).setIfInBounds 6 true).setIfInBounds 7 true).setIfInBounds 8 true).setIfInBounds 9 true).setIfInBounds 10 true).setIfInBounds 11 true).setIfInBounds 12 true).setIfInBounds 13 true).setIfInBounds 14 true) [] = true := by kernel_rfl
/- (*repom.Repo).move -/
def m135 (n : Nat) (m : RepoM) (seq : Int) : Option (RepoM) :=
cond (!(decide (m.head.name = []))) (
ob1 (m141 n m.refs m.head.name seq) fun l1 =>
nm ({ m with refs := l1 } : RepoM) fun z1 =>
nm ({ z1 with head := ({ Head.zero with name := z1.head.name }) } : RepoM) fun z2 =>
some z2) (
nm ({ m with head := ({ Head.zero with seq := seq }) } : RepoM) fun z3 =>
some z3)
theorem t135 {n : Nat} {C : List Chunk} {rz1 : RepoM} {b1 : Nat} {m : RepoM} {v1 : Value} {g1 : List Chunk} {v2 : Value} {g2 : List Chunk} {v3 : Value} {g3 : List Chunk} {v4 : Value} {g4 : List Chunk} {seq : Int} (ho1 : Own rNode v1 m.nodes g1) (ho2 : Own rRef_ v2 m.refs g2) (ho3 : Own rFile v3 m.index g3) (ho4 : Own rFile v4 m.work g4)  (hm : m135 n m seq = some rz1) : Trip Tryz.prog 135 #[.pointer (some ⟨b1, 0, none⟩), .int .i64 seq] ([[(b1, .cells (RepoM.enc (v1) (v2) (v3) (v4) m).toArray 59 (0, 0))], g1, g2, g3, g4] ++ [C]) (fun u S' => ∃ (ev2 : Value), ∃ (eg2 : List Chunk), .tuple #[] = u ∧ S' = [[(b1, .cells (RepoM.enc (v1) (ev2) (v3) (v4) rz1).toArray 59 (0, 0))], g1, eg2, g3, g4] ++ [C] ∧ Own rNode v1 rz1.nodes g1 ∧ Own rRef_ ev2 rz1.refs eg2 ∧ Own rFile v3 rz1.index g3 ∧ Own rFile v4 rz1.work g4) := by
  refine fn_entry (args := [.pointer (some ⟨b1, 0, none⟩), .int .i64 seq]) Tryz.func135 rfl Tryz.ntmps135 rfl (fun w0 => ?_)
  refine c_seq ?_
  refine c_region ?_
  refine o_T (y_move rfl) rfl ?_
  refine o_T (y_nilck rfl) rfl ?_
  refine o_T (y_fa fl_59_3 rfl) rfl ?_
  refine o_T (y_fa fl_54_0 rfl) rfl ?_
  refine o_ld one_9 rfl m0 (At.got ((At.refl.comp RepoM.a_head).comp Head.a_name)) rfl ?_
  refine o_T (y_sne rfl rfl) rfl ?_
  refine o_nil1 9 rfl rfl ?_
  refine c_cond rfl (fun h1 => ?_) (fun h1 => ?_)
  · have hm := cd_t h1 hm
    refine c_seq ?_
    refine c_draw #[true, true, true, true, true, true, true, true, true, true, true, false, true, true, false] rfl (n := 15) rfl ?_
    refine d_T 0 rfl sb_135_1_0 rfl (y_move rfl) rfl ?_
    refine d_T 1 rfl sb_135_1_1 rfl (y_move rfl) rfl ?_
    refine d_T 2 rfl sb_135_1_2 rfl (y_nilck rfl) rfl ?_
    refine d_T 3 rfl sb_135_1_3 rfl (y_fa fl_59_2 rfl) rfl ?_
    refine d_ld 4 rfl sb_135_1_4 one_56 rfl (fun x hx => hx) m0 (At.got (At.refl.comp RepoM.a_refs)) rfl ?_
    refine d_T 5 rfl sb_135_1_5 rfl (y_move rfl) rfl ?_
    refine d_T 6 rfl sb_135_1_6 rfl (y_nilck rfl) rfl ?_
    refine d_T 7 rfl sb_135_1_7 rfl (y_fa fl_59_3 rfl) rfl ?_
    refine d_T 8 rfl sb_135_1_8 rfl (y_fa fl_54_0 rfl) rfl ?_
    refine d_ld 9 rfl sb_135_1_9 one_9 rfl (fun x hx => hx) m0 (At.got ((At.refl.comp RepoM.a_head).comp Head.a_name)) rfl ?_
    refine d_T 10 rfl sb_135_1_10 rfl (y_move rfl) rfl ?_
    refine d_hard 11 rfl sb_135_1_11 ?_
    obtain ⟨l1, hx1, hm⟩ := bd1 hm
    refine o_callC en_141 rfl s_nil (t141 (ho2.rd.mono (fun _ hz => (ms (ms (mg hz))))) hx1) rfl (fun u1 S1 hR1 => ?_)
    obtain ⟨v5, g5, rfl, rfl, ho5⟩ := hR1
    refine o_rest ?_
    refine o_stop (fun h => nomatch h) ?_
    refine d_T 12 rfl sb_135_1_12 rfl (y_nilck rfl) rfl ?_
    refine d_T 13 rfl sb_135_1_13 rfl (y_fa fl_59_2 rfl) rfl ?_
    refine d_hard 14 rfl sb_135_1_14 ?_
    obtain ⟨z1, hn1, hm⟩ := nm_s hm
    have ho6 := ho1.to (l' := z1.nodes) (by subst hn1; rfl)
    have ho7 := ho5.to (l' := z1.refs) (by subst hn1; rfl)
    have ho8 := ho3.to (l' := z1.index) (by subst hn1; rfl)
    have ho9 := ho4.to (l' := z1.work) (by subst hn1; rfl)
    refine o_stN one_56 rfl rfl ho5.pl (Upd.z RepoM.u_refs) (rs r0) (show (RepoM.enc (v1) (v5) (v3) (v4) z1) = _ from by subst hn1; rfl) ?_
    refine o_stop (fun h => nomatch h) ?_
    refine d_nil0 sb_135_1_15 rfl ?_
    refine c_region ?_
    refine o_T (y_move rfl) rfl ?_
    refine o_T (y_move rfl) rfl ?_
    refine o_T (y_nilck rfl) rfl ?_
    refine o_T (y_fa fl_59_3 rfl) rfl ?_
    refine o_T (y_fa fl_54_0 rfl) rfl ?_
    refine o_ld one_9 rfl (ms m0) (At.got ((At.refl.comp RepoM.a_head).comp Head.a_name)) rfl ?_
    refine o_T (y_build st_54 rfl (fbU rfl Head.u_name rfl rfl fbU0)) rfl ?_
    refine o_T (y_nilck rfl) rfl ?_
    refine o_T (y_fa fl_59_3 rfl) rfl ?_
    obtain ⟨z2, hn2, hm⟩ := nm_s hm
    have ho10 := ho6.to (l' := z2.nodes) (by subst hn2; rfl)
    have ho11 := ho7.to (l' := z2.refs) (by subst hn2; rfl)
    have ho12 := ho8.to (l' := z2.index) (by subst hn2; rfl)
    have ho13 := ho9.to (l' := z2.work) (by subst hn2; rfl)
    refine o_stNA ag_54 rfl rfl (Head.plain _) (Head.len _) (Upd.z RepoM.u_head) (rs r0) (show (RepoM.enc (v1) (v5) (v3) (v4) z2) = _ from by subst hn2; rfl) ?_
    refine o_nil0 rfl ?_
    obtain rfl := p1 hm
    refine fun aX wX heX hsX => ret0 Tryz.results135 (s_get (ks k0) (s_get (ks k0) (s_take (s_skip (s_take (s_take (s_take s_nil))))))) ?_
    exact ⟨v5, _, rfl, rfl, ho10, ho11, ho12, ho13⟩
  · have hm := cd_f h1 hm
    refine c_region ?_
    refine o_T (y_move rfl) rfl ?_
    refine o_T (y_move rfl) rfl ?_
    refine o_T (y_build st_54 rfl (fbU rfl Head.u_seq rfl rfl fbU0)) rfl ?_
    refine o_T (y_nilck rfl) rfl ?_
    refine o_T (y_fa fl_59_3 rfl) rfl ?_
    obtain ⟨z3, hn3, hm⟩ := nm_s hm
    have ho14 := ho1.to (l' := z3.nodes) (by subst hn3; rfl)
    have ho15 := ho2.to (l' := z3.refs) (by subst hn3; rfl)
    have ho16 := ho3.to (l' := z3.index) (by subst hn3; rfl)
    have ho17 := ho4.to (l' := z3.work) (by subst hn3; rfl)
    refine o_stNA ag_54 rfl rfl (Head.plain _) (Head.len _) (Upd.z RepoM.u_head) r0 (show (RepoM.enc (v1) (v2) (v3) (v4) z3) = _ from by subst hn3; rfl) ?_
    refine o_nil0 rfl ?_
    obtain rfl := p1 hm
    refine fun aX wX heX hsX => ret0 Tryz.results135 (s_take (s_take (s_take (s_take (s_take (s_take s_nil)))))) ?_
    exact ⟨v2, _, rfl, rfl, ho14, ho15, ho16, ho17⟩
end Go.Proofs.Qxb6500350aGreat
