/- MADE BY PROGRAM (tools350/mir.py): mirror and walk. -/
import Derived.Test.Qxb6500350aGreatF2
import Derived.Test.Qxb6500350aGreatT147
import Derived.Test.Qxb6500350aGreatT78
set_option linter.unusedVariables false
set_option linter.unusedSimpArgs false
set_option maxRecDepth 20000
set_option maxHeartbeats 4000000
namespace Go.Proofs.Qxb6500350aGreat
open Go.Eng

/- (*repom.Repo).Show -/
def m100 (n : Nat) (m : RepoM) (seq : Int) : Option (Node × Int) :=
ob1 (m147 n m.nodes seq) fun c1 =>
cond (decide (c1 < 0)) (
nm (Node.zero : Node) fun z1 =>
some (z1, 17)) (
Option.bind (ixL m.nodes c1) fun x1 =>
ob1 (m78 n x1) fun x2 =>
nm (x2 : Node) fun z3 =>
some (z3, 0))
theorem t100 {n : Nat} {C : List Chunk} {rx1 : Node} {rc1 : Int} {b1 : Nat} {m : RepoM} {v1 : Value} {g1 : List Chunk} {v2 : Value} {g2 : List Chunk} {v3 : Value} {g3 : List Chunk} {v4 : Value} {g4 : List Chunk} {seq : Int} (ho1 : Own rNode v1 m.nodes g1) (ho2 : Own rRef_ v2 m.refs g2) (ho3 : Own rFile v3 m.index g3) (ho4 : Own rFile v4 m.work g4)  (hm : m100 n m seq = some (rx1, rc1)) : Trip Tryz.prog 100 #[.pointer (some ⟨b1, 0, none⟩), .int .i64 seq] ([[(b1, .cells (RepoM.enc (v1) (v2) (v3) (v4) m).toArray 59 (0, 0))], g1, g2, g3, g4] ++ [C]) (fun u S' => ∃ (ev1 : Value), ∃ (eg1 : List Chunk), ∃ (ev2 : Value), ∃ (eg2 : List Chunk), .tuple #[.agg (Node.enc (ev1) (ev2) rx1).toArray, .int .i64 rc1] = u ∧ S' = [[(b1, .cells (RepoM.enc (v1) (v2) (v3) (v4) m).toArray 59 (0, 0))], g1, g2, g3, g4, eg1, eg2] ++ [C] ∧ Own rFile ev1 rx1.files eg1 ∧ Own rInt ev2 rx1.parents eg2) := by
  refine fn_entry (args := [.pointer (some ⟨b1, 0, none⟩), .int .i64 seq]) Tryz.func100 rfl Tryz.ntmps100 rfl (fun w0 => ?_)
  refine c_seq ?_
  refine c_region ?_
  refine o_alloc ze_93 rfl rfl (fun b2 => ?_)
  have ho5 : Own rFile (.slice none 0 0) [] [] := Own.nil
  refine o_emp ?_
  have ho6 : Own rInt (.slice none 0 0) [] [] := Own.nil
  refine o_emp ?_
  refine o_L (y_assign rfl) rfl rfl ?_
  refine o_nil0 rfl ?_
  refine c_seq ?_
  refine c_region ?_
  refine o_T (y_move rfl) rfl ?_
  refine o_T (y_nilck rfl) rfl ?_
  refine o_T (y_fa fl_59_0 rfl) rfl ?_
  refine o_ld one_55 rfl (ms (ms (ms m0))) (At.got (At.refl.comp RepoM.a_nodes)) rfl ?_
  refine o_T (y_move rfl) rfl ?_
  obtain ⟨c1, hx1, hm⟩ := bd1 hm
  refine o_callC en_147 rfl s_nil (t147 (ho1.rd.mono (fun _ hz => (ms (ms (ms (ms (mg hz))))))) hx1) rfl (fun u1 S1 hR1 => ?_)
  obtain ⟨rfl, rfl⟩ := hR1
  refine o_rest ?_
  refine o_L (y_assign rfl) rfl rfl ?_
  refine o_nil0 rfl ?_
  refine c_seq ?_
  refine c_seq ?_
  refine c_region ?_
  refine o_T (y_move rfl) rfl ?_
  refine o_T (y_lss rfl rfl) rfl ?_
  refine o_nil1 14 rfl rfl ?_
  refine c_cond rfl (fun h1 => ?_) (fun h1 => ?_)
  · have hm := cd_t h1 hm
    refine c_seq ?_
    refine c_region ?_
    refine o_T (y_build st_93 rfl fbU0) rfl ?_
    have ho7 : Own rFile (.slice none 0 0) [] [] := Own.nil
    refine o_emp ?_
    have ho8 : Own rInt (.slice none 0 0) [] [] := Own.nil
    refine o_emp ?_
    obtain ⟨z1, hn1, hm⟩ := nm_s hm
    have ho9 := ho7.to (l' := z1.files) (by subst hn1; rfl)
    have ho10 := ho8.to (l' := z1.parents) (by subst hn1; rfl)
    refine o_stNA ag_93 rfl rfl (Node.plain rfl rfl _) (Node.len _ _ _) (Upd.refl ((Node.len _ _ _).trans (Node.len _ _ _).symm)) (rs (rs (rs (rs r0)))) (show (Node.enc ((.slice none 0 0)) ((.slice none 0 0)) z1) = _ from by subst hn1; rfl) ?_
    refine o_L (y_assign rfl) rfl rfl ?_
    refine o_nil0 rfl ?_
    refine c_ret ?_
    obtain ⟨rfl, rfl⟩ := pr2 hm
    refine fun aX wX heX hsX => retct Tryz.results100 heX hsX rfl rfl ag_93 (ms (ms (ms (ms m0)))) (by simp [Node.len]) (s_get (ks (ks (ks (ks (ks k0))))) (s_get (ks (ks (ks (ks (ks k0))))) (s_get (ks (ks (ks (ks (ks k0))))) (s_get (ks (ks (ks (ks (ks k0))))) (s_get (ks (ks (ks (ks (ks k0))))) (s_get (ks k0) (s_take (s_skip (s_skip (s_skip (s_take s_nil))))))))))) ?_
    exact ⟨(.slice none 0 0), _, (.slice none 0 0), _, rfl, rfl, ho9, ho10⟩
  · have hm := cd_f h1 hm
    refine c_skip ?_
    refine c_seq ?_
    refine c_region ?_
    refine o_T (y_move rfl) rfl ?_
    refine o_T (y_nilck rfl) rfl ?_
    refine o_T (y_fa fl_59_0 rfl) rfl ?_
    refine o_ld one_55 rfl (ms (ms (ms m0))) (At.got (At.refl.comp RepoM.a_nodes)) rfl ?_
    refine o_T (y_move rfl) rfl ?_
    obtain ⟨x1, hx2, hm⟩ := bd hm
    obtain ⟨b3, w1, cs1, y1, z2, vs1, hc1, ha1, hr1, hy1⟩ := ho1.rd.ix hx2
    obtain ⟨v5, v6, rfl, hr2, hr3⟩ := hr1
    refine o_T (hy1 sl_55 rfl rfl rfl) rfl ?_
    refine o_lda ag_93 rfl (ms (ms (ms (ms (mg hc1))))) (At.ext (ha1) (Node.len _ _ _)) (At.fit (ha1) (Node.len _ _ _)) rfl ?_
    obtain ⟨x2, hx3, hm⟩ := bd1 hm
    refine o_callC en_78 rfl s_nil (t78 (hr2.mono (fun _ hz => (ms (ms (ms (ms (mg hz))))))) (hr3.mono (fun _ hz => (ms (ms (ms (ms (mg hz))))))) hx3) rfl (fun u2 S2 hR2 => ?_)
    obtain ⟨v7, g5, v8, g6, rfl, rfl, ho11, ho12⟩ := hR2
    refine o_rest ?_
    obtain ⟨z3, hn2, hm⟩ := nm_s hm
    have ho13 := ho11.to (l' := z3.files) (by subst hn2; rfl)
    have ho14 := ho12.to (l' := z3.parents) (by subst hn2; rfl)
    refine o_stNA ag_93 rfl rfl (Node.plain ho11.pl ho12.pl _) (Node.len _ _ _) (Upd.refl ((Node.len _ _ _).trans (Node.len _ _ _).symm)) (rs (rs (rs (rs r0)))) (show (Node.enc (v7) (v8) z3) = _ from by subst hn2; rfl) ?_
    refine o_L (y_assign rfl) rfl rfl ?_
    refine o_nil0 rfl ?_
    refine c_ret ?_
    obtain ⟨rfl, rfl⟩ := pr2 hm
    refine fun aX wX heX hsX => retct Tryz.results100 heX hsX rfl rfl ag_93 (ms (ms (ms (ms m0)))) (by simp [Node.len]) (s_get (ks (ks (ks (ks (ks k0))))) (s_get (ks (ks (ks (ks (ks k0))))) (s_get (ks (ks (ks (ks (ks k0))))) (s_get (ks (ks (ks (ks (ks k0))))) (s_get (ks (ks (ks (ks (ks k0))))) (s_take (s_take (s_skip (s_skip (s_skip (s_take s_nil))))))))))) ?_
    exact ⟨v7, _, v8, _, rfl, rfl, ho13, ho14⟩
end Go.Proofs.Qxb6500350aGreat
