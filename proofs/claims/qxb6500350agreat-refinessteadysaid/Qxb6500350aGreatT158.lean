/- MADE BY PROGRAM (tools350/mir.py): mirror and walk. -/
import Derived.Test.Qxb6500350aGreatF2
import Derived.Test.Qxb6500350aGreatT147
set_option linter.unusedVariables false
set_option linter.unusedSimpArgs false
set_option maxRecDepth 20000
set_option maxHeartbeats 4000000
namespace Go.Proofs.Qxb6500350aGreat
open Go.Eng

/- (*repom.Repo).snap -/
def m158 (n : Nat) (m : RepoM) (seq : Int) : Option ((List File)) :=
ob1 (m147 n m.nodes seq) fun c1 =>
cond (decide (c1 < 0)) (
some ([] : List File)) (
Option.bind (ixL m.nodes c1) fun x1 =>
some x1.files)
theorem t158 {n : Nat} {C : List Chunk} {rl1 : List File} {b1 : Nat} {m : RepoM} {v1 : Value} {g1 : List Chunk} {v2 : Value} {g2 : List Chunk} {v3 : Value} {g3 : List Chunk} {v4 : Value} {g4 : List Chunk} {seq : Int} (ho1 : Own rNode v1 m.nodes g1) (ho2 : Own rRef_ v2 m.refs g2) (ho3 : Own rFile v3 m.index g3) (ho4 : Own rFile v4 m.work g4)  (hm : m158 n m seq = some rl1) : Trip Tryz.prog 158 #[.pointer (some ⟨b1, 0, none⟩), .int .i64 seq] ([[(b1, .cells (RepoM.enc (v1) (v2) (v3) (v4) m).toArray 59 (0, 0))], g1, g2, g3, g4] ++ [C]) (fun u S' => ∃ (ev1 : Value), ev1 = u ∧ S' = [[(b1, .cells (RepoM.enc (v1) (v2) (v3) (v4) m).toArray 59 (0, 0))], g1, g2, g3, g4] ++ [C] ∧ Rd rFile g1 ev1 rl1) := by
  refine fn_entry (args := [.pointer (some ⟨b1, 0, none⟩), .int .i64 seq]) Tryz.func158 rfl Tryz.ntmps158 rfl (fun w0 => ?_)
  refine c_seq ?_
  refine c_region ?_
  have ho5 : Own rFile (.slice none 0 0) [] [] := Own.nil
  refine o_emp ?_
  refine o_L (y_assign rfl) rfl rfl ?_
  refine o_nil0 rfl ?_
  refine c_seq ?_
  refine c_region ?_
  refine o_T (y_move rfl) rfl ?_
  refine o_T (y_nilck rfl) rfl ?_
  refine o_T (y_fa fl_59_0 rfl) rfl ?_
  refine o_ld one_55 rfl (ms m0) (At.got (At.refl.comp RepoM.a_nodes)) rfl ?_
  refine o_T (y_move rfl) rfl ?_
  obtain ⟨c1, hx1, hm⟩ := bd1 hm
  refine o_callC en_147 rfl s_nil (t147 (ho1.rd.mono (fun _ hz => (ms (ms (mg hz))))) hx1) rfl (fun u1 S1 hR1 => ?_)
  obtain ⟨rfl, rfl⟩ := hR1
  refine o_rest ?_
  refine o_L (y_assign rfl) rfl rfl ?_
  refine o_nil0 rfl ?_
  refine c_seq ?_
  refine c_seq ?_
  refine c_region ?_
  refine o_T (y_move rfl) rfl ?_
  refine o_T (y_lss rfl rfl) rfl ?_
  refine o_nil1 13 rfl rfl ?_
  refine c_cond rfl (fun h1 => ?_) (fun h1 => ?_)
  · have hm := cd_t h1 hm
    refine c_seq ?_
    refine c_region ?_
    have ho6 : Own rFile (.slice none 0 0) [] [] := Own.nil
    refine o_emp ?_
    refine o_L (y_assign rfl) rfl rfl ?_
    refine o_nil0 rfl ?_
    refine c_ret ?_
    obtain rfl := p1 hm
    refine fun aX wX heX hsX => ret1 Tryz.results158 heX rfl (s_skip (s_skip (s_take (s_take (s_take (s_take (s_take (s_take s_nil)))))))) ?_
    exact ⟨(.slice none 0 0), rfl, rfl, Rd.nil⟩
  · have hm := cd_f h1 hm
    refine c_skip ?_
    refine c_seq ?_
    refine c_region ?_
    refine o_T (y_move rfl) rfl ?_
    refine o_T (y_nilck rfl) rfl ?_
    refine o_T (y_fa fl_59_0 rfl) rfl ?_
    refine o_ld one_55 rfl (ms m0) (At.got (At.refl.comp RepoM.a_nodes)) rfl ?_
    refine o_T (y_move rfl) rfl ?_
    obtain ⟨x1, hx2, hm⟩ := bd hm
    obtain ⟨b2, w1, cs1, y1, z1, vs1, hc1, ha1, hr1, hy1⟩ := ho1.rd.ix hx2
    obtain ⟨v5, v6, rfl, hr2, hr3⟩ := hr1
    refine o_T (hy1 sl_55 rfl rfl rfl) rfl ?_
    refine o_T (y_fa fl_93_1 rfl) rfl ?_
    refine o_ld one_57 rfl (ms (ms (mg hc1))) (At.getA (ha1.comp Node.a_files)) rfl ?_
    refine o_L (y_assign rfl) rfl rfl ?_
    refine o_nil0 rfl ?_
    refine c_ret ?_
    obtain rfl := p1 hm
    refine fun aX wX heX hsX => ret1 Tryz.results158 heX rfl (s_skip (s_take (s_take (s_take (s_take (s_take (s_take s_nil))))))) ?_
    exact ⟨v5, rfl, rfl, hr2⟩
end Go.Proofs.Qxb6500350aGreat
