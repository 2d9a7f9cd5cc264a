/- MADE BY PROGRAM (tools350/mir.py): mirror and walk. -/
import Derived.Test.Qxb6500350aGreatF2
import Derived.Test.Qxb6500350aGreatT136
import Derived.Test.Qxb6500350aGreatT140
import Derived.Test.Qxb6500350aGreatT145
set_option linter.unusedVariables false
set_option linter.unusedSimpArgs false
set_option maxRecDepth 20000
set_option maxHeartbeats 4000000
namespace Go.Proofs.Qxb6500350aGreat
open Go.Eng

/- (*repom.Repo).Switch -/
def m62 (n : Nat) (m : RepoM) (name : Str) : Option (Int × RepoM) :=
ob1 (m136 n name) fun c1 =>
cond (!c1) (
some (14, m)) (
ob1 (m140 n m.refs name) fun c2 =>
cond (decide (c2 < 0)) (
some (16, m)) (
Option.bind (ixL m.refs c2) fun x1 =>
ob2 (m145 n m ({ Head.zero with name := name }) x1.seq) fun c3 z2 =>
some (c3, z2)))
theorem t62 {n : Nat} {C : List Chunk} {rc1 : Int} {rz1 : RepoM} {b1 : Nat} {m : RepoM} {v1 : Value} {g1 : List Chunk} {v2 : Value} {g2 : List Chunk} {v3 : Value} {g3 : List Chunk} {v4 : Value} {g4 : List Chunk} {name : Str} (ho1 : Own rNode v1 m.nodes g1) (ho2 : Own rRef_ v2 m.refs g2) (ho3 : Own rFile v3 m.index g3) (ho4 : Own rFile v4 m.work g4)  (hm : m62 n m name = some (rc1, rz1)) : Trip Tryz.prog 62 #[.pointer (some ⟨b1, 0, none⟩), .string ⟨(name : Str).toArray⟩] ([[(b1, .cells (RepoM.enc (v1) (v2) (v3) (v4) m).toArray 59 (0, 0))], g1, g2, g3, g4] ++ [C]) (fun u S' => ∃ (ev3 : Value), ∃ (eg3 : List Chunk), ∃ (ev4 : Value), ∃ (eg4 : List Chunk), .int .i64 rc1 = u ∧ S' = [[(b1, .cells (RepoM.enc (v1) (v2) (ev3) (ev4) rz1).toArray 59 (0, 0))], g1, g2, eg3, eg4] ++ [C] ∧ Own rNode v1 rz1.nodes g1 ∧ Own rRef_ v2 rz1.refs g2 ∧ Own rFile ev3 rz1.index eg3 ∧ Own rFile ev4 rz1.work eg4) := by
  refine fn_entry (args := [.pointer (some ⟨b1, 0, none⟩), .string ⟨(name : Str).toArray⟩]) Tryz.func62 rfl Tryz.ntmps62 rfl (fun w0 => ?_)
  refine c_seq ?_
  refine c_region ?_
  refine o_L (y_assign rfl) rfl rfl ?_
  refine o_nil0 rfl ?_
  refine c_seq ?_
  refine c_seq ?_
  refine c_region ?_
  refine o_T (y_move rfl) rfl ?_
  obtain ⟨c1, hx1, hm⟩ := bd1 hm
  refine o_callC en_136 rfl s_nil (t136 hx1) rfl (fun u1 S1 hR1 => ?_)
  obtain ⟨rfl, rfl⟩ := hR1
  refine o_rest ?_
  refine o_T (y_not rfl) rfl ?_
  refine o_nil1 8 rfl rfl ?_
  refine c_cond rfl (fun h1 => ?_) (fun h1 => ?_)
  · have hm := cd_t h1 hm
    refine c_seq ?_
    refine c_region ?_
    refine o_L (y_assign rfl) rfl rfl ?_
    refine o_nil0 rfl ?_
    refine c_ret ?_
    obtain ⟨rfl, rfl⟩ := pr2 hm
    refine fun aX wX heX hsX => ret1 Tryz.results62 heX rfl (s_take (s_take (s_take (s_take (s_take (s_take s_nil)))))) ?_
    exact ⟨v3, _, v4, _, rfl, rfl, ho1, ho2, ho3, ho4⟩
  · have hm := cd_f h1 hm
    refine c_skip ?_
    refine c_seq ?_
    refine c_region ?_
    refine o_T (y_move rfl) rfl ?_
    refine o_T (y_nilck rfl) rfl ?_
    refine o_T (y_fa fl_59_2 rfl) rfl ?_
    refine o_ld one_56 rfl m0 (At.got (At.refl.comp RepoM.a_refs)) rfl ?_
    refine o_T (y_move rfl) rfl ?_
    obtain ⟨c2, hx2, hm⟩ := bd1 hm
    refine o_callC en_140 rfl s_nil (t140 (ho2.rd.mono (fun _ hz => (ms (ms (mg hz))))) hx2) rfl (fun u2 S2 hR2 => ?_)
    obtain ⟨rfl, rfl⟩ := hR2
    refine o_rest ?_
    refine o_L (y_assign rfl) rfl rfl ?_
    refine o_nil0 rfl ?_
    refine c_seq ?_
    refine c_seq ?_
    refine c_region ?_
    refine o_T (y_move rfl) rfl ?_
    refine o_T (y_lss rfl rfl) rfl ?_
    refine o_nil1 16 rfl rfl ?_
    refine c_cond rfl (fun h2 => ?_) (fun h2 => ?_)
    · have hm := cd_t h2 hm
      refine c_seq ?_
      refine c_region ?_
      refine o_L (y_assign rfl) rfl rfl ?_
      refine o_nil0 rfl ?_
      refine c_ret ?_
      obtain ⟨rfl, rfl⟩ := pr2 hm
      refine fun aX wX heX hsX => ret1 Tryz.results62 heX rfl (s_take (s_take (s_take (s_take (s_take (s_take s_nil)))))) ?_
      exact ⟨v3, _, v4, _, rfl, rfl, ho1, ho2, ho3, ho4⟩
    · have hm := cd_f h2 hm
      refine c_skip ?_
      refine c_seq ?_
      refine c_region ?_
      refine o_T (y_move rfl) rfl ?_
      refine o_T (y_move rfl) rfl ?_
      refine o_T (y_build st_54 rfl (fbU rfl Head.u_name rfl rfl fbU0)) rfl ?_
      refine o_T (y_move rfl) rfl ?_
      refine o_T (y_nilck rfl) rfl ?_
      refine o_T (y_fa fl_59_2 rfl) rfl ?_
      refine o_ld one_56 rfl m0 (At.got (At.refl.comp RepoM.a_refs)) rfl ?_
      refine o_T (y_move rfl) rfl ?_
      obtain ⟨x1, hx3, hm⟩ := bd hm
      obtain ⟨b2, w1, cs1, y1, z1, vs1, hc1, ha1, hr1, hy1⟩ := ho2.rd.ix hx3
      obtain rfl : vs1 = Ref_.enc x1 := hr1
      refine o_T (hy1 sl_56 rfl rfl rfl) rfl ?_
      refine o_T (y_fa fl_96_1 rfl) rfl ?_
      refine o_ld one_3 rfl (ms (ms (mg hc1))) (At.getA (ha1.comp Ref_.a_seq)) rfl ?_
      obtain ⟨c3, z2, hx4, hm⟩ := bd2 hm
      refine o_callC en_145 rfl (s_take (s_take (s_take (s_take (s_take s_nil))))) (t145 ho1 ho2 ho3 ho4 hx4) rfl (fun u3 S3 hR3 => ?_)
      obtain ⟨v7, g7, v8, g8, rfl, rfl, ho5, ho6, ho7, ho8⟩ := hR3
      refine o_rest ?_
      refine o_L (y_assign rfl) rfl rfl ?_
      refine o_nil0 rfl ?_
      refine c_ret ?_
      obtain ⟨rfl, rfl⟩ := pr2 hm
      refine fun aX wX heX hsX => ret1 Tryz.results62 heX rfl (s_take (s_take (s_take (s_take (s_take (s_take s_nil)))))) ?_
      exact ⟨v7, _, v8, _, rfl, rfl, ho5, ho6, ho7, ho8⟩
end Go.Proofs.Qxb6500350aGreat
