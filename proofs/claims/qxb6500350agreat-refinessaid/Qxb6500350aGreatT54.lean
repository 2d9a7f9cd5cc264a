/- MADE BY PROGRAM (tools350/mir.py): mirror and walk. -/
import Derived.Test.Qxb6500350aGreatF2
import Derived.Test.Qxb6500350aGreatT118
import Derived.Test.Qxb6500350aGreatT119
import Derived.Test.Qxb6500350aGreatT124
import Derived.Test.Qxb6500350aGreatT125
set_option linter.unusedVariables false
set_option linter.unusedSimpArgs false
set_option maxRecDepth 20000
set_option maxHeartbeats 4000000
namespace Go.Proofs.Qxb6500350aGreat
open Go.Eng

/- (*repom.Repo).Rm -/
def m54 (n : Nat) (m : RepoM) (path : Str) : Option (Int × RepoM) :=
ob1 (m118 n m.index path) fun c1 =>
cond (decide (c1 < 0)) (
some (13, m)) (
ob1 (m119 n m.index path) fun l1 =>
ob1 (m124 n l1) fun c2 =>
ob2 (m125 n m (wi (c2 + 1))) fun c3 z1 =>
cond (!c3) (
some (5, z1)) (
nm ({ z1 with index := l1 } : RepoM) fun z2 =>
some (0, z2)))
theorem t54 {n : Nat} {C : List Chunk} {rc1 : Int} {rz1 : RepoM} {b1 : Nat} {m : RepoM} {v1 : Value} {g1 : List Chunk} {v2 : Value} {g2 : List Chunk} {v3 : Value} {g3 : List Chunk} {v4 : Value} {g4 : List Chunk} {path : Str} (ho1 : Own rNode v1 m.nodes g1) (ho2 : Own rRef_ v2 m.refs g2) (ho3 : Own rFile v3 m.index g3) (ho4 : Own rFile v4 m.work g4)  (hm : m54 n m path = some (rc1, rz1)) : Trip Tryz.prog 54 #[.pointer (some ⟨b1, 0, none⟩), .string ⟨(path : Str).toArray⟩] ([[(b1, .cells (RepoM.enc (v1) (v2) (v3) (v4) m).toArray 59 (0, 0))], g1, g2, g3, g4] ++ [C]) (fun u S' => ∃ (ev3 : Value), ∃ (eg3 : List Chunk), .int .i64 rc1 = u ∧ S' = [[(b1, .cells (RepoM.enc (v1) (v2) (ev3) (v4) rz1).toArray 59 (0, 0))], g1, g2, eg3, g4] ++ [C] ∧ Own rNode v1 rz1.nodes g1 ∧ Own rRef_ v2 rz1.refs g2 ∧ Own rFile ev3 rz1.index eg3 ∧ Own rFile v4 rz1.work g4) := by
  refine fn_entry (args := [.pointer (some ⟨b1, 0, none⟩), .string ⟨(path : Str).toArray⟩]) Tryz.func54 rfl Tryz.ntmps54 rfl (fun w0 => ?_)
  refine c_seq ?_
  refine c_region ?_
  refine o_L (y_assign rfl) rfl rfl ?_
  refine o_nil0 rfl ?_
  refine c_seq ?_
  refine c_seq ?_
  refine c_region ?_
  refine o_T (y_move rfl) rfl ?_
  refine o_T (y_nilck rfl) rfl ?_
  refine o_T (y_fa fl_59_4 rfl) rfl ?_
  refine o_ld one_57 rfl m0 (At.got (At.refl.comp RepoM.a_index)) rfl ?_
  refine o_T (y_move rfl) rfl ?_
  obtain ⟨c1, hx1, hm⟩ := bd1 hm
  refine o_callC en_118 rfl s_nil (t118 (ho3.rd.mono (fun _ hz => (ms (ms (ms (mg hz)))))) hx1) rfl (fun u1 S1 hR1 => ?_)
  obtain ⟨rfl, rfl⟩ := hR1
  refine o_rest ?_
  refine o_T (y_lss rfl rfl) rfl ?_
  refine o_nil1 13 rfl rfl ?_
  refine c_cond rfl (fun h1 => ?_) (fun h1 => ?_)
  · have hm := cd_t h1 hm
    refine c_seq ?_
    refine c_region ?_
    refine o_L (y_assign rfl) rfl rfl ?_
    refine o_nil0 rfl ?_
    refine c_ret ?_
    obtain ⟨rfl, rfl⟩ := pr2 hm
    refine fun aX wX heX hsX => ret1 Tryz.results54 heX rfl (s_take (s_take (s_take (s_take (s_take (s_take s_nil)))))) ?_
    exact ⟨v3, _, rfl, rfl, ho1, ho2, ho3, ho4⟩
  · have hm := cd_f h1 hm
    refine c_skip ?_
    refine c_seq ?_
    refine c_region ?_
    refine o_T (y_move rfl) rfl ?_
    refine o_T (y_nilck rfl) rfl ?_
    refine o_T (y_fa fl_59_4 rfl) rfl ?_
    refine o_ld one_57 rfl m0 (At.got (At.refl.comp RepoM.a_index)) rfl ?_
    refine o_T (y_move rfl) rfl ?_
    obtain ⟨l1, hx2, hm⟩ := bd1 hm
    refine o_callC en_119 rfl s_nil (t119 (ho3.rd.mono (fun _ hz => (ms (ms (ms (mg hz)))))) hx2) rfl (fun u2 S2 hR2 => ?_)
    obtain ⟨v5, g5, rfl, rfl, ho5⟩ := hR2
    refine o_rest ?_
    refine o_L (y_assign rfl) rfl rfl ?_
    refine o_nil0 rfl ?_
    refine c_seq ?_
    refine c_region ?_
    refine o_T (y_move rfl) rfl ?_
    obtain ⟨c2, hx3, hm⟩ := bd1 hm
    refine o_callC en_124 rfl s_nil (t124 (ho5.rd.mono (fun _ hz => (mg hz))) hx3) rfl (fun u3 S3 hR3 => ?_)
    obtain ⟨rfl, rfl⟩ := hR3
    refine o_rest ?_
    refine o_T (y_add rfl rfl rfl) rfl ?_
    refine o_L (y_assign rfl) rfl rfl ?_
    refine o_nil0 rfl ?_
    refine c_seq ?_
    refine c_seq ?_
    refine c_region ?_
    refine o_T (y_move rfl) rfl ?_
    refine o_T (y_move rfl) rfl ?_
    obtain ⟨c3, z1, hx4, hm⟩ := bd2 hm
    refine o_callC en_125 rfl (s_skip (s_take (s_take (s_take (s_take (s_take s_nil)))))) (t125 ho1 ho2 ho3 ho4 hx4) rfl (fun u4 S4 hR4 => ?_)
    obtain ⟨rfl, rfl, ho6, ho7, ho8, ho9⟩ := hR4
    refine o_rest ?_
    refine o_T (y_not rfl) rfl ?_
    refine o_nil1 26 rfl rfl ?_
    refine c_cond rfl (fun h2 => ?_) (fun h2 => ?_)
    · have hm := cd_t h2 hm
      refine c_seq ?_
      refine c_region ?_
      refine o_L (y_assign rfl) rfl rfl ?_
      refine o_nil0 rfl ?_
      refine c_ret ?_
      obtain ⟨rfl, rfl⟩ := pr2 hm
      refine fun aX wX heX hsX => ret1 Tryz.results54 heX rfl (s_take (s_take (s_take (s_take (s_take (s_skip (s_take s_nil))))))) ?_
      exact ⟨v3, _, rfl, rfl, ho6, ho7, ho8, ho9⟩
    · have hm := cd_f h2 hm
      refine c_skip ?_
      refine c_seq ?_
      refine c_region ?_
      refine o_T (y_move rfl) rfl ?_
      refine o_T (y_move rfl) rfl ?_
      refine o_T (y_nilck rfl) rfl ?_
      refine o_T (y_fa fl_59_4 rfl) rfl ?_
      obtain ⟨z2, hn1, hm⟩ := nm_s hm
      have ho10 := ho6.to (l' := z2.nodes) (by subst hn1; rfl)
      have ho11 := ho7.to (l' := z2.refs) (by subst hn1; rfl)
      have ho12 := ho5.to (l' := z2.index) (by subst hn1; rfl)
      have ho13 := ho9.to (l' := z2.work) (by subst hn1; rfl)
      refine o_stN one_57 rfl rfl ho5.pl (Upd.z RepoM.u_index) r0 (show (RepoM.enc (v1) (v2) (v5) (v4) z2) = _ from by subst hn1; rfl) ?_
      refine o_nil0 rfl ?_
      refine c_seq ?_
      refine c_region ?_
      refine o_L (y_assign rfl) rfl rfl ?_
      refine o_nil0 rfl ?_
      refine c_ret ?_
      obtain ⟨rfl, rfl⟩ := pr2 hm
      refine fun aX wX heX hsX => ret1 Tryz.results54 heX rfl (s_take (s_take (s_take (s_skip (s_get (ks k0) (s_take (s_take s_nil))))))) ?_
      exact ⟨v5, _, rfl, rfl, ho10, ho11, ho12, ho13⟩
end Go.Proofs.Qxb6500350aGreat
