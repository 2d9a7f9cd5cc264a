/- MADE BY PROGRAM (tools350/mir.py): mirror and walk. -/
import Derived.Test.Qxb6500350aGreatF2
import Derived.Test.Qxb6500350aGreatT136
import Derived.Test.Qxb6500350aGreatT140
import Derived.Test.Qxb6500350aGreatT125
import Derived.Test.Qxb6500350aGreatT143
set_option linter.unusedVariables false
set_option linter.unusedSimpArgs false
set_option maxRecDepth 20000
set_option maxHeartbeats 4000000
namespace Go.Proofs.Qxb6500350aGreat
open Go.Eng

/- (*repom.Repo).Delete -/
def m60 (n : Nat) (m : RepoM) (name : Str) : Option (Int × RepoM) :=
ob1 (m136 n name) fun c1 =>
cond (!c1) (
some (14, m)) (
ob1 (m140 n m.refs name) fun c2 =>
cond (decide (c2 < 0)) (
some (16, m)) (
cond (decide (m.head.name = name)) (
some (25, m)) (
ob2 (m125 n m 1) fun c3 z1 =>
cond (!c3) (
some (5, z1)) (
ob1 (m143 n z1.refs name) fun l1 =>
nm ({ z1 with refs := l1 } : RepoM) fun z2 =>
some (0, z2)))))
theorem t60 {n : Nat} {C : List Chunk} {rc1 : Int} {rz1 : RepoM} {b1 : Nat} {m : RepoM} {v1 : Value} {g1 : List Chunk} {v2 : Value} {g2 : List Chunk} {v3 : Value} {g3 : List Chunk} {v4 : Value} {g4 : List Chunk} {name : Str} (ho1 : Own rNode v1 m.nodes g1) (ho2 : Own rRef_ v2 m.refs g2) (ho3 : Own rFile v3 m.index g3) (ho4 : Own rFile v4 m.work g4)  (hm : m60 n m name = some (rc1, rz1)) : Trip Tryz.prog 60 #[.pointer (some ⟨b1, 0, none⟩), .string ⟨(name : Str).toArray⟩] ([[(b1, .cells (RepoM.enc (v1) (v2) (v3) (v4) m).toArray 59 (0, 0))], g1, g2, g3, g4] ++ [C]) (fun u S' => ∃ (ev2 : Value), ∃ (eg2 : List Chunk), .int .i64 rc1 = u ∧ S' = [[(b1, .cells (RepoM.enc (v1) (ev2) (v3) (v4) rz1).toArray 59 (0, 0))], g1, eg2, g3, g4] ++ [C] ∧ Own rNode v1 rz1.nodes g1 ∧ Own rRef_ ev2 rz1.refs eg2 ∧ Own rFile v3 rz1.index g3 ∧ Own rFile v4 rz1.work g4) := by
  refine fn_entry (args := [.pointer (some ⟨b1, 0, none⟩), .string ⟨(name : Str).toArray⟩]) Tryz.func60 rfl Tryz.ntmps60 rfl (fun w0 => ?_)
  refine c_seq ?_
  refine c_region ?_
  refine o_L (y_assign rfl) rfl rfl ?_
  refine o_nil0 rfl ?_
  refine c_seq ?_
  refine c_seq ?_
  refine c_region ?_
  refine o_T (y_move rfl) rfl ?_
  obtain ⟨c1, hx1, hm⟩ := bd1 hm
  refine o_callC en_136 rfl s_nil (t136 hx1) rfl (fun u1 S1 hR1 => ?_)
  obtain ⟨rfl, rfl⟩ := hR1
  refine o_rest ?_
  refine o_T (y_not rfl) rfl ?_
  refine o_nil1 7 rfl rfl ?_
  refine c_cond rfl (fun h1 => ?_) (fun h1 => ?_)
  · have hm := cd_t h1 hm
    refine c_seq ?_
    refine c_region ?_
    refine o_L (y_assign rfl) rfl rfl ?_
    refine o_nil0 rfl ?_
    refine c_ret ?_
    obtain ⟨rfl, rfl⟩ := pr2 hm
    refine fun aX wX heX hsX => ret1 Tryz.results60 heX rfl (s_take (s_take (s_take (s_take (s_take (s_take s_nil)))))) ?_
    exact ⟨v2, _, rfl, rfl, ho1, ho2, ho3, ho4⟩
  · have hm := cd_f h1 hm
    refine c_skip ?_
    refine c_seq ?_
    refine c_seq ?_
    refine c_region ?_
    refine o_T (y_move rfl) rfl ?_
    refine o_T (y_nilck rfl) rfl ?_
    refine o_T (y_fa fl_59_2 rfl) rfl ?_
    refine o_ld one_56 rfl m0 (At.got (At.refl.comp RepoM.a_refs)) rfl ?_
    refine o_T (y_move rfl) rfl ?_
    obtain ⟨c2, hx2, hm⟩ := bd1 hm
    refine o_callC en_140 rfl s_nil (t140 (ho2.rd.mono (fun _ hz => (ms (ms (mg hz))))) hx2) rfl (fun u2 S2 hR2 => ?_)
    obtain ⟨rfl, rfl⟩ := hR2
    refine o_rest ?_
    refine o_T (y_lss rfl rfl) rfl ?_
    refine o_nil1 14 rfl rfl ?_
    refine c_cond rfl (fun h2 => ?_) (fun h2 => ?_)
    · have hm := cd_t h2 hm
      refine c_seq ?_
      refine c_region ?_
      refine o_L (y_assign rfl) rfl rfl ?_
      refine o_nil0 rfl ?_
      refine c_ret ?_
      obtain ⟨rfl, rfl⟩ := pr2 hm
      refine fun aX wX heX hsX => ret1 Tryz.results60 heX rfl (s_take (s_take (s_take (s_take (s_take (s_take s_nil)))))) ?_
      exact ⟨v2, _, rfl, rfl, ho1, ho2, ho3, ho4⟩
    · have hm := cd_f h2 hm
      refine c_skip ?_
      refine c_seq ?_
      refine c_seq ?_
      refine c_region ?_
      refine o_T (y_move rfl) rfl ?_
      refine o_T (y_nilck rfl) rfl ?_
      refine o_T (y_fa fl_59_3 rfl) rfl ?_
      refine o_T (y_fa fl_54_0 rfl) rfl ?_
      refine o_ld one_9 rfl m0 (At.got ((At.refl.comp RepoM.a_head).comp Head.a_name)) rfl ?_
      refine o_T (y_move rfl) rfl ?_
      refine o_T (y_seq rfl rfl) rfl ?_
      refine o_nil1 21 rfl rfl ?_
      refine c_cond rfl (fun h3 => ?_) (fun h3 => ?_)
      · have hm := cd_t h3 hm
        refine c_seq ?_
        refine c_region ?_
        refine o_L (y_assign rfl) rfl rfl ?_
        refine o_nil0 rfl ?_
        refine c_ret ?_
        obtain ⟨rfl, rfl⟩ := pr2 hm
        refine fun aX wX heX hsX => ret1 Tryz.results60 heX rfl (s_take (s_take (s_take (s_take (s_take (s_take s_nil)))))) ?_
        exact ⟨v2, _, rfl, rfl, ho1, ho2, ho3, ho4⟩
      · have hm := cd_f h3 hm
        refine c_skip ?_
        refine c_seq ?_
        refine c_seq ?_
        refine c_region ?_
        refine o_T (y_move rfl) rfl ?_
        obtain ⟨c3, z1, hx3, hm⟩ := bd2 hm
        refine o_callC en_125 rfl (s_take (s_take (s_take (s_take (s_take s_nil))))) (t125 ho1 ho2 ho3 ho4 hx3) rfl (fun u3 S3 hR3 => ?_)
        obtain ⟨rfl, rfl, ho5, ho6, ho7, ho8⟩ := hR3
        refine o_rest ?_
        refine o_T (y_not rfl) rfl ?_
        refine o_nil1 24 rfl rfl ?_
        refine c_cond rfl (fun h4 => ?_) (fun h4 => ?_)
        · have hm := cd_t h4 hm
          refine c_seq ?_
          refine c_region ?_
          refine o_L (y_assign rfl) rfl rfl ?_
          refine o_nil0 rfl ?_
          refine c_ret ?_
          obtain ⟨rfl, rfl⟩ := pr2 hm
          refine fun aX wX heX hsX => ret1 Tryz.results60 heX rfl (s_take (s_take (s_take (s_take (s_take (s_take s_nil)))))) ?_
          exact ⟨v2, _, rfl, rfl, ho5, ho6, ho7, ho8⟩
        · have hm := cd_f h4 hm
          refine c_skip ?_
          refine c_seq ?_
          refine c_region ?_
          refine o_T (y_move rfl) rfl ?_
          refine o_T (y_move rfl) rfl ?_
          refine o_T (y_nilck rfl) rfl ?_
          refine o_T (y_fa fl_59_2 rfl) rfl ?_
          refine o_ld one_56 rfl m0 (At.got (At.refl.comp RepoM.a_refs)) rfl ?_
          refine o_T (y_move rfl) rfl ?_
          obtain ⟨l1, hx4, hm⟩ := bd1 hm
          refine o_callC en_143 rfl s_nil (t143 (ho6.rd.mono (fun _ hz => (ms (ms (mg hz))))) hx4) rfl (fun u4 S4 hR4 => ?_)
          obtain ⟨v9, g9, rfl, rfl, ho9⟩ := hR4
          refine o_rest ?_
          refine o_T (y_nilck rfl) rfl ?_
          refine o_T (y_fa fl_59_2 rfl) rfl ?_
          obtain ⟨z2, hn1, hm⟩ := nm_s hm
          have ho10 := ho5.to (l' := z2.nodes) (by subst hn1; rfl)
          have ho11 := ho9.to (l' := z2.refs) (by subst hn1; rfl)
          have ho12 := ho7.to (l' := z2.index) (by subst hn1; rfl)
          have ho13 := ho8.to (l' := z2.work) (by subst hn1; rfl)
          refine o_stN one_56 rfl rfl ho9.pl (Upd.z RepoM.u_refs) (rs r0) (show (RepoM.enc (v1) (v9) (v3) (v4) z2) = _ from by subst hn1; rfl) ?_
          refine o_nil0 rfl ?_
          refine c_seq ?_
          refine c_region ?_
          refine o_L (y_assign rfl) rfl rfl ?_
          refine o_nil0 rfl ?_
          refine c_ret ?_
          obtain ⟨rfl, rfl⟩ := pr2 hm
          refine fun aX wX heX hsX => ret1 Tryz.results60 heX rfl (s_get (ks k0) (s_get (ks k0) (s_take (s_skip (s_take (s_take (s_take s_nil))))))) ?_
          exact ⟨v9, _, rfl, rfl, ho10, ho11, ho12, ho13⟩
end Go.Proofs.Qxb6500350aGreat
