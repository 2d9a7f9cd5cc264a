/- MADE BY PROGRAM (tools350/mir.py): mirror and walk. -/
import Derived.Test.Qxb6500350aGreatF2
import Derived.Test.Qxb6500350aGreatT113
import Derived.Test.Qxb6500350aGreatT116
import Derived.Test.Qxb6500350aGreatT117
set_option linter.unusedVariables false
set_option linter.unusedSimpArgs false
set_option maxRecDepth 20000
set_option maxHeartbeats 4000000
namespace Go.Proofs.Qxb6500350aGreat
open Go.Eng

/- (*repom.Repo).Write -/
def m48 (n : Nat) (m : RepoM) (path : Str) (data : Str) : Option (Int × RepoM) :=
ob1 (m113 n path) fun c1 =>
cond (!c1) (
some (9, m)) (
cond (decide ((180 : Int) < (data.length : Int))) (
some (4, m)) (
ob1 (m116 n m.work path) fun c2 =>
cond (decide (¬ (c2 = 0))) (
some (c2, m)) (
ob1 (m117 n m.work ({ File.zero with path := path, data := data })) fun l1 =>
nm ({ m with work := l1 } : RepoM) fun z1 =>
some (0, z1))))
theorem t48 {n : Nat} {C : List Chunk} {rc1 : Int} {rz1 : RepoM} {b1 : Nat} {m : RepoM} {v1 : Value} {g1 : List Chunk} {v2 : Value} {g2 : List Chunk} {v3 : Value} {g3 : List Chunk} {v4 : Value} {g4 : List Chunk} {path : Str} {data : Str} (ho1 : Own rNode v1 m.nodes g1) (ho2 : Own rRef_ v2 m.refs g2) (ho3 : Own rFile v3 m.index g3) (ho4 : Own rFile v4 m.work g4)  (hm : m48 n m path data = some (rc1, rz1)) : Trip Tryz.prog 48 #[.pointer (some ⟨b1, 0, none⟩), .string ⟨(path : Str).toArray⟩, .string ⟨(data : Str).toArray⟩] ([[(b1, .cells (RepoM.enc (v1) (v2) (v3) (v4) m).toArray 59 (0, 0))], g1, g2, g3, g4] ++ [C]) (fun u S' => ∃ (ev4 : Value), ∃ (eg4 : List Chunk), .int .i64 rc1 = u ∧ S' = [[(b1, .cells (RepoM.enc (v1) (v2) (v3) (ev4) rz1).toArray 59 (0, 0))], g1, g2, g3, eg4] ++ [C] ∧ Own rNode v1 rz1.nodes g1 ∧ Own rRef_ v2 rz1.refs g2 ∧ Own rFile v3 rz1.index g3 ∧ Own rFile ev4 rz1.work eg4) := by
  refine fn_entry (args := [.pointer (some ⟨b1, 0, none⟩), .string ⟨(path : Str).toArray⟩, .string ⟨(data : Str).toArray⟩]) Tryz.func48 rfl Tryz.ntmps48 rfl (fun w0 => ?_)
  refine c_seq ?_
  refine c_region ?_
  refine o_L (y_assign rfl) rfl rfl ?_
  refine o_nil0 rfl ?_
  refine c_seq ?_
  refine c_seq ?_
  refine c_region ?_
  refine o_T (y_move rfl) rfl ?_
  obtain ⟨c1, hx1, hm⟩ := bd1 hm
  refine o_callC en_113 rfl s_nil (t113 hx1) rfl (fun u1 S1 hR1 => ?_)
  obtain ⟨rfl, rfl⟩ := hR1
  refine o_rest ?_
  refine o_T (y_not rfl) rfl ?_
  refine o_nil1 10 rfl rfl ?_
  refine c_cond rfl (fun h1 => ?_) (fun h1 => ?_)
  · have hm := cd_t h1 hm
    refine c_seq ?_
    refine c_region ?_
    refine o_L (y_assign rfl) rfl rfl ?_
    refine o_nil0 rfl ?_
    refine c_ret ?_
    obtain ⟨rfl, rfl⟩ := pr2 hm
    refine fun aX wX heX hsX => ret1 Tryz.results48 heX rfl (s_take (s_take (s_take (s_take (s_take (s_take s_nil)))))) ?_
    exact ⟨v4, _, rfl, rfl, ho1, ho2, ho3, ho4⟩
  · have hm := cd_f h1 hm
    refine c_skip ?_
    refine c_seq ?_
    refine c_seq ?_
    refine c_region ?_
    refine o_T (y_move rfl) rfl ?_
    refine o_T (y_slen Tryz.underlying9 rfl) rfl ?_
    refine o_T (y_gtr rfl rfl) rfl ?_
    refine o_nil1 13 rfl rfl ?_
    refine c_cond rfl (fun h2 => ?_) (fun h2 => ?_)
    · have hm := cd_t h2 hm
      refine c_seq ?_
      refine c_region ?_
      refine o_L (y_assign rfl) rfl rfl ?_
      refine o_nil0 rfl ?_
      refine c_ret ?_
      obtain ⟨rfl, rfl⟩ := pr2 hm
      refine fun aX wX heX hsX => ret1 Tryz.results48 heX rfl (s_take (s_take (s_take (s_take (s_take (s_take s_nil)))))) ?_
      exact ⟨v4, _, rfl, rfl, ho1, ho2, ho3, ho4⟩
    · have hm := cd_f h2 hm
      refine c_skip ?_
      refine c_seq ?_
      refine c_region ?_
      refine o_T (y_move rfl) rfl ?_
      refine o_T (y_nilck rfl) rfl ?_
      refine o_T (y_fa fl_59_5 rfl) rfl ?_
      refine o_ld one_57 rfl m0 (At.got (At.refl.comp RepoM.a_work)) rfl ?_
      refine o_T (y_move rfl) rfl ?_
      obtain ⟨c2, hx2, hm⟩ := bd1 hm
      refine o_callC en_116 rfl s_nil (t116 (ho4.rd.mono (fun _ hz => (ms (ms (ms (ms (mg hz))))))) hx2) rfl (fun u2 S2 hR2 => ?_)
      obtain ⟨rfl, rfl⟩ := hR2
      refine o_rest ?_
      refine o_L (y_assign rfl) rfl rfl ?_
      refine o_nil0 rfl ?_
      refine c_seq ?_
      refine c_seq ?_
      refine c_region ?_
      refine o_T (y_move rfl) rfl ?_
      refine o_T (y_neq rfl rfl) rfl ?_
      refine o_nil1 21 rfl rfl ?_
      refine c_cond rfl (fun h3 => ?_) (fun h3 => ?_)
      · have hm := cd_t h3 hm
        refine c_seq ?_
        refine c_region ?_
        refine o_T (y_move rfl) rfl ?_
        refine o_L (y_assign rfl) rfl rfl ?_
        refine o_nil0 rfl ?_
        refine c_ret ?_
        obtain ⟨rfl, rfl⟩ := pr2 hm
        refine fun aX wX heX hsX => ret1 Tryz.results48 heX rfl (s_take (s_take (s_take (s_take (s_take (s_take s_nil)))))) ?_
        exact ⟨v4, _, rfl, rfl, ho1, ho2, ho3, ho4⟩
      · have hm := cd_f h3 hm
        refine c_skip ?_
        refine c_seq ?_
        refine c_region ?_
        refine o_T (y_move rfl) rfl ?_
        refine o_T (y_move rfl) rfl ?_
        refine o_T (y_nilck rfl) rfl ?_
        refine o_T (y_fa fl_59_5 rfl) rfl ?_
        refine o_ld one_57 rfl m0 (At.got (At.refl.comp RepoM.a_work)) rfl ?_
        refine o_T (y_move rfl) rfl ?_
        refine o_T (y_move rfl) rfl ?_
        refine o_T (y_build st_71 rfl (fbU rfl File.u_path rfl rfl (fbU rfl File.u_data rfl rfl fbU0))) rfl ?_
        obtain ⟨l1, hx3, hm⟩ := bd1 hm
        refine o_callC en_117 rfl s_nil (t117 (ho4.rd.mono (fun _ hz => (ms (ms (ms (ms (mg hz))))))) hx3) rfl (fun u3 S3 hR3 => ?_)
        obtain ⟨v5, g5, rfl, rfl, ho5⟩ := hR3
        refine o_rest ?_
        refine o_T (y_nilck rfl) rfl ?_
        refine o_T (y_fa fl_59_5 rfl) rfl ?_
        obtain ⟨z1, hn1, hm⟩ := nm_s hm
        have ho6 := ho1.to (l' := z1.nodes) (by subst hn1; rfl)
        have ho7 := ho2.to (l' := z1.refs) (by subst hn1; rfl)
        have ho8 := ho3.to (l' := z1.index) (by subst hn1; rfl)
        have ho9 := ho5.to (l' := z1.work) (by subst hn1; rfl)
        refine o_stN one_57 rfl rfl ho5.pl (Upd.z RepoM.u_work) (rs r0) (show (RepoM.enc (v1) (v2) (v3) (v5) z1) = _ from by subst hn1; rfl) ?_
        refine o_nil0 rfl ?_
        refine c_seq ?_
        refine c_region ?_
        refine o_L (y_assign rfl) rfl rfl ?_
        refine o_nil0 rfl ?_
        refine c_ret ?_
        obtain ⟨rfl, rfl⟩ := pr2 hm
        refine fun aX wX heX hsX => ret1 Tryz.results48 heX rfl (s_get (ks k0) (s_get (ks k0) (s_get (ks k0) (s_get (ks k0) (s_take (s_skip (s_take s_nil))))))) ?_
        exact ⟨v5, _, rfl, rfl, ho6, ho7, ho8, ho9⟩
end Go.Proofs.Qxb6500350aGreat
