/- MADE BY PROGRAM (tools350/mir.py): mirror and walk. -/
import Derived.Test.Qxb6500350aGreatF2
import Derived.Test.Qxb6500350aGreatT156
import Derived.Test.Qxb6500350aGreatT158
import Derived.Test.Qxb6500350aGreatT124
import Derived.Test.Qxb6500350aGreatT125
import Derived.Test.Qxb6500350aGreatT27
set_option linter.unusedVariables false
set_option linter.unusedSimpArgs false
set_option maxRecDepth 20000
set_option maxHeartbeats 4000000
namespace Go.Proofs.Qxb6500350aGreat
open Go.Eng

/- (*repom.Repo).goTo -/
def m145 (n : Nat) (m : RepoM) (h_ : Head) (seq : Int) : Option (Int × RepoM) :=
cond (decide (¬ (m.head.merge = 0))) (
some (24, m)) (
ob1 (m156 n m) fun c1 =>
cond (!c1) (
some (22, m)) (
ob1 (m158 n m seq) fun l1 =>
ob1 (m124 n l1) fun c2 =>
ob2 (m125 n m (wi (c2 + 1))) fun c3 z1 =>
cond (!c3) (
some (5, z1)) (
nm ({ z1 with head := h_ } : RepoM) fun z2 =>
ob1 (m27 n l1) fun l2 =>
nm ({ z2 with index := l2 } : RepoM) fun z3 =>
ob1 (m27 n l1) fun l3 =>
nm ({ z3 with work := l3 } : RepoM) fun z4 =>
some (0, z4))))
theorem t145 {n : Nat} {C : List Chunk} {rc1 : Int} {rz1 : RepoM} {b1 : Nat} {m : RepoM} {v1 : Value} {g1 : List Chunk} {v2 : Value} {g2 : List Chunk} {v3 : Value} {g3 : List Chunk} {v4 : Value} {g4 : List Chunk} {h_ : Head} {seq : Int} (ho1 : Own rNode v1 m.nodes g1) (ho2 : Own rRef_ v2 m.refs g2) (ho3 : Own rFile v3 m.index g3) (ho4 : Own rFile v4 m.work g4)  (hm : m145 n m h_ seq = some (rc1, rz1)) : Trip Tryz.prog 145 #[.pointer (some ⟨b1, 0, none⟩), .agg (Head.enc h_).toArray, .int .i64 seq] ([[(b1, .cells (RepoM.enc (v1) (v2) (v3) (v4) m).toArray 59 (0, 0))], g1, g2, g3, g4] ++ [C]) (fun u S' => ∃ (ev3 : Value), ∃ (eg3 : List Chunk), ∃ (ev4 : Value), ∃ (eg4 : List Chunk), .int .i64 rc1 = u ∧ S' = [[(b1, .cells (RepoM.enc (v1) (v2) (ev3) (ev4) rz1).toArray 59 (0, 0))], g1, g2, eg3, eg4] ++ [C] ∧ Own rNode v1 rz1.nodes g1 ∧ Own rRef_ v2 rz1.refs g2 ∧ Own rFile ev3 rz1.index eg3 ∧ Own rFile ev4 rz1.work eg4) := by
  refine fn_entry (args := [.pointer (some ⟨b1, 0, none⟩), .agg (Head.enc h_).toArray, .int .i64 seq]) Tryz.func145 rfl Tryz.ntmps145 rfl (fun w0 => ?_)
  refine c_seq ?_
  refine c_region ?_
  refine o_box rfl rfl rfl rfl (fun b2 => ?_)
  refine o_L (y_assign rfl) rfl rfl ?_
  refine o_nil0 rfl ?_
  refine c_seq ?_
  refine c_seq ?_
  refine c_region ?_
  refine o_T (y_move rfl) rfl ?_
  refine o_T (y_nilck rfl) rfl ?_
  refine o_T (y_fa fl_59_3 rfl) rfl ?_
  refine o_T (y_fa fl_54_2 rfl) rfl ?_
  refine o_ld one_3 rfl (ms m0) (At.got ((At.refl.comp RepoM.a_head).comp Head.a_merge)) rfl ?_
  refine o_T (y_neq rfl rfl) rfl ?_
  refine o_nil1 14 rfl rfl ?_
  refine c_cond rfl (fun h1 => ?_) (fun h1 => ?_)
  · have hm := cd_t h1 hm
    refine c_seq ?_
    refine c_region ?_
    refine o_L (y_assign rfl) rfl rfl ?_
    refine o_nil0 rfl ?_
    refine c_ret ?_
    obtain ⟨rfl, rfl⟩ := pr2 hm
    refine fun aX wX heX hsX => ret1 Tryz.results145 heX rfl (s_skip (s_take (s_take (s_take (s_take (s_take (s_take s_nil))))))) ?_
    exact ⟨v3, _, v4, _, rfl, rfl, ho1, ho2, ho3, ho4⟩
  · have hm := cd_f h1 hm
    refine c_skip ?_
    refine c_seq ?_
    refine c_seq ?_
    refine c_region ?_
    refine o_T (y_move rfl) rfl ?_
    obtain ⟨c1, hx1, hm⟩ := bd1 hm
    refine o_callC en_156 rfl (s_skip (s_take (s_take (s_take (s_take (s_take s_nil)))))) (t156 ho1 ho2 ho3 ho4 hx1) rfl (fun u1 S1 hR1 => ?_)
    obtain ⟨rfl, rfl⟩ := hR1
    refine o_rest ?_
    refine o_T (y_not rfl) rfl ?_
    refine o_nil1 17 rfl rfl ?_
    refine c_cond rfl (fun h2 => ?_) (fun h2 => ?_)
    · have hm := cd_t h2 hm
      refine c_seq ?_
      refine c_region ?_
      refine o_L (y_assign rfl) rfl rfl ?_
      refine o_nil0 rfl ?_
      refine c_ret ?_
      obtain ⟨rfl, rfl⟩ := pr2 hm
      refine fun aX wX heX hsX => ret1 Tryz.results145 heX rfl (s_take (s_take (s_take (s_take (s_take (s_skip (s_take s_nil))))))) ?_
      exact ⟨v3, _, v4, _, rfl, rfl, ho1, ho2, ho3, ho4⟩
    · have hm := cd_f h2 hm
      refine c_skip ?_
      refine c_seq ?_
      refine c_region ?_
      refine o_T (y_move rfl) rfl ?_
      refine o_T (y_move rfl) rfl ?_
      obtain ⟨l1, hx2, hm⟩ := bd1 hm
      refine o_callC en_158 rfl (s_take (s_take (s_take (s_take (s_take s_nil))))) (t158 ho1 ho2 ho3 ho4 hx2) rfl (fun u2 S2 hR2 => ?_)
      obtain ⟨v5, rfl, rfl, hr1⟩ := hR2
      refine o_rest ?_
      refine o_L (y_assign rfl) rfl rfl ?_
      refine o_nil0 rfl ?_
      refine c_seq ?_
      refine c_region ?_
      refine o_T (y_move rfl) rfl ?_
      obtain ⟨c2, hx3, hm⟩ := bd1 hm
      refine o_callC en_124 rfl s_nil (t124 (hr1.mono (fun _ hz => (ms (mg hz)))) hx3) rfl (fun u3 S3 hR3 => ?_)
      obtain ⟨rfl, rfl⟩ := hR3
      refine o_rest ?_
      refine o_T (y_add rfl rfl rfl) rfl ?_
      refine o_L (y_assign rfl) rfl rfl ?_
      refine o_nil0 rfl ?_
      refine c_seq ?_
      refine c_seq ?_
      refine c_region ?_
      refine o_T (y_move rfl) rfl ?_
      refine o_T (y_move rfl) rfl ?_
      obtain ⟨c3, z1, hx4, hm⟩ := bd2 hm
      refine o_callC en_125 rfl (s_take (s_take (s_take (s_take (s_take s_nil))))) (t125 ho1 ho2 ho3 ho4 hx4) rfl (fun u4 S4 hR4 => ?_)
      obtain ⟨rfl, rfl, ho5, ho6, ho7, ho8⟩ := hR4
      refine o_rest ?_
      refine o_T (y_not rfl) rfl ?_
      refine o_nil1 27 rfl rfl ?_
      refine c_cond rfl (fun h3 => ?_) (fun h3 => ?_)
      · have hm := cd_t h3 hm
        refine c_seq ?_
        refine c_region ?_
        refine o_L (y_assign rfl) rfl rfl ?_
        refine o_nil0 rfl ?_
        refine c_ret ?_
        obtain ⟨rfl, rfl⟩ := pr2 hm
        refine fun aX wX heX hsX => ret1 Tryz.results145 heX rfl (s_take (s_take (s_take (s_take (s_take (s_skip (s_take s_nil))))))) ?_
        exact ⟨v3, _, v4, _, rfl, rfl, ho5, ho6, ho7, ho8⟩
      · have hm := cd_f h3 hm
        refine c_skip ?_
        refine c_seq ?_
        refine c_region ?_
        refine o_T (y_move rfl) rfl ?_
        refine o_lda ag_54 rfl (ms (ms (ms (ms (ms m0))))) (At.exs At.refl (Head.len _)) (At.fits At.refl (Head.len _)) rfl ?_
        refine o_T (y_nilck rfl) rfl ?_
        refine o_T (y_fa fl_59_3 rfl) rfl ?_
        obtain ⟨z2, hn1, hm⟩ := nm_s hm
        have ho9 := ho5.to (l' := z2.nodes) (by subst hn1; rfl)
        have ho10 := ho6.to (l' := z2.refs) (by subst hn1; rfl)
        have ho11 := ho7.to (l' := z2.index) (by subst hn1; rfl)
        have ho12 := ho8.to (l' := z2.work) (by subst hn1; rfl)
        refine o_stNA ag_54 rfl rfl (Head.plain _) (Head.len _) (Upd.z RepoM.u_head) r0 (show (RepoM.enc (v1) (v2) (v3) (v4) z2) = _ from by subst hn1; rfl) ?_
        refine o_nil0 rfl ?_
        refine c_seq ?_
        refine c_region ?_
        refine o_T (y_move rfl) rfl ?_
        refine o_T (y_move rfl) rfl ?_
        obtain ⟨l2, hx5, hm⟩ := bd1 hm
        refine o_callC en_27 rfl s_nil (t27 (hr1.mono (fun _ hz => (ms (mg hz)))) hx5) rfl (fun u5 S5 hR5 => ?_)
        obtain ⟨v10, g9, rfl, rfl, ho13⟩ := hR5
        refine o_rest ?_
        refine o_T (y_nilck rfl) rfl ?_
        refine o_T (y_fa fl_59_4 rfl) rfl ?_
        obtain ⟨z3, hn2, hm⟩ := nm_s hm
        have ho14 := ho9.to (l' := z3.nodes) (by subst hn2; rfl)
        have ho15 := ho10.to (l' := z3.refs) (by subst hn2; rfl)
        have ho16 := ho13.to (l' := z3.index) (by subst hn2; rfl)
        have ho17 := ho12.to (l' := z3.work) (by subst hn2; rfl)
        refine o_stN one_57 rfl rfl ho13.pl (Upd.z RepoM.u_index) (rs r0) (show (RepoM.enc (v1) (v2) (v10) (v4) z3) = _ from by subst hn2; rfl) ?_
        refine o_nil0 rfl ?_
        refine c_seq ?_
        refine c_region ?_
        refine o_T (y_move rfl) rfl ?_
        refine o_T (y_move rfl) rfl ?_
        obtain ⟨l3, hx6, hm⟩ := bd1 hm
        refine o_callC en_27 rfl s_nil (t27 (hr1.mono (fun _ hz => (ms (ms (mg hz))))) hx6) rfl (fun u6 S6 hR6 => ?_)
        obtain ⟨v11, g10, rfl, rfl, ho18⟩ := hR6
        refine o_rest ?_
        refine o_T (y_nilck rfl) rfl ?_
        refine o_T (y_fa fl_59_5 rfl) rfl ?_
        obtain ⟨z4, hn3, hm⟩ := nm_s hm
        have ho19 := ho14.to (l' := z4.nodes) (by subst hn3; rfl)
        have ho20 := ho15.to (l' := z4.refs) (by subst hn3; rfl)
        have ho21 := ho16.to (l' := z4.index) (by subst hn3; rfl)
        have ho22 := ho18.to (l' := z4.work) (by subst hn3; rfl)
        refine o_stN one_57 rfl rfl ho18.pl (Upd.z RepoM.u_work) (rs (rs r0)) (show (RepoM.enc (v1) (v2) (v10) (v11) z4) = _ from by subst hn3; rfl) ?_
        refine o_nil0 rfl ?_
        refine c_seq ?_
        refine c_region ?_
        refine o_L (y_assign rfl) rfl rfl ?_
        refine o_nil0 rfl ?_
        refine c_ret ?_
        obtain ⟨rfl, rfl⟩ := pr2 hm
        refine fun aX wX heX hsX => ret1 Tryz.results145 heX rfl (s_get (ks (ks k0)) (s_get (ks (ks k0)) (s_get (ks (ks k0)) (s_get (ks k0) (s_take (s_skip (s_skip (s_skip (s_take s_nil))))))))) ?_
        exact ⟨v10, _, v11, _, rfl, rfl, ho19, ho20, ho21, ho22⟩
end Go.Proofs.Qxb6500350aGreat
