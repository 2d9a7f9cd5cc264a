/- MADE BY PROGRAM (tools350/mir.py): mirror and walk. -/
import Derived.Test.Qxb6500350aGreatF2
set_option linter.unusedVariables false
set_option linter.unusedSimpArgs false
set_option maxRecDepth 20000
set_option maxHeartbeats 4000000
namespace Go.Proofs.Qxb6500350aGreat
open Go.Eng

/- (*repom.Repo).pay -/
def m125 (n : Nat) (m : RepoM) (w_ : Int) : Option (Bool × RepoM) :=
cond ((!m.lax) && (decide (m.room < w_))) (
some (false, m)) (
nm ({ m with room := (wi (m.room - w_)) } : RepoM) fun z1 =>
some (true, z1))
theorem t125 {n : Nat} {C : List Chunk} {rc1 : Bool} {rz1 : RepoM} {b1 : Nat} {m : RepoM} {v1 : Value} {g1 : List Chunk} {v2 : Value} {g2 : List Chunk} {v3 : Value} {g3 : List Chunk} {v4 : Value} {g4 : List Chunk} {w_ : Int} (ho1 : Own rNode v1 m.nodes g1) (ho2 : Own rRef_ v2 m.refs g2) (ho3 : Own rFile v3 m.index g3) (ho4 : Own rFile v4 m.work g4)  (hm : m125 n m w_ = some (rc1, rz1)) : Trip Tryz.prog 125 #[.pointer (some ⟨b1, 0, none⟩), .int .i64 w_] ([[(b1, .cells (RepoM.enc (v1) (v2) (v3) (v4) m).toArray 59 (0, 0))], g1, g2, g3, g4] ++ [C]) (fun u S' => .bool rc1 = u ∧ S' = [[(b1, .cells (RepoM.enc (v1) (v2) (v3) (v4) rz1).toArray 59 (0, 0))], g1, g2, g3, g4] ++ [C] ∧ Own rNode v1 rz1.nodes g1 ∧ Own rRef_ v2 rz1.refs g2 ∧ Own rFile v3 rz1.index g3 ∧ Own rFile v4 rz1.work g4) := by
  refine fn_entry (args := [.pointer (some ⟨b1, 0, none⟩), .int .i64 w_]) Tryz.func125 rfl Tryz.ntmps125 rfl (fun w0 => ?_)
  refine c_seq ?_
  refine c_region ?_
  refine o_L (y_assign rfl) rfl rfl ?_
  refine o_nil0 rfl ?_
  refine c_seq ?_
  refine c_seq ?_
  refine c_joinP (n := 0) (fun sh G => sh = [(17, .bool ((!m.lax) && (decide (m.room < w_))))] ∧ G = []) Sel.all' .z (fun _ _ h => h) ?_ ?_
  · skip
    refine c_region ?_
    refine o_T (y_move rfl) rfl ?_
    refine o_T (y_nilck rfl) rfl ?_
    refine o_T (y_fa fl_59_7 rfl) rfl ?_
    refine o_ld one_4 rfl m0 (At.got (At.refl.comp RepoM.a_lax)) rfl ?_
    refine o_T (y_not rfl) rfl ?_
    refine o_T (y_move rfl) rfl ?_
    refine o_split 10 rfl (fun h1 => ?_) (fun h1 => ?_)
    · skip
      refine o_take rfl rfl rfl ?_
      refine o_T (y_move rfl) rfl ?_
      refine o_take rfl rfl rfl ?_
      refine o_T (y_nilck rfl) rfl ?_
      refine o_take rfl rfl rfl ?_
      refine o_T (y_fa fl_59_6 rfl) rfl ?_
      refine o_take rfl rfl rfl ?_
      refine o_ld one_3 rfl m0 (At.got (At.refl.comp RepoM.a_room)) rfl ?_
      refine o_take rfl rfl rfl ?_
      refine o_T (y_move rfl) rfl ?_
      refine o_take rfl rfl rfl ?_
      refine o_T (y_lss rfl rfl) rfl ?_
      refine o_T (y_pickT rfl rfl) rfl ?_
      refine o_nil1 17 rfl rfl ?_
      refine ⟨_, _, ⟨rfl, rfl⟩, ⟨by first | rfl | exact gtb rfl (by simp only [h1, Bool.true_and, Bool.false_and, Bool.true_or, Bool.false_or, Bool.and_true, Bool.and_false, Bool.or_true, Bool.or_false, Bool.not_true, Bool.not_false]), trivial⟩, ⟨rfl, rfl⟩, _, (s_take (s_take (s_take (s_take (s_take (s_take s_nil))))))⟩
    · skip
      refine o_pass rfl rfl rfl rfl rfl ?_
      refine o_pass rfl rfl rfl rfl rfl ?_
      refine o_pass rfl rfl rfl rfl rfl ?_
      refine o_pass rfl rfl rfl rfl rfl ?_
      refine o_pass rfl rfl rfl rfl rfl ?_
      refine o_pass rfl rfl rfl rfl rfl ?_
      refine o_T (y_pickF rfl rfl) rfl ?_
      refine o_nil1 17 rfl rfl ?_
      refine ⟨_, _, ⟨rfl, rfl⟩, ⟨by first | rfl | exact gtb rfl (by simp only [h1, Bool.true_and, Bool.false_and, Bool.true_or, Bool.false_or, Bool.and_true, Bool.and_false, Bool.or_true, Bool.or_false, Bool.not_true, Bool.not_false]), trivial⟩, ⟨rfl, rfl⟩, _, (s_take (s_take (s_take (s_take (s_take (s_take s_nil))))))⟩
  · rintro sh G ⟨rfl, rfl⟩
    refine c_cond rfl (fun h2 => ?_) (fun h2 => ?_)
    · have hm := cd_t h2 hm
      refine c_seq ?_
      refine c_region ?_
      refine o_L (y_assign rfl) rfl rfl ?_
      refine o_nil0 rfl ?_
      refine c_ret ?_
      obtain ⟨rfl, rfl⟩ := pr2 hm
      refine fun aX wX heX hsX => ret1 Tryz.results125 heX rfl (s_take (s_take (s_take (s_take (s_take (s_take s_nil)))))) ?_
      exact ⟨rfl, rfl, ho1, ho2, ho3, ho4⟩
    · have hm := cd_f h2 hm
      refine c_skip ?_
      refine c_seq ?_
      refine c_region ?_
      refine o_T (y_move rfl) rfl ?_
      refine o_T (y_move rfl) rfl ?_
      refine o_T (y_nilck rfl) rfl ?_
      refine o_T (y_fa fl_59_6 rfl) rfl ?_
      refine o_ld one_3 rfl m0 (At.got (At.refl.comp RepoM.a_room)) rfl ?_
      refine o_T (y_move rfl) rfl ?_
      refine o_T (y_sub rfl rfl rfl) rfl ?_
      refine o_T (y_nilck rfl) rfl ?_
      refine o_T (y_fa fl_59_6 rfl) rfl ?_
      obtain ⟨z1, hn1, hm⟩ := nm_s hm
      have ho5 := ho1.to (l' := z1.nodes) (by subst hn1; rfl)
      have ho6 := ho2.to (l' := z1.refs) (by subst hn1; rfl)
      have ho7 := ho3.to (l' := z1.index) (by subst hn1; rfl)
      have ho8 := ho4.to (l' := z1.work) (by subst hn1; rfl)
      refine o_stN one_3 rfl rfl rfl (Upd.z RepoM.u_room) r0 (show (RepoM.enc (v1) (v2) (v3) (v4) z1) = _ from by subst hn1; rfl) ?_
      refine o_nil0 rfl ?_
      refine c_seq ?_
      refine c_region ?_
      refine o_L (y_assign rfl) rfl rfl ?_
      refine o_nil0 rfl ?_
      refine c_ret ?_
      obtain ⟨rfl, rfl⟩ := pr2 hm
      refine fun aX wX heX hsX => ret1 Tryz.results125 heX rfl (s_take (s_take (s_take (s_take (s_take (s_take s_nil)))))) ?_
      exact ⟨rfl, rfl, ho5, ho6, ho7, ho8⟩
end Go.Proofs.Qxb6500350aGreat
