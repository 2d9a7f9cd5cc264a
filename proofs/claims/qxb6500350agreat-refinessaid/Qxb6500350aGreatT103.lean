/- MADE BY PROGRAM (tools350/mir.py): mirror and walk. -/
import Derived.Test.Qxb6500350aGreatF2
import Derived.Test.Qxb6500350aGreatT118
import Derived.Test.Qxb6500350aGreatT185
import Derived.Test.Qxb6500350aGreatT186
set_option linter.unusedVariables false
set_option linter.unusedSimpArgs false
set_option maxRecDepth 20000
set_option maxHeartbeats 4000000
namespace Go.Proofs.Qxb6500350aGreat
open Go.Eng

/- (*repom.Repo).Diff -/
def m103 (n : Nat) (m : RepoM) (path : Str) : Option ((List Hunk) × Int) :=
ob1 (m118 n m.index path) fun c1 =>
ob1 (m118 n m.work path) fun c2 =>
cond ((decide (c1 < 0)) && (decide (c2 < 0))) (
some (([] : List Hunk), 13)) (
ob1 (cond (decide ((0 : Int) ≤ c1)) (
Option.bind (ixL m.index c1) fun x1 =>
some x1.data) (
some [])) fun c3 =>
cond (decide ((0 : Int) ≤ c2)) (
Option.bind (ixL m.work c2) fun x2 =>
ob1 (m185 n c3) fun l1 =>
ob1 (m185 n x2.data) fun l2 =>
ob1 (m186 n l1 l2) fun l3 =>
some (l3, 0)) (
ob1 (m185 n c3) fun l4 =>
ob1 (m185 n []) fun l5 =>
ob1 (m186 n l4 l5) fun l6 =>
some (l6, 0)))
theorem t103 {n : Nat} {C : List Chunk} {rl1 : List Hunk} {rc1 : Int} {b1 : Nat} {m : RepoM} {v1 : Value} {g1 : List Chunk} {v2 : Value} {g2 : List Chunk} {v3 : Value} {g3 : List Chunk} {v4 : Value} {g4 : List Chunk} {path : Str} (ho1 : Own rNode v1 m.nodes g1) (ho2 : Own rRef_ v2 m.refs g2) (ho3 : Own rFile v3 m.index g3) (ho4 : Own rFile v4 m.work g4)  (hm : m103 n m path = some (rl1, rc1)) : Trip Tryz.prog 103 #[.pointer (some ⟨b1, 0, none⟩), .string ⟨(path : Str).toArray⟩] ([[(b1, .cells (RepoM.enc (v1) (v2) (v3) (v4) m).toArray 59 (0, 0))], g1, g2, g3, g4] ++ [C]) (fun u S' => ∃ (ev1 : Value), ∃ (eg1 : List Chunk), .tuple #[ev1, .int .i64 rc1] = u ∧ S' = [[(b1, .cells (RepoM.enc (v1) (v2) (v3) (v4) m).toArray 59 (0, 0))], g1, g2, g3, g4, eg1] ++ [C] ∧ Own rHunk ev1 rl1 eg1) := by
  refine fn_entry (args := [.pointer (some ⟨b1, 0, none⟩), .string ⟨(path : Str).toArray⟩]) Tryz.func103 rfl Tryz.ntmps103 rfl (fun w0 => ?_)
  refine c_seq ?_
  refine c_region ?_
  have ho5 : Own rHunk (.slice none 0 0) [] [] := Own.nil
  refine o_emp ?_
  refine o_L (y_assign rfl) rfl rfl ?_
  refine o_L (y_assign rfl) rfl rfl ?_
  refine o_nil0 rfl ?_
  refine c_seq ?_
  refine c_region ?_
  refine o_T (y_move rfl) rfl ?_
  refine o_T (y_nilck rfl) rfl ?_
  refine o_T (y_fa fl_59_4 rfl) rfl ?_
  refine o_ld one_57 rfl (ms m0) (At.got (At.refl.comp RepoM.a_index)) rfl ?_
  refine o_T (y_move rfl) rfl ?_
  obtain ⟨c1, hx1, hm⟩ := bd1 hm
  refine o_callC en_118 rfl s_nil (t118 (ho3.rd.mono (fun _ hz => (ms (ms (ms (ms (mg hz))))))) hx1) rfl (fun u1 S1 hR1 => ?_)
  obtain ⟨rfl, rfl⟩ := hR1
  refine o_rest ?_
  refine o_L (y_assign rfl) rfl rfl ?_
  refine o_nil0 rfl ?_
  refine c_seq ?_
  refine c_region ?_
  refine o_T (y_move rfl) rfl ?_
  refine o_T (y_nilck rfl) rfl ?_
  refine o_T (y_fa fl_59_5 rfl) rfl ?_
  refine o_ld one_57 rfl (ms m0) (At.got (At.refl.comp RepoM.a_work)) rfl ?_
  refine o_T (y_move rfl) rfl ?_
  obtain ⟨c2, hx2, hm⟩ := bd1 hm
  refine o_callC en_118 rfl s_nil (t118 (ho4.rd.mono (fun _ hz => (ms (ms (ms (ms (ms (mg hz)))))))) hx2) rfl (fun u2 S2 hR2 => ?_)
  obtain ⟨rfl, rfl⟩ := hR2
  refine o_rest ?_
  refine o_L (y_assign rfl) rfl rfl ?_
  refine o_nil0 rfl ?_
  refine c_seq ?_
  refine c_seq ?_
  refine c_joinP (n := 0) (fun sh G => sh = [(29, .bool ((decide (c1 < 0)) && (decide (c2 < 0))))] ∧ G = []) Sel.all' .z (fun _ _ h => h) ?_ ?_
  · skip
    refine c_region ?_
    refine o_T (y_move rfl) rfl ?_
    refine o_T (y_lss rfl rfl) rfl ?_
    refine o_T (y_move rfl) rfl ?_
    refine o_split 26 rfl (fun h1 => ?_) (fun h1 => ?_)
    · skip
      refine o_take rfl rfl rfl ?_
      refine o_T (y_move rfl) rfl ?_
      refine o_take rfl rfl rfl ?_
      refine o_T (y_lss rfl rfl) rfl ?_
      refine o_T (y_pickT rfl rfl) rfl ?_
      refine o_nil1 29 rfl rfl ?_
      refine ⟨_, _, ⟨rfl, rfl⟩, ⟨by first | rfl | exact gtb rfl (by simp only [h1, Bool.true_and, Bool.false_and, Bool.true_or, Bool.false_or, Bool.and_true, Bool.and_false, Bool.or_true, Bool.or_false, Bool.not_true, Bool.not_false]), trivial⟩, ⟨rfl, rfl⟩, _, (s_take (s_take (s_take (s_take (s_take (s_take (s_take s_nil)))))))⟩
    · skip
      refine o_pass rfl rfl rfl rfl rfl ?_
      refine o_pass rfl rfl rfl rfl rfl ?_
      refine o_T (y_pickF rfl rfl) rfl ?_
      refine o_nil1 29 rfl rfl ?_
      refine ⟨_, _, ⟨rfl, rfl⟩, ⟨by first | rfl | exact gtb rfl (by simp only [h1, Bool.true_and, Bool.false_and, Bool.true_or, Bool.false_or, Bool.and_true, Bool.and_false, Bool.or_true, Bool.or_false, Bool.not_true, Bool.not_false]), trivial⟩, ⟨rfl, rfl⟩, _, (s_take (s_take (s_take (s_take (s_take (s_take (s_take s_nil)))))))⟩
  · rintro sh G ⟨rfl, rfl⟩
    refine c_cond rfl (fun h2 => ?_) (fun h2 => ?_)
    · have hm := cd_t h2 hm
      refine c_seq ?_
      refine c_region ?_
      have ho6 : Own rHunk (.slice none 0 0) [] [] := Own.nil
      refine o_emp ?_
      refine o_L (y_assign rfl) rfl rfl ?_
      refine o_L (y_assign rfl) rfl rfl ?_
      refine o_nil0 rfl ?_
      refine c_ret ?_
      obtain ⟨rfl, rfl⟩ := pr2 hm
      refine fun aX wX heX hsX => ret2 Tryz.results103 heX rfl rfl (s_get (ks (ks k0)) (s_get (ks (ks k0)) (s_get (ks (ks k0)) (s_get (ks (ks k0)) (s_get (ks (ks k0)) (s_take (s_skip (s_take s_nil)))))))) ?_
      exact ⟨(.slice none 0 0), _, rfl, rfl, ho6⟩
    · have hm := cd_f h2 hm
      refine c_skip ?_
      refine c_seq ?_
      refine c_region ?_
      refine o_L (y_assign rfl) rfl rfl ?_
      refine o_nil0 rfl ?_
      refine c_seq ?_
      refine c_seq ?_
      refine c_region ?_
      refine o_T (y_move rfl) rfl ?_
      refine o_T (y_geq rfl rfl) rfl ?_
      refine o_nil1 31 rfl rfl ?_
      obtain ⟨c3, hj1, hm⟩ := bd1 hm
      refine c_joinP (n := 0) (fun sh G => sh = [(8, .string ⟨(c3 : Str).toArray⟩)] ∧ G = []) (s_skip (s_take (s_take (s_take (s_take (s_take (s_take s_nil))))))) .z (fun _ _ h => h) ?_ ?_
      · have hm := hj1
        refine c_cond rfl (fun h3 => ?_) (fun h3 => ?_)
        · have hm := cd_t h3 hm
          refine c_region ?_
          refine o_T (y_move rfl) rfl ?_
          refine o_T (y_nilck rfl) rfl ?_
          refine o_T (y_fa fl_59_4 rfl) rfl ?_
          refine o_ld one_57 rfl (ms m0) (At.got (At.refl.comp RepoM.a_index)) rfl ?_
          refine o_T (y_move rfl) rfl ?_
          obtain ⟨x1, hx3, hm⟩ := bd hm
          obtain ⟨b2, w1, cs1, y1, z1, vs1, hc1, ha1, hr1, hy1⟩ := ho3.rd.ix hx3
          obtain rfl : vs1 = File.enc x1 := hr1
          refine o_T (hy1 sl_57 rfl rfl rfl) rfl ?_
          refine o_T (y_fa fl_71_1 rfl) rfl ?_
          refine o_ld one_9 rfl (ms (ms (ms (ms (mg hc1))))) (At.getA (ha1.comp File.a_data)) rfl ?_
          refine o_L (y_assign rfl) rfl rfl ?_
          refine o_nil0 rfl ?_
          obtain rfl := p1 hm
          exact ⟨_, _, ⟨rfl, rfl⟩, ⟨rfl, trivial⟩, ⟨rfl, rfl⟩, _, (s_skip (s_take (s_take (s_take (s_take (s_take (s_take s_nil)))))))⟩
        · have hm := cd_f h3 hm
          refine c_skip ?_
          obtain rfl := p1 hm
          exact ⟨_, _, ⟨rfl, rfl⟩, ⟨rfl, trivial⟩, ⟨rfl, rfl⟩, _, (s_skip (s_take (s_take (s_take (s_take (s_take (s_take s_nil)))))))⟩
      · rintro sh G ⟨rfl, rfl⟩
        refine c_seq ?_
        refine c_region ?_
        refine o_L (y_assign rfl) rfl rfl ?_
        refine o_nil0 rfl ?_
        refine c_seq ?_
        refine c_seq ?_
        refine c_region ?_
        refine o_T (y_move rfl) rfl ?_
        refine o_T (y_geq rfl rfl) rfl ?_
        refine o_nil1 41 rfl rfl ?_
        refine c_cond rfl (fun h4 => ?_) (fun h4 => ?_)
        · have hm := cd_t h4 hm
          refine c_region ?_
          refine o_T (y_move rfl) rfl ?_
          refine o_T (y_nilck rfl) rfl ?_
          refine o_T (y_fa fl_59_5 rfl) rfl ?_
          refine o_ld one_57 rfl m0 (At.got (At.refl.comp RepoM.a_work)) rfl ?_
          refine o_T (y_move rfl) rfl ?_
          obtain ⟨x2, hx4, hm⟩ := bd hm
          obtain ⟨b3, w2, cs2, y2, z2, vs2, hc2, ha2, hr2, hy2⟩ := ho4.rd.ix hx4
          obtain rfl : vs2 = File.enc x2 := hr2
          refine o_T (hy2 sl_57 rfl rfl rfl) rfl ?_
          refine o_T (y_fa fl_71_1 rfl) rfl ?_
          refine o_ld one_9 rfl (ms (ms (ms (ms (mg hc2))))) (At.getA (ha2.comp File.a_data)) rfl ?_
          refine o_L (y_assign rfl) rfl rfl ?_
          refine o_nil0 rfl ?_
          refine c_seq ?_
          refine c_region ?_
          refine o_T (y_move rfl) rfl ?_
          obtain ⟨l1, hx5, hm⟩ := bd1 hm
          refine o_callC en_185 rfl s_nil (t185 hx5) rfl (fun u3 S3 hR3 => ?_)
          obtain ⟨v5, g5, rfl, rfl, ho7⟩ := hR3
          refine o_rest ?_
          refine o_L (y_assign rfl) rfl rfl ?_
          refine o_nil0 rfl ?_
          refine c_seq ?_
          refine c_region ?_
          refine o_T (y_move rfl) rfl ?_
          obtain ⟨l2, hx6, hm⟩ := bd1 hm
          refine o_callC en_185 rfl s_nil (t185 hx6) rfl (fun u4 S4 hR4 => ?_)
          obtain ⟨v6, g6, rfl, rfl, ho8⟩ := hR4
          refine o_rest ?_
          refine o_L (y_assign rfl) rfl rfl ?_
          refine o_nil0 rfl ?_
          refine c_seq ?_
          refine c_region ?_
          refine o_T (y_move rfl) rfl ?_
          refine o_T (y_move rfl) rfl ?_
          obtain ⟨l3, hx7, hm⟩ := bd1 hm
          refine o_callC en_186 rfl s_nil (t186 (ho7.rd.mono (fun _ hz => (ms (mg hz)))) (ho8.rd.mono (fun _ hz => (mg hz))) hx7) rfl (fun u5 S5 hR5 => ?_)
          obtain ⟨v7, g7, rfl, rfl, ho9⟩ := hR5
          refine o_rest ?_
          refine o_L (y_assign rfl) rfl rfl ?_
          refine o_L (y_assign rfl) rfl rfl ?_
          refine o_nil0 rfl ?_
          refine c_ret ?_
          obtain ⟨rfl, rfl⟩ := pr2 hm
          refine fun aX wX heX hsX => ret2 Tryz.results103 heX rfl rfl (s_get (ks (ks (ks k0))) (s_get (ks (ks (ks k0))) (s_get (ks (ks (ks k0))) (s_get (ks (ks (ks k0))) (s_get (ks (ks (ks k0))) (s_take (s_skip (s_skip (s_take s_nil))))))))) ?_
          exact ⟨v7, _, rfl, rfl, ho9⟩
        · have hm := cd_f h4 hm
          refine c_skip ?_
          refine c_seq ?_
          refine c_region ?_
          refine o_T (y_move rfl) rfl ?_
          obtain ⟨l4, hx8, hm⟩ := bd1 hm
          refine o_callC en_185 rfl s_nil (t185 hx8) rfl (fun u6 S6 hR6 => ?_)
          obtain ⟨v8, g8, rfl, rfl, ho10⟩ := hR6
          refine o_rest ?_
          refine o_L (y_assign rfl) rfl rfl ?_
          refine o_nil0 rfl ?_
          refine c_seq ?_
          refine c_region ?_
          refine o_T (y_move rfl) rfl ?_
          obtain ⟨l5, hx9, hm⟩ := bd1 hm
          refine o_callC en_185 rfl s_nil (t185 hx9) rfl (fun u7 S7 hR7 => ?_)
          obtain ⟨v9, g9, rfl, rfl, ho11⟩ := hR7
          refine o_rest ?_
          refine o_L (y_assign rfl) rfl rfl ?_
          refine o_nil0 rfl ?_
          refine c_seq ?_
          refine c_region ?_
          refine o_T (y_move rfl) rfl ?_
          refine o_T (y_move rfl) rfl ?_
          obtain ⟨l6, hx10, hm⟩ := bd1 hm
          refine o_callC en_186 rfl s_nil (t186 (ho10.rd.mono (fun _ hz => (ms (mg hz)))) (ho11.rd.mono (fun _ hz => (mg hz))) hx10) rfl (fun u8 S8 hR8 => ?_)
          obtain ⟨v10, g10, rfl, rfl, ho12⟩ := hR8
          refine o_rest ?_
          refine o_L (y_assign rfl) rfl rfl ?_
          refine o_L (y_assign rfl) rfl rfl ?_
          refine o_nil0 rfl ?_
          refine c_ret ?_
          obtain ⟨rfl, rfl⟩ := pr2 hm
          refine fun aX wX heX hsX => ret2 Tryz.results103 heX rfl rfl (s_get (ks (ks (ks k0))) (s_get (ks (ks (ks k0))) (s_get (ks (ks (ks k0))) (s_get (ks (ks (ks k0))) (s_get (ks (ks (ks k0))) (s_take (s_skip (s_skip (s_take s_nil))))))))) ?_
          exact ⟨v10, _, rfl, rfl, ho12⟩
end Go.Proofs.Qxb6500350aGreat
