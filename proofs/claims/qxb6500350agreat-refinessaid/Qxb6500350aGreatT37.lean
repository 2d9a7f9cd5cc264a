/- MADE BY PROGRAM (tools350/mir.py): mirror and walk. -/
import Derived.Test.Qxb6500350aGreatF2
set_option linter.unusedVariables false
set_option linter.unusedSimpArgs false
set_option maxRecDepth 20000
set_option maxHeartbeats 4000000
namespace Go.Proofs.Qxb6500350aGreat
open Go.Eng

/- (*repom.Repo).Seqs -/
def m37_w1 (n : Nat) (m : RepoM) (mm : Nat) : (List Int) → Int → Option ((List Int) × Int) := it2 (fun lp1 l1 c1 =>
cond (decide (c1 < (m.nodes.length : Int))) (
Option.bind (ixL m.nodes c1) fun x1 =>
Option.bind (apd l1 x1.seq) fun l3 =>
lp1 l3 (wi (c1 + 1))) (
some (l1, c1))) mm
def m37 (n : Nat) (m : RepoM) : Option ((List Int)) :=
ob2 (m37_w1 n m n ([] : List Int) 0) fun l2 c2 =>
some l2
theorem t37 {n : Nat} {C : List Chunk} {rl1 : List Int} {b1 : Nat} {m : RepoM} {v1 : Value} {g1 : List Chunk} {v2 : Value} {g2 : List Chunk} {v3 : Value} {g3 : List Chunk} {v4 : Value} {g4 : List Chunk} (ho1 : Own rNode v1 m.nodes g1) (ho2 : Own rRef_ v2 m.refs g2) (ho3 : Own rFile v3 m.index g3) (ho4 : Own rFile v4 m.work g4)  (hm : m37 n m = some rl1) : Trip Tryz.prog 37 #[.pointer (some ⟨b1, 0, none⟩)] ([[(b1, .cells (RepoM.enc (v1) (v2) (v3) (v4) m).toArray 59 (0, 0))], g1, g2, g3, g4] ++ [C]) (fun u S' => ∃ (ev1 : Value), ∃ (eg1 : List Chunk), ev1 = u ∧ S' = [[(b1, .cells (RepoM.enc (v1) (v2) (v3) (v4) m).toArray 59 (0, 0))], g1, g2, g3, g4, eg1] ++ [C] ∧ Own rInt ev1 rl1 eg1) := by
  refine fn_entry (args := [.pointer (some ⟨b1, 0, none⟩)]) Tryz.func37 rfl Tryz.ntmps37 rfl (fun w0 => ?_)
  refine c_seq ?_
  refine c_region ?_
  have ho5 : Own rInt (.slice none 0 0) [] [] := Own.nil
  refine o_emp ?_
  refine o_L (y_assign rfl) rfl rfl ?_
  refine o_nil0 rfl ?_
  refine c_seq ?_
  refine c_region ?_
  have ho6 : Own rInt (.slice none 0 0) [] [] := Own.nil
  refine o_emp ?_
  refine o_L (y_assign rfl) rfl rfl ?_
  refine o_nil0 rfl ?_
  refine c_seq ?_
  refine c_seq ?_
  refine c_region ?_
  refine o_L (y_assign rfl) rfl rfl ?_
  refine o_nil0 rfl ?_
  obtain ⟨l2, c2, hj1, hm⟩ := bd2 hm
  refine c_joinP (n := 1) (fun sh G => ∃ (v6 : Value), ∃ (g6 : List Chunk), sh = [(3, v6), (4, .int .i64 c2)] ∧ G = [g6] ∧ Own rInt v6 l2 g6) (s_take (s_skip (s_take (s_take (s_take (s_take (s_take (s_take s_nil)))))))) (.s .z) (fun _ _ h => h) ?_ ?_
  · skip
    refine c_block ?_
    refine c_loopP (n := 1) (fun mm sh G => ∃ (l1 : List Int), ∃ (c1 : Int), ∃ (v5 : Value), ∃ (g5 : List Chunk), sh = [(3, v5), (4, .int .i64 c1)] ∧ G = [g5] ∧ m37_w1 n m mm l1 c1 = some (l2, c2) ∧ Own rInt v5 l1 g5) n (s_take (s_skip (s_take (s_take (s_take (s_take (s_take (s_take s_nil)))))))) (.s .z) ⟨_, _, ⟨_, _, (.slice none 0 0), _, rfl, rfl, hj1, ho6⟩, ⟨rfl, rfl, trivial⟩, _, (s_take (s_skip (s_take (s_take (s_take (s_take (s_take (s_take s_nil))))))))⟩ ?_
    rintro mm sh G ⟨l1, c1, v5, g5, rfl, rfl, hm, ho7⟩
    obtain ⟨mm1, rfl, hm⟩ := it2_s hm
    refine c_seq ?_
    refine c_seq ?_
    refine c_region ?_
    refine o_T (y_move rfl) rfl ?_
    refine o_T (y_move rfl) rfl ?_
    refine o_T (y_nilck rfl) rfl ?_
    refine o_T (y_fa fl_59_0 rfl) rfl ?_
    refine o_ld one_55 rfl (ms m0) (At.got (At.refl.comp RepoM.a_nodes)) rfl ?_
    refine o_T (y_lenR ho1.rd Tryz.underlying55 rfl) rfl ?_
    refine o_T (y_lss rfl rfl) rfl ?_
    refine o_nil1 11 rfl rfl ?_
    refine c_cond rfl (fun h1 => ?_) (fun h1 => ?_)
    · have hm := cd_t h1 hm
      refine c_skip ?_
      refine c_seq ?_
      refine c_block ?_
      refine c_region ?_
      refine o_T (y_move rfl) rfl ?_
      refine o_T (y_move rfl) rfl ?_
      refine o_T (y_nilck rfl) rfl ?_
      refine o_T (y_fa fl_59_0 rfl) rfl ?_
      refine o_ld one_55 rfl (ms m0) (At.got (At.refl.comp RepoM.a_nodes)) rfl ?_
      refine o_T (y_move rfl) rfl ?_
      obtain ⟨x1, hx1, hm⟩ := bd hm
      obtain ⟨b2, w1, cs1, y1, z1, vs1, hc1, ha1, hr1, hy1⟩ := ho1.rd.ix hx1
      obtain ⟨v7, v8, rfl, hr2, hr3⟩ := hr1
      refine o_T (hy1 sl_55 rfl rfl rfl) rfl ?_
      refine o_T (y_fa fl_93_0 rfl) rfl ?_
      refine o_ld one_3 rfl (ms (ms (mg hc1))) (At.getA (ha1.comp Node.a_seq)) rfl ?_
      refine o_bs1 sz_65 rfl rfl rfl rfl rfl rfl (fun b3 => ?_)
      obtain ⟨l3, hx2, hm⟩ := bd hm
      refine o_appR (R := rInt) (a := x1.seq) sz_65 rfl rfl rfl rfl ho7 rfl hx2 (Sel.e (s_get (ks k0) (s_take s_nil))) rfl (fun v9 g7 ho9 => ?_)
      refine o_L (y_assign rfl) rfl rfl ?_
      refine o_nil0 rfl ?_
      refine c_region ?_
      refine o_T (y_move rfl) rfl ?_
      refine o_T (y_add rfl rfl rfl) rfl ?_
      refine o_L (y_assign rfl) rfl rfl ?_
      refine o_nil0 rfl ?_
      exact ⟨mm1, Nat.lt_succ_self _, _, _, ⟨_, _, v9, _, rfl, rfl, hm, ho9⟩, ⟨rfl, rfl, trivial⟩, ⟨rfl, rfl⟩, _, (s_take (s_take (s_take (s_take (s_take (s_take (s_take s_nil)))))))⟩
    · have hm := cd_f h1 hm
      refine c_exit ?_
      obtain ⟨rfl, rfl⟩ := pr2 hm
      exact ⟨_, _, ⟨v5, _, rfl, rfl, ho7⟩, ⟨rfl, rfl, trivial⟩, ⟨rfl, rfl⟩, _, (s_take (s_take (s_take (s_take (s_take (s_take (s_take s_nil)))))))⟩
  · rintro sh G ⟨v6, g6, rfl, rfl, ho8⟩
    refine c_seq ?_
    refine c_region ?_
    refine o_T (y_move rfl) rfl ?_
    refine o_L (y_assign rfl) rfl rfl ?_
    refine o_nil0 rfl ?_
    refine c_ret ?_
    obtain rfl := p1 hm
    refine fun aX wX heX hsX => ret1 Tryz.results37 heX rfl (s_get (ks k0) (s_get (ks k0) (s_get (ks k0) (s_get (ks k0) (s_get (ks k0) (s_take (s_take s_nil))))))) ?_
    exact ⟨v6, _, rfl, rfl, ho8⟩
end Go.Proofs.Qxb6500350aGreat
