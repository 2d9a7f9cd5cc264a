/- MADE BY PROGRAM (tools350/mir.py): mirror and walk. -/
import Derived.Test.Qxb6500350aGreatF2
import Derived.Test.Qxb6500350aGreatT293
set_option linter.unusedVariables false
set_option linter.unusedSimpArgs false
set_option maxRecDepth 20000
set_option maxHeartbeats 4000000
namespace Go.Proofs.Qxb6500350aGreat
open Go.Eng

/- diff.hunks -/
def m256_w1 (n : Nat) (la : (List Str)) (lb : (List Str)) (m_ : (List Int)) (mm : Nat) : (List Hunk) → Int → Int → Int → Option ((List Hunk) × Int × Int × Int) := it4 (fun lp1 l1 c1 c2 c3 =>
cond (decide (c3 ≤ (la.length : Int))) (
ob1 (cond (decide (c3 < (la.length : Int))) (
Option.bind (ixL m_ c3) fun x1 =>
some x1) (
some (lb.length : Int))) fun c7 =>
cond (decide ((0 : Int) ≤ c7)) (
cond ((decide (c1 < c3)) || (decide (c2 < c7))) (
ob1 (m293 n la c1 c3) fun l3 =>
ob1 (m293 n lb c2 c7) fun l4 =>
Option.bind (apd l1 ({ at_ := c1, del := l3, ins := l4 } : Hunk)) fun l5 =>
lp1 l5 (wi (c3 + 1)) (wi (c7 + 1)) (wi (c3 + 1))) (
lp1 l1 (wi (c3 + 1)) (wi (c7 + 1)) (wi (c3 + 1)))) (
lp1 l1 c1 c2 (wi (c3 + 1)))) (
some (l1, c1, c2, c3))) mm
def m256 (n : Nat) (la : (List Str)) (lb : (List Str)) (m_ : (List Int)) : Option ((List Hunk)) :=
ob4 (m256_w1 n la lb m_ n ([] : List Hunk) 0 0 0) fun l2 c4 c5 c6 =>
some l2
theorem t256 {n : Nat} {C : List Chunk} {rl1 : List Hunk} {v1 : Value} {la : (List Str)} {v2 : Value} {lb : (List Str)} {v3 : Value} {m_ : (List Int)} (hr1 : Rd rStr C v1 la) (hr2 : Rd rStr C v2 lb) (hr3 : Rd rInt C v3 m_)  (hm : m256 n la lb m_ = some rl1) : Trip Tryz.prog 256 #[v1, v2, v3] ([] ++ [C]) (fun u S' => ∃ (ev1 : Value), ∃ (eg1 : List Chunk), ev1 = u ∧ S' = [eg1] ++ [C] ∧ Own rHunk ev1 rl1 eg1) := by
  refine fn_entry (args := [v1, v2, v3]) Tryz.func256 rfl Tryz.ntmps256 rfl (fun w0 => ?_)
  refine c_seq ?_
  refine c_region ?_
  have ho1 : Own rHunk (.slice none 0 0) [] [] := Own.nil
  refine o_emp ?_
  refine o_L (y_assign rfl) rfl rfl ?_
  refine o_nil0 rfl ?_
  refine c_seq ?_
  refine c_region ?_
  have ho2 : Own rHunk (.slice none 0 0) [] [] := Own.nil
  refine o_emp ?_
  refine o_L (y_assign rfl) rfl rfl ?_
  refine o_nil0 rfl ?_
  refine c_seq ?_
  refine c_region ?_
  refine o_L (y_assign rfl) rfl rfl ?_
  refine o_nil0 rfl ?_
  refine c_seq ?_
  refine c_region ?_
  refine o_L (y_assign rfl) rfl rfl ?_
  refine o_nil0 rfl ?_
  refine c_seq ?_
  refine c_seq ?_
  refine c_region ?_
  refine o_L (y_assign rfl) rfl rfl ?_
  refine o_nil0 rfl ?_
  obtain ⟨l2, c4, c5, c6, hj1, hm⟩ := bd4 hm
  refine c_joinP (n := 1) (fun sh G => ∃ (v5 : Value), ∃ (g2 : List Chunk), sh = [(7, v5), (8, .int .i64 c4), (9, .int .i64 c5), (10, .int .i64 c6)] ∧ G = [g2] ∧ Own rHunk v5 l2 g2) (s_take (s_skip (s_take s_nil))) (.s .z) (fun _ _ h => h) ?_ ?_
  · skip
    refine c_block ?_
    refine c_loopP (n := 1) (fun mm sh G => ∃ (l1 : List Hunk), ∃ (c1 : Int), ∃ (c2 : Int), ∃ (c3 : Int), ∃ (v4 : Value), ∃ (g1 : List Chunk), sh = [(7, v4), (8, .int .i64 c1), (9, .int .i64 c2), (10, .int .i64 c3)] ∧ G = [g1] ∧ m256_w1 n la lb m_ mm l1 c1 c2 c3 = some (l2, c4, c5, c6) ∧ Own rHunk v4 l1 g1) n (s_take (s_skip (s_take s_nil))) (.s .z) ⟨_, _, ⟨_, _, _, _, (.slice none 0 0), _, rfl, rfl, hj1, ho2⟩, ⟨rfl, rfl, rfl, rfl, trivial⟩, _, (s_take (s_skip (s_take s_nil)))⟩ ?_
    rintro mm sh G ⟨l1, c1, c2, c3, v4, g1, rfl, rfl, hm, ho3⟩
    obtain ⟨mm1, rfl, hm⟩ := it4_s hm
    refine c_seq ?_
    refine c_seq ?_
    refine c_region ?_
    refine o_T (y_move rfl) rfl ?_
    refine o_T (y_move rfl) rfl ?_
    refine o_T (y_lenR hr1 Tryz.underlying185 rfl) rfl ?_
    refine o_T (y_leq rfl rfl) rfl ?_
    refine o_nil1 17 rfl rfl ?_
    refine c_cond rfl (fun h1 => ?_) (fun h1 => ?_)
    · have hm := cd_t h1 hm
      refine c_skip ?_
      refine c_seq ?_
      refine c_block ?_
      refine c_seq ?_
      refine c_region ?_
      refine o_T (y_move rfl) rfl ?_
      refine o_T (y_lenR hr2 Tryz.underlying185 rfl) rfl ?_
      refine o_L (y_assign rfl) rfl rfl ?_
      refine o_nil0 rfl ?_
      refine c_seq ?_
      refine c_seq ?_
      refine c_region ?_
      refine o_T (y_move rfl) rfl ?_
      refine o_T (y_move rfl) rfl ?_
      refine o_T (y_lenR hr1 Tryz.underlying185 rfl) rfl ?_
      refine o_T (y_lss rfl rfl) rfl ?_
      refine o_nil1 25 rfl rfl ?_
      obtain ⟨c7, hj2, hm⟩ := bd1 hm
      refine c_joinP (n := 0) (fun sh G => sh = [(11, .int .i64 c7)] ∧ G = []) (s_take (s_take s_nil)) .z (fun _ _ h => h) ?_ ?_
      · have hm := hj2
        refine c_cond rfl (fun h2 => ?_) (fun h2 => ?_)
        · have hm := cd_t h2 hm
          refine c_region ?_
          refine o_T (y_move rfl) rfl ?_
          refine o_T (y_move rfl) rfl ?_
          obtain ⟨x1, hx1, hm⟩ := bd hm
          obtain ⟨b1, w1, cs1, y1, z1, vs1, hc1, ha1, hr4, hy1⟩ := hr3.ix hx1
          obtain rfl : vs1 = (encI x1) := hr4
          refine o_T (hy1 sl_65 rfl rfl rfl) rfl ?_
          refine o_ld one_3 rfl (ms (mg hc1)) (At.getA (ha1)) rfl ?_
          refine o_L (y_assign rfl) rfl rfl ?_
          refine o_nil0 rfl ?_
          obtain rfl := p1 hm
          exact ⟨_, _, ⟨rfl, rfl⟩, ⟨rfl, trivial⟩, ⟨rfl, rfl⟩, _, (s_take (s_take s_nil))⟩
        · have hm := cd_f h2 hm
          refine c_skip ?_
          obtain rfl := p1 hm
          exact ⟨_, _, ⟨rfl, rfl⟩, ⟨rfl, trivial⟩, ⟨rfl, rfl⟩, _, (s_take (s_take s_nil))⟩
      · rintro sh G ⟨rfl, rfl⟩
        refine c_seq ?_
        refine c_region ?_
        refine o_T (y_move rfl) rfl ?_
        refine o_T (y_geq rfl rfl) rfl ?_
        refine o_nil1 31 rfl rfl ?_
        refine c_cond rfl (fun h3 => ?_) (fun h3 => ?_)
        · have hm := cd_t h3 hm
          refine c_seq ?_
          refine c_seq ?_
          refine c_joinP (n := 0) (fun sh G => sh = [(39, .bool ((decide (c1 < c3)) || (decide (c2 < c7))))] ∧ G = []) Sel.all' .z (fun _ _ h => h) ?_ ?_
          · skip
            refine c_region ?_
            refine o_T (y_move rfl) rfl ?_
            refine o_T (y_move rfl) rfl ?_
            refine o_T (y_gtr rfl rfl) rfl ?_
            refine o_T (y_move rfl) rfl ?_
            refine o_split 35 rfl (fun h4 => ?_) (fun h4 => ?_)
            · skip
              refine o_pass rfl rfl rfl rfl rfl ?_
              refine o_pass rfl rfl rfl rfl rfl ?_
              refine o_pass rfl rfl rfl rfl rfl ?_
              refine o_T (y_pickT rfl rfl) rfl ?_
              refine o_nil1 39 rfl rfl ?_
              refine ⟨_, _, ⟨rfl, rfl⟩, ⟨by first | rfl | exact gtb rfl (by simp only [h4, Bool.true_and, Bool.false_and, Bool.true_or, Bool.false_or, Bool.and_true, Bool.and_false, Bool.or_true, Bool.or_false, Bool.not_true, Bool.not_false]), trivial⟩, ⟨rfl, rfl⟩, _, (s_take (s_take s_nil))⟩
            · skip
              refine o_take rfl rfl rfl ?_
              refine o_T (y_move rfl) rfl ?_
              refine o_take rfl rfl rfl ?_
              refine o_T (y_move rfl) rfl ?_
              refine o_take rfl rfl rfl ?_
              refine o_T (y_gtr rfl rfl) rfl ?_
              refine o_T (y_pickF rfl rfl) rfl ?_
              refine o_nil1 39 rfl rfl ?_
              refine ⟨_, _, ⟨rfl, rfl⟩, ⟨by first | rfl | exact gtb rfl (by simp only [h4, Bool.true_and, Bool.false_and, Bool.true_or, Bool.false_or, Bool.and_true, Bool.and_false, Bool.or_true, Bool.or_false, Bool.not_true, Bool.not_false]), trivial⟩, ⟨rfl, rfl⟩, _, (s_take (s_take s_nil))⟩
          · rintro sh G ⟨rfl, rfl⟩
            refine c_cond rfl (fun h5 => ?_) (fun h5 => ?_)
            · have hm := cd_t h5 hm
              refine c_seq ?_
              refine c_region ?_
              refine o_T (y_move rfl) rfl ?_
              refine o_T (y_move rfl) rfl ?_
              refine o_T (y_move rfl) rfl ?_
              obtain ⟨l3, hx2, hm⟩ := bd1 hm
              refine o_callC en_293 rfl s_nil (t293 (hr1.mono (fun _ hz => (ms (mg hz)))) hx2) rfl (fun u1 S1 hR1 => ?_)
              obtain ⟨v6, g3, rfl, rfl, ho5⟩ := hR1
              refine o_rest ?_
              refine o_L (y_assign rfl) rfl rfl ?_
              refine o_nil0 rfl ?_
              refine c_seq ?_
              refine c_region ?_
              refine o_T (y_move rfl) rfl ?_
              refine o_T (y_move rfl) rfl ?_
              refine o_T (y_move rfl) rfl ?_
              obtain ⟨l4, hx3, hm⟩ := bd1 hm
              refine o_callC en_293 rfl s_nil (t293 (hr2.mono (fun _ hz => (ms (ms (mg hz))))) hx3) rfl (fun u2 S2 hR2 => ?_)
              obtain ⟨v7, g4, rfl, rfl, ho6⟩ := hR2
              refine o_rest ?_
              refine o_L (y_assign rfl) rfl rfl ?_
              refine o_nil0 rfl ?_
              refine c_region ?_
              refine o_T (y_move rfl) rfl ?_
              refine o_T (y_move rfl) rfl ?_
              refine o_T (y_move rfl) rfl ?_
              refine o_T (y_move rfl) rfl ?_
              refine o_T (y_build st_203 rfl (fbU rfl Hunk.u_at_ rfl rfl (fbU rfl Hunk.u_del (cells1 ho5.pl) rfl (fbU rfl Hunk.u_ins (cells1 ho6.pl) rfl fbU0)))) rfl ?_
              refine o_bs1 sz_112 rfl rfl rfl rfl rfl rfl (fun b2 => ?_)
              obtain ⟨l5, hx4, hm⟩ := bd hm
              refine o_appR (R := rHunk) (a := ({ at_ := c1, del := l3, ins := l4 } : Hunk)) sz_112 rfl rfl rfl rfl ho3 ⟨_, _, rfl, ho5.rds.mono (fun _ hz => mem_l hz), ho6.rds.mono (fun _ hz => mem_r hz)⟩ hx4 (Sel.m2 (s_get (ks (ks (ks k0))) (s_take (s_get (ks k0) (s_take s_nil))))) rfl (fun v8 g5 ho7 => ?_)
              refine o_L (y_assign rfl) rfl rfl ?_
              refine o_nil0 rfl ?_
              refine c_seq ?_
              refine c_region ?_
              refine o_T (y_move rfl) rfl ?_
              refine o_T (y_add rfl rfl rfl) rfl ?_
              refine o_L (y_assign rfl) rfl rfl ?_
              refine o_nil0 rfl ?_
              refine c_region ?_
              refine o_T (y_move rfl) rfl ?_
              refine o_T (y_add rfl rfl rfl) rfl ?_
              refine o_L (y_assign rfl) rfl rfl ?_
              refine o_nil0 rfl ?_
              refine c_region ?_
              refine o_T (y_move rfl) rfl ?_
              refine o_T (y_add rfl rfl rfl) rfl ?_
              refine o_L (y_assign rfl) rfl rfl ?_
              refine o_nil0 rfl ?_
              exact ⟨mm1, Nat.lt_succ_self _, _, _, ⟨_, _, _, _, v8, _, rfl, rfl, hm, ho7⟩, ⟨rfl, rfl, rfl, rfl, trivial⟩, ⟨rfl, rfl⟩, _, (s_take (s_take s_nil))⟩
            · have hm := cd_f h5 hm
              refine c_skip ?_
              refine c_seq ?_
              refine c_region ?_
              refine o_T (y_move rfl) rfl ?_
              refine o_T (y_add rfl rfl rfl) rfl ?_
              refine o_L (y_assign rfl) rfl rfl ?_
              refine o_nil0 rfl ?_
              refine c_region ?_
              refine o_T (y_move rfl) rfl ?_
              refine o_T (y_add rfl rfl rfl) rfl ?_
              refine o_L (y_assign rfl) rfl rfl ?_
              refine o_nil0 rfl ?_
              refine c_region ?_
              refine o_T (y_move rfl) rfl ?_
              refine o_T (y_add rfl rfl rfl) rfl ?_
              refine o_L (y_assign rfl) rfl rfl ?_
              refine o_nil0 rfl ?_
              exact ⟨mm1, Nat.lt_succ_self _, _, _, ⟨_, _, _, _, v4, _, rfl, rfl, hm, ho3⟩, ⟨rfl, rfl, rfl, rfl, trivial⟩, ⟨rfl, rfl⟩, _, (s_take (s_take s_nil))⟩
        · have hm := cd_f h3 hm
          refine c_skip ?_
          refine c_region ?_
          refine o_T (y_move rfl) rfl ?_
          refine o_T (y_add rfl rfl rfl) rfl ?_
          refine o_L (y_assign rfl) rfl rfl ?_
          refine o_nil0 rfl ?_
          exact ⟨mm1, Nat.lt_succ_self _, _, _, ⟨_, _, _, _, v4, _, rfl, rfl, hm, ho3⟩, ⟨rfl, rfl, rfl, rfl, trivial⟩, ⟨rfl, rfl⟩, _, (s_take (s_take s_nil))⟩
    · have hm := cd_f h1 hm
      refine c_exit ?_
      obtain ⟨rfl, rfl, rfl, rfl⟩ := pr4 hm
      exact ⟨_, _, ⟨v4, _, rfl, rfl, ho3⟩, ⟨rfl, rfl, rfl, rfl, trivial⟩, ⟨rfl, rfl⟩, _, (s_take (s_take s_nil))⟩
  · rintro sh G ⟨v5, g2, rfl, rfl, ho4⟩
    refine c_seq ?_
    refine c_region ?_
    refine o_T (y_move rfl) rfl ?_
    refine o_L (y_assign rfl) rfl rfl ?_
    refine o_nil0 rfl ?_
    refine c_ret ?_
    obtain rfl := p1 hm
    refine fun aX wX heX hsX => ret1 Tryz.results256 heX rfl (s_take (s_take s_nil)) ?_
    exact ⟨v5, _, rfl, rfl, ho4⟩
end Go.Proofs.Qxb6500350aGreat
