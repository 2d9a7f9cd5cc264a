/- MADE BY PROGRAM (tools350/mir.py): mirror and walk. -/
import Derived.Test.Qxb6500350aGreatF2
set_option linter.unusedVariables false
set_option linter.unusedSimpArgs false
set_option maxRecDepth 20000
set_option maxHeartbeats 4000000
namespace Go.Proofs.Qxb6500350aGreat
open Go.Eng

/- api.Roots -/
def m240_w1 (n : Nat) (r : (List Ref_)) (mm : Nat) : (List Int) → Int → Option ((List Int) × Int) := it2 (fun lp1 l1 c1 =>
cond (decide (c1 < (r.length : Int))) (
Option.bind (ixL r c1) fun x1 =>
Option.bind (apd l1 x1.seq) fun l3 =>
lp1 l3 (wi (c1 + 1))) (
some (l1, c1))) mm
def m240 (n : Nat) (r : (List Ref_)) (h_ : Head) : Option ((List Int)) :=
ob2 (m240_w1 n r n ([] : List Int) 0) fun l2 c2 =>
cond (decide (h_.name = [])) (
Option.bind (apd l2 h_.seq) fun l4 =>
cond (decide (¬ (h_.merge = 0))) (
Option.bind (apd l4 h_.merge) fun l5 =>
some l5) (
some l4)) (
cond (decide (¬ (h_.merge = 0))) (
Option.bind (apd l2 h_.merge) fun l6 =>
some l6) (
some l2))
theorem t240 {n : Nat} {C : List Chunk} {rl1 : List Int} {v1 : Value} {r : (List Ref_)} {h_ : Head} (hr1 : Rd rRef_ C v1 r)  (hm : m240 n r h_ = some rl1) : Trip Tryz.prog 240 #[v1, .agg (Head.enc h_).toArray] ([] ++ [C]) (fun u S' => ∃ (ev1 : Value), ∃ (eg1 : List Chunk), ev1 = u ∧ S' = [eg1] ++ [C] ∧ Own rInt ev1 rl1 eg1) := by
  refine fn_entry (args := [v1, .agg (Head.enc h_).toArray]) Tryz.func240 rfl Tryz.ntmps240 rfl (fun w0 => ?_)
  refine c_seq ?_
  refine c_region ?_
  refine o_box rfl rfl rfl rfl (fun b1 => ?_)
  have ho1 : Own rInt (.slice none 0 0) [] [] := Own.nil
  refine o_emp ?_
  refine o_L (y_assign rfl) rfl rfl ?_
  refine o_nil0 rfl ?_
  refine c_seq ?_
  refine c_region ?_
  have ho2 : Own rInt (.slice none 0 0) [] [] := Own.nil
  refine o_emp ?_
  refine o_L (y_assign rfl) rfl rfl ?_
  refine o_nil0 rfl ?_
  refine c_seq ?_
  refine c_seq ?_
  refine c_region ?_
  refine o_L (y_assign rfl) rfl rfl ?_
  refine o_nil0 rfl ?_
  obtain ⟨l2, c2, hj1, hm⟩ := bd2 hm
  refine c_joinP (n := 1) (fun sh G => ∃ (v3 : Value), ∃ (g2 : List Chunk), sh = [(5, v3), (6, .int .i64 c2)] ∧ G = [g2] ∧ Own rInt v3 l2 g2) (s_take (s_skip (s_take (s_take s_nil)))) (.s .z) (fun _ _ h => h) ?_ ?_
  · skip
    refine c_block ?_
    refine c_loopP (n := 1) (fun mm sh G => ∃ (l1 : List Int), ∃ (c1 : Int), ∃ (v2 : Value), ∃ (g1 : List Chunk), sh = [(5, v2), (6, .int .i64 c1)] ∧ G = [g1] ∧ m240_w1 n r mm l1 c1 = some (l2, c2) ∧ Own rInt v2 l1 g1) n (s_take (s_skip (s_take (s_take s_nil)))) (.s .z) ⟨_, _, ⟨_, _, (.slice none 0 0), _, rfl, rfl, hj1, ho2⟩, ⟨rfl, rfl, trivial⟩, _, (s_take (s_skip (s_take (s_take s_nil))))⟩ ?_
    rintro mm sh G ⟨l1, c1, v2, g1, rfl, rfl, hm, ho3⟩
    obtain ⟨mm1, rfl, hm⟩ := it2_s hm
    refine c_seq ?_
    refine c_seq ?_
    refine c_region ?_
    refine o_T (y_move rfl) rfl ?_
    refine o_T (y_move rfl) rfl ?_
    refine o_T (y_lenR hr1 Tryz.underlying56 rfl) rfl ?_
    refine o_T (y_lss rfl rfl) rfl ?_
    refine o_nil1 10 rfl rfl ?_
    refine c_cond rfl (fun h1 => ?_) (fun h1 => ?_)
    · have hm := cd_t h1 hm
      refine c_skip ?_
      refine c_seq ?_
      refine c_block ?_
      refine c_region ?_
      refine o_T (y_move rfl) rfl ?_
      refine o_T (y_move rfl) rfl ?_
      refine o_T (y_move rfl) rfl ?_
      obtain ⟨x1, hx1, hm⟩ := bd hm
      obtain ⟨b2, w1, cs1, y1, z1, vs1, hc1, ha1, hr2, hy1⟩ := hr1.ix hx1
      obtain rfl : vs1 = Ref_.enc x1 := hr2
      refine o_T (hy1 sl_56 rfl rfl rfl) rfl ?_
      refine o_T (y_fa fl_96_1 rfl) rfl ?_
      refine o_ld one_3 rfl (ms (ms (mg hc1))) (At.getA (ha1.comp Ref_.a_seq)) rfl ?_
      refine o_bs1 sz_65 rfl rfl rfl rfl rfl rfl (fun b3 => ?_)
      obtain ⟨l3, hx2, hm⟩ := bd hm
      refine o_appR (R := rInt) (a := x1.seq) sz_65 rfl rfl rfl rfl ho3 rfl hx2 (Sel.e (s_get (ks k0) (s_take s_nil))) rfl (fun v4 g3 ho5 => ?_)
      refine o_L (y_assign rfl) rfl rfl ?_
      refine o_nil0 rfl ?_
      refine c_region ?_
      refine o_T (y_move rfl) rfl ?_
      refine o_T (y_add rfl rfl rfl) rfl ?_
      refine o_L (y_assign rfl) rfl rfl ?_
      refine o_nil0 rfl ?_
      exact ⟨mm1, Nat.lt_succ_self _, _, _, ⟨_, _, v4, _, rfl, rfl, hm, ho5⟩, ⟨rfl, rfl, trivial⟩, ⟨rfl, rfl⟩, _, (s_take (s_take (s_take s_nil)))⟩
    · have hm := cd_f h1 hm
      refine c_exit ?_
      obtain ⟨rfl, rfl⟩ := pr2 hm
      exact ⟨_, _, ⟨v2, _, rfl, rfl, ho3⟩, ⟨rfl, rfl, trivial⟩, ⟨rfl, rfl⟩, _, (s_take (s_take (s_take s_nil)))⟩
  · rintro sh G ⟨v3, g2, rfl, rfl, ho4⟩
    refine c_seq ?_
    refine c_seq ?_
    refine c_region ?_
    refine o_T (y_fa fl_54_0 rfl) rfl ?_
    refine o_ld one_9 rfl (ms m0) (At.got (At.refl.comp Head.a_name)) rfl ?_
    refine o_T (y_seq rfl rfl) rfl ?_
    refine o_nil1 23 rfl rfl ?_
    refine c_cond rfl (fun h2 => ?_) (fun h2 => ?_)
    · have hm := cd_t h2 hm
      refine c_region ?_
      refine o_T (y_move rfl) rfl ?_
      refine o_T (y_fa fl_54_1 rfl) rfl ?_
      refine o_ld one_3 rfl (ms m0) (At.got (At.refl.comp Head.a_seq)) rfl ?_
      refine o_bs1 sz_65 rfl rfl rfl rfl rfl rfl (fun b4 => ?_)
      obtain ⟨l4, hx3, hm⟩ := bd hm
      refine o_appR (R := rInt) (a := h_.seq) sz_65 rfl rfl rfl rfl ho4 rfl hx3 (Sel.e (s_get (ks k0) (s_take s_nil))) rfl (fun v5 g4 ho6 => ?_)
      refine o_L (y_assign rfl) rfl rfl ?_
      refine o_nil0 rfl ?_
      refine c_seq ?_
      refine c_seq ?_
      refine c_region ?_
      refine o_T (y_fa fl_54_2 rfl) rfl ?_
      refine o_ld one_3 rfl (ms m0) (At.got (At.refl.comp Head.a_merge)) rfl ?_
      refine o_T (y_neq rfl rfl) rfl ?_
      refine o_nil1 31 rfl rfl ?_
      refine c_cond rfl (fun h3 => ?_) (fun h3 => ?_)
      · have hm := cd_t h3 hm
        refine c_region ?_
        refine o_T (y_move rfl) rfl ?_
        refine o_T (y_fa fl_54_2 rfl) rfl ?_
        refine o_ld one_3 rfl (ms m0) (At.got (At.refl.comp Head.a_merge)) rfl ?_
        refine o_bs1 sz_65 rfl rfl rfl rfl rfl rfl (fun b5 => ?_)
        obtain ⟨l5, hx4, hm⟩ := bd hm
        refine o_appR (R := rInt) (a := h_.merge) sz_65 rfl rfl rfl rfl ho6 rfl hx4 (Sel.e (s_get (ks k0) (s_take s_nil))) rfl (fun v6 g5 ho7 => ?_)
        refine o_L (y_assign rfl) rfl rfl ?_
        refine o_nil0 rfl ?_
        refine c_seq ?_
        refine c_region ?_
        refine o_T (y_move rfl) rfl ?_
        refine o_L (y_assign rfl) rfl rfl ?_
        refine o_nil0 rfl ?_
        refine c_ret ?_
        obtain rfl := p1 hm
        refine fun aX wX heX hsX => ret1 Tryz.results240 heX rfl (s_take (s_skip (s_take s_nil))) ?_
        exact ⟨v6, _, rfl, rfl, ho7⟩
      · have hm := cd_f h3 hm
        refine c_skip ?_
        refine c_seq ?_
        refine c_region ?_
        refine o_T (y_move rfl) rfl ?_
        refine o_L (y_assign rfl) rfl rfl ?_
        refine o_nil0 rfl ?_
        refine c_ret ?_
        obtain rfl := p1 hm
        refine fun aX wX heX hsX => ret1 Tryz.results240 heX rfl (s_take (s_skip (s_take s_nil))) ?_
        exact ⟨v5, _, rfl, rfl, ho6⟩
    · have hm := cd_f h2 hm
      refine c_skip ?_
      refine c_seq ?_
      refine c_seq ?_
      refine c_region ?_
      refine o_T (y_fa fl_54_2 rfl) rfl ?_
      refine o_ld one_3 rfl (ms m0) (At.got (At.refl.comp Head.a_merge)) rfl ?_
      refine o_T (y_neq rfl rfl) rfl ?_
      refine o_nil1 31 rfl rfl ?_
      refine c_cond rfl (fun h4 => ?_) (fun h4 => ?_)
      · have hm := cd_t h4 hm
        refine c_region ?_
        refine o_T (y_move rfl) rfl ?_
        refine o_T (y_fa fl_54_2 rfl) rfl ?_
        refine o_ld one_3 rfl (ms m0) (At.got (At.refl.comp Head.a_merge)) rfl ?_
        refine o_bs1 sz_65 rfl rfl rfl rfl rfl rfl (fun b6 => ?_)
        obtain ⟨l6, hx5, hm⟩ := bd hm
        refine o_appR (R := rInt) (a := h_.merge) sz_65 rfl rfl rfl rfl ho4 rfl hx5 (Sel.e (s_get (ks k0) (s_take s_nil))) rfl (fun v7 g6 ho8 => ?_)
        refine o_L (y_assign rfl) rfl rfl ?_
        refine o_nil0 rfl ?_
        refine c_seq ?_
        refine c_region ?_
        refine o_T (y_move rfl) rfl ?_
        refine o_L (y_assign rfl) rfl rfl ?_
        refine o_nil0 rfl ?_
        refine c_ret ?_
        obtain rfl := p1 hm
        refine fun aX wX heX hsX => ret1 Tryz.results240 heX rfl (s_take (s_skip (s_take s_nil))) ?_
        exact ⟨v7, _, rfl, rfl, ho8⟩
      · have hm := cd_f h4 hm
        refine c_skip ?_
        refine c_seq ?_
        refine c_region ?_
        refine o_T (y_move rfl) rfl ?_
        refine o_L (y_assign rfl) rfl rfl ?_
        refine o_nil0 rfl ?_
        refine c_ret ?_
        obtain rfl := p1 hm
        refine fun aX wX heX hsX => ret1 Tryz.results240 heX rfl (s_take (s_skip (s_take s_nil))) ?_
        exact ⟨v3, _, rfl, rfl, ho4⟩
end Go.Proofs.Qxb6500350aGreat
