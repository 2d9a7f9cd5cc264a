/- MADE BY PROGRAM (tools350/mir.py): mirror and walk. -/
import Derived.Test.Qxb6500350aGreatF2
set_option linter.unusedVariables false
set_option linter.unusedSimpArgs false
set_option maxRecDepth 20000
set_option maxHeartbeats 4000000
namespace Go.Proofs.Qxb6500350aGreat
open Go.Eng

/- api.SplitLines -/
def m185_w1 (n : Nat) (s_ : Str) (mm : Nat) : (List Str) → Int → Int → Option ((List Str) × Int × Int) := it3 (fun lp1 l1 c1 c2 =>
cond (decide (c2 < (s_.length : Int))) (
Option.bind (sIx s_ c2) fun c5 =>
cond (decide ((c5.toNat : Int) = 10)) (
Option.bind (sSl s_ c1 (wi (c2 + 1))) fun s1 =>
Option.bind (apd l1 s1) fun l3 =>
lp1 l3 (wi (c2 + 1)) (wi (c2 + 1))) (
lp1 l1 c1 (wi (c2 + 1)))) (
some (l1, c1, c2))) mm
def m185 (n : Nat) (s_ : Str) : Option ((List Str)) :=
ob3 (m185_w1 n s_ n ([] : List Str) 0 0) fun l2 c3 c4 =>
cond (decide (c3 < (s_.length : Int))) (
Option.bind (sSl s_ c3 (s_.length : Int)) fun s2 =>
Option.bind (apd l2 s2) fun l4 =>
some l4) (
some l2)
theorem t185 {n : Nat} {C : List Chunk} {rl1 : List Str} {s_ : Str}   (hm : m185 n s_ = some rl1) : Trip Tryz.prog 185 #[.string ⟨(s_ : Str).toArray⟩] ([] ++ [C]) (fun u S' => ∃ (ev1 : Value), ∃ (eg1 : List Chunk), ev1 = u ∧ S' = [eg1] ++ [C] ∧ Own rStr ev1 rl1 eg1) := by
  refine fn_entry (args := [.string ⟨(s_ : Str).toArray⟩]) Tryz.func185 rfl Tryz.ntmps185 rfl (fun w0 => ?_)
  refine c_seq ?_
  refine c_region ?_
  have ho1 : Own rStr (.slice none 0 0) [] [] := Own.nil
  refine o_emp ?_
  refine o_L (y_assign rfl) rfl rfl ?_
  refine o_nil0 rfl ?_
  refine c_seq ?_
  refine c_region ?_
  have ho2 : Own rStr (.slice none 0 0) [] [] := Own.nil
  refine o_emp ?_
  refine o_L (y_assign rfl) rfl rfl ?_
  refine o_nil0 rfl ?_
  refine c_seq ?_
  refine c_region ?_
  refine o_L (y_assign rfl) rfl rfl ?_
  refine o_nil0 rfl ?_
  refine c_seq ?_
  refine c_seq ?_
  refine c_region ?_
  refine o_L (y_assign rfl) rfl rfl ?_
  refine o_nil0 rfl ?_
  obtain ⟨l2, c3, c4, hj1, hm⟩ := bd3 hm
  refine c_joinP (n := 1) (fun sh G => ∃ (v2 : Value), ∃ (g2 : List Chunk), sh = [(3, v2), (4, .int .i64 c3), (5, .int .i64 c4)] ∧ G = [g2] ∧ Own rStr v2 l2 g2) (s_take (s_skip (s_take s_nil))) (.s .z) (fun _ _ h => h) ?_ ?_
  · skip
    refine c_block ?_
    refine c_loopP (n := 1) (fun mm sh G => ∃ (l1 : List Str), ∃ (c1 : Int), ∃ (c2 : Int), ∃ (v1 : Value), ∃ (g1 : List Chunk), sh = [(3, v1), (4, .int .i64 c1), (5, .int .i64 c2)] ∧ G = [g1] ∧ m185_w1 n s_ mm l1 c1 c2 = some (l2, c3, c4) ∧ Own rStr v1 l1 g1) n (s_take (s_skip (s_take s_nil))) (.s .z) ⟨_, _, ⟨_, _, _, (.slice none 0 0), _, rfl, rfl, hj1, ho2⟩, ⟨rfl, rfl, rfl, trivial⟩, _, (s_take (s_skip (s_take s_nil)))⟩ ?_
    rintro mm sh G ⟨l1, c1, c2, v1, g1, rfl, rfl, hm, ho3⟩
    obtain ⟨mm1, rfl, hm⟩ := it3_s hm
    refine c_seq ?_
    refine c_seq ?_
    refine c_region ?_
    refine o_T (y_move rfl) rfl ?_
    refine o_T (y_move rfl) rfl ?_
    refine o_T (y_slen Tryz.underlying9 rfl) rfl ?_
    refine o_T (y_lss rfl rfl) rfl ?_
    refine o_nil1 9 rfl rfl ?_
    refine c_cond rfl (fun h1 => ?_) (fun h1 => ?_)
    · have hm := cd_t h1 hm
      refine c_skip ?_
      refine c_seq ?_
      refine c_block ?_
      refine c_seq ?_
      refine c_region ?_
      refine o_T (y_move rfl) rfl ?_
      refine o_T (y_move rfl) rfl ?_
      obtain ⟨c5, hx1, hm⟩ := bd hm
      refine o_T (y_sidx Tryz.underlying9 rfl rfl hx1) rfl ?_
      refine o_T (y_eql rfl rfl) rfl ?_
      refine o_nil1 15 rfl rfl ?_
      refine c_cond rfl (fun h2 => ?_) (fun h2 => ?_)
      · have hm := cd_t h2 hm
        refine c_seq ?_
        refine c_region ?_
        refine o_T (y_move rfl) rfl ?_
        refine o_T (y_move rfl) rfl ?_
        refine o_T (y_move rfl) rfl ?_
        refine o_T (y_move rfl) rfl ?_
        refine o_T (y_add rfl rfl rfl) rfl ?_
        obtain ⟨s1, hx2, hm⟩ := bd hm
        refine o_T (y_ssl Tryz.underlying9 rfl (biS rfl) (biS rfl) hx2) rfl ?_
        refine o_bs1 sz_185 rfl rfl rfl rfl rfl rfl (fun b1 => ?_)
        obtain ⟨l3, hx3, hm⟩ := bd hm
        refine o_appR (R := rStr) (a := s1) sz_185 rfl rfl rfl rfl ho3 rfl hx3 (Sel.e (s_get (ks k0) (s_take s_nil))) rfl (fun v3 g3 ho5 => ?_)
        refine o_L (y_assign rfl) rfl rfl ?_
        refine o_nil0 rfl ?_
        refine c_region ?_
        refine o_T (y_move rfl) rfl ?_
        refine o_T (y_add rfl rfl rfl) rfl ?_
        refine o_L (y_assign rfl) rfl rfl ?_
        refine o_nil0 rfl ?_
        refine c_region ?_
        refine o_T (y_move rfl) rfl ?_
        refine o_T (y_add rfl rfl rfl) rfl ?_
        refine o_L (y_assign rfl) rfl rfl ?_
        refine o_nil0 rfl ?_
        exact ⟨mm1, Nat.lt_succ_self _, _, _, ⟨_, _, _, v3, _, rfl, rfl, hm, ho5⟩, ⟨rfl, rfl, rfl, trivial⟩, ⟨rfl, rfl⟩, _, (s_take (s_take s_nil))⟩
      · have hm := cd_f h2 hm
        refine c_skip ?_
        refine c_region ?_
        refine o_T (y_move rfl) rfl ?_
        refine o_T (y_add rfl rfl rfl) rfl ?_
        refine o_L (y_assign rfl) rfl rfl ?_
        refine o_nil0 rfl ?_
        exact ⟨mm1, Nat.lt_succ_self _, _, _, ⟨_, _, _, v1, _, rfl, rfl, hm, ho3⟩, ⟨rfl, rfl, rfl, trivial⟩, ⟨rfl, rfl⟩, _, (s_take (s_take s_nil))⟩
    · have hm := cd_f h1 hm
      refine c_exit ?_
      obtain ⟨rfl, rfl, rfl⟩ := pr3 hm
      exact ⟨_, _, ⟨v1, _, rfl, rfl, ho3⟩, ⟨rfl, rfl, rfl, trivial⟩, ⟨rfl, rfl⟩, _, (s_take (s_take s_nil))⟩
  · rintro sh G ⟨v2, g2, rfl, rfl, ho4⟩
    refine c_seq ?_
    refine c_seq ?_
    refine c_region ?_
    refine o_T (y_move rfl) rfl ?_
    refine o_T (y_move rfl) rfl ?_
    refine o_T (y_slen Tryz.underlying9 rfl) rfl ?_
    refine o_T (y_lss rfl rfl) rfl ?_
    refine o_nil1 29 rfl rfl ?_
    refine c_cond rfl (fun h3 => ?_) (fun h3 => ?_)
    · have hm := cd_t h3 hm
      refine c_region ?_
      refine o_T (y_move rfl) rfl ?_
      refine o_T (y_move rfl) rfl ?_
      refine o_T (y_move rfl) rfl ?_
      obtain ⟨s2, hx4, hm⟩ := bd hm
      refine o_T (y_ssl Tryz.underlying9 rfl (biS rfl) biN hx4) rfl ?_
      refine o_bs1 sz_185 rfl rfl rfl rfl rfl rfl (fun b2 => ?_)
      obtain ⟨l4, hx5, hm⟩ := bd hm
      refine o_appR (R := rStr) (a := s2) sz_185 rfl rfl rfl rfl ho4 rfl hx5 (Sel.e (s_get (ks k0) (s_take s_nil))) rfl (fun v4 g4 ho6 => ?_)
      refine o_L (y_assign rfl) rfl rfl ?_
      refine o_nil0 rfl ?_
      refine c_seq ?_
      refine c_region ?_
      refine o_T (y_move rfl) rfl ?_
      refine o_L (y_assign rfl) rfl rfl ?_
      refine o_nil0 rfl ?_
      refine c_ret ?_
      obtain rfl := p1 hm
      refine fun aX wX heX hsX => ret1 Tryz.results185 heX rfl (s_take (s_take s_nil)) ?_
      exact ⟨v4, _, rfl, rfl, ho6⟩
    · have hm := cd_f h3 hm
      refine c_skip ?_
      refine c_seq ?_
      refine c_region ?_
      refine o_T (y_move rfl) rfl ?_
      refine o_L (y_assign rfl) rfl rfl ?_
      refine o_nil0 rfl ?_
      refine c_ret ?_
      obtain rfl := p1 hm
      refine fun aX wX heX hsX => ret1 Tryz.results185 heX rfl (s_take (s_take s_nil)) ?_
      exact ⟨v2, _, rfl, rfl, ho4⟩
end Go.Proofs.Qxb6500350aGreat
