/- MADE BY PROGRAM (tools350/mir.py): mirror and walk. -/
import Derived.Test.Qxb6500350aGreatF2
import Derived.Test.Qxb6500350aGreatT281
set_option linter.unusedVariables false
set_option linter.unusedSimpArgs false
set_option maxRecDepth 20000
set_option maxHeartbeats 4000000
namespace Go.Proofs.Qxb6500350aGreat
open Go.Eng

/- diff.addAll -/
def m308_w1 (n : Nat) (l : (List Str)) (to_ : Int) (mm : Nat) : (List UInt8) → Int → Option ((List UInt8) × Int) := it2 (fun lp1 l1 c1 =>
cond (decide (c1 < to_)) (
Option.bind (ixL l c1) fun x1 =>
ob1 (m281 n l1 x1) fun l3 =>
lp1 l3 (wi (c1 + 1))) (
some (l1, c1))) mm
def m308 (n : Nat) (out : (List UInt8)) (l : (List Str)) (from_ : Int) (to_ : Int) : Option ((List UInt8)) :=
ob2 (m308_w1 n l to_ n out from_) fun l2 c2 =>
some l2
theorem t308 {n : Nat} {C : List Chunk} {rl1 : List UInt8} {v1 : Value} {out : (List UInt8)} {g1 : List Chunk} {v2 : Value} {l : (List Str)} {from_ : Int} {to_ : Int} (ho1 : Own rByte v1 out g1) (hr1 : Rd rStr C v2 l)  (hm : m308 n out l from_ to_ = some rl1) : Trip Tryz.prog 308 #[v1, v2, .int .i64 from_, .int .i64 to_] ([g1] ++ [C]) (fun u S' => ∃ (ev1 : Value), ∃ (eg1 : List Chunk), ev1 = u ∧ S' = [eg1] ++ [C] ∧ Own rByte ev1 rl1 eg1) := by
  refine fn_entry (args := [v1, v2, .int .i64 from_, .int .i64 to_]) Tryz.func308 rfl Tryz.ntmps308 rfl (fun w0 => ?_)
  refine c_seq ?_
  refine c_region ?_
  have ho2 : Own rByte (.slice none 0 0) [] [] := Own.nil
  refine o_emp ?_
  refine o_L (y_assign rfl) rfl rfl ?_
  refine o_nil0 rfl ?_
  refine c_seq ?_
  refine c_seq ?_
  refine c_region ?_
  refine o_T (y_move rfl) rfl ?_
  refine o_L (y_assign rfl) rfl rfl ?_
  refine o_nil0 rfl ?_
  obtain ⟨l2, c2, hj1, hm⟩ := bd2 hm
  refine c_joinP (n := 1) (fun sh G => ∃ (v4 : Value), ∃ (g3 : List Chunk), sh = [(0, v4), (9, .int .i64 c2)] ∧ G = [g3] ∧ Own rByte v4 l2 g3) (s_skip (s_take (s_take s_nil))) (.s .z) (fun _ _ h => h) ?_ ?_
  · skip
    refine c_block ?_
    refine c_loopP (n := 1) (fun mm sh G => ∃ (l1 : List UInt8), ∃ (c1 : Int), ∃ (v3 : Value), ∃ (g2 : List Chunk), sh = [(0, v3), (9, .int .i64 c1)] ∧ G = [g2] ∧ m308_w1 n l to_ mm l1 c1 = some (l2, c2) ∧ Own rByte v3 l1 g2) n (s_skip (s_take (s_take s_nil))) (.s .z) ⟨_, _, ⟨_, _, v1, _, rfl, rfl, hj1, ho1⟩, ⟨rfl, rfl, trivial⟩, _, (s_skip (s_take (s_take s_nil)))⟩ ?_
    rintro mm sh G ⟨l1, c1, v3, g2, rfl, rfl, hm, ho3⟩
    obtain ⟨mm1, rfl, hm⟩ := it2_s hm
    refine c_seq ?_
    refine c_seq ?_
    refine c_region ?_
    refine o_T (y_move rfl) rfl ?_
    refine o_T (y_move rfl) rfl ?_
    refine o_T (y_lss rfl rfl) rfl ?_
    refine o_nil1 13 rfl rfl ?_
    refine c_cond rfl (fun h1 => ?_) (fun h1 => ?_)
    · have hm := cd_t h1 hm
      refine c_skip ?_
      refine c_seq ?_
      refine c_block ?_
      refine c_region ?_
      refine o_T (y_move rfl) rfl ?_
      refine o_T (y_move rfl) rfl ?_
      refine o_T (y_move rfl) rfl ?_
      obtain ⟨x1, hx1, hm⟩ := bd hm
      obtain ⟨b1, w1, cs1, y1, z1, vs1, hc1, ha1, hr2, hy1⟩ := hr1.ix hx1
      obtain rfl : vs1 = (encS x1) := hr2
      refine o_T (hy1 sl_185 rfl rfl rfl) rfl ?_
      refine o_ld one_9 rfl (ms (mg hc1)) (At.getA (ha1)) rfl ?_
      obtain ⟨l3, hx2, hm⟩ := bd1 hm
      refine o_callC en_281 rfl (s_take s_nil) (t281 ho3 hx2) rfl (fun u1 S1 hR1 => ?_)
      obtain ⟨v5, g4, rfl, rfl, ho5⟩ := hR1
      refine o_rest ?_
      refine o_L (y_assign rfl) rfl rfl ?_
      refine o_nil0 rfl ?_
      refine c_region ?_
      refine o_T (y_move rfl) rfl ?_
      refine o_T (y_add rfl rfl rfl) rfl ?_
      refine o_L (y_assign rfl) rfl rfl ?_
      refine o_nil0 rfl ?_
      exact ⟨mm1, Nat.lt_succ_self _, _, _, ⟨_, _, v5, _, rfl, rfl, hm, ho5⟩, ⟨rfl, rfl, trivial⟩, ⟨rfl, rfl⟩, _, (s_take (s_take s_nil))⟩
    · have hm := cd_f h1 hm
      refine c_exit ?_
      obtain ⟨rfl, rfl⟩ := pr2 hm
      exact ⟨_, _, ⟨v3, _, rfl, rfl, ho3⟩, ⟨rfl, rfl, trivial⟩, ⟨rfl, rfl⟩, _, (s_take (s_take s_nil))⟩
  · rintro sh G ⟨v4, g3, rfl, rfl, ho4⟩
    refine c_seq ?_
    refine c_region ?_
    refine o_T (y_move rfl) rfl ?_
    refine o_L (y_assign rfl) rfl rfl ?_
    refine o_nil0 rfl ?_
    refine c_ret ?_
    obtain rfl := p1 hm
    refine fun aX wX heX hsX => ret1 Tryz.results308 heX rfl (s_take (s_take s_nil)) ?_
    exact ⟨v4, _, rfl, rfl, ho4⟩
end Go.Proofs.Qxb6500350aGreat
