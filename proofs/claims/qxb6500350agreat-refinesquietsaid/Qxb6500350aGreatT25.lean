/- MADE BY PROGRAM (tools350/mir.py): mirror and walk. -/
import Derived.Test.Qxb6500350aGreatF2
import Derived.Test.Qxb6500350aGreatT78
set_option linter.unusedVariables false
set_option linter.unusedSimpArgs false
set_option maxRecDepth 20000
set_option maxHeartbeats 4000000
namespace Go.Proofs.Qxb6500350aGreat
open Go.Eng

/- api.CopyNodes -/
def m25_w1 (n : Nat) (n_ : (List Node)) (mm : Nat) : (List Node) → Int → Option ((List Node) × Int) := it2 (fun lp1 l1 c1 =>
cond (decide (c1 < (n_.length : Int))) (
Option.bind (ixL n_ c1) fun x1 =>
ob1 (m78 n x1) fun x2 =>
Option.bind (apd l1 x2) fun l3 =>
lp1 l3 (wi (c1 + 1))) (
some (l1, c1))) mm
def m25 (n : Nat) (n_ : (List Node)) : Option ((List Node)) :=
ob2 (m25_w1 n n_ n ([] : List Node) 0) fun l2 c2 =>
some l2
theorem t25 {n : Nat} {C : List Chunk} {rl1 : List Node} {v1 : Value} {n_ : (List Node)} (hr1 : Rd rNode C v1 n_)  (hm : m25 n n_ = some rl1) : Trip Tryz.prog 25 #[v1] ([] ++ [C]) (fun u S' => ∃ (ev1 : Value), ∃ (eg1 : List Chunk), ev1 = u ∧ S' = [eg1] ++ [C] ∧ Own rNode ev1 rl1 eg1) := by
  refine fn_entry (args := [v1]) Tryz.func25 rfl Tryz.ntmps25 rfl (fun w0 => ?_)
  refine c_seq ?_
  refine c_region ?_
  have ho1 : Own rNode (.slice none 0 0) [] [] := Own.nil
  refine o_emp ?_
  refine o_L (y_assign rfl) rfl rfl ?_
  refine o_nil0 rfl ?_
  refine c_seq ?_
  refine c_region ?_
  have ho2 : Own rNode (.slice none 0 0) [] [] := Own.nil
  refine o_emp ?_
  refine o_L (y_assign rfl) rfl rfl ?_
  refine o_nil0 rfl ?_
  refine c_seq ?_
  refine c_seq ?_
  refine c_region ?_
  refine o_L (y_assign rfl) rfl rfl ?_
  refine o_nil0 rfl ?_
  obtain ⟨l2, c2, hj1, hm⟩ := bd2 hm
  refine c_joinP (n := 1) (fun sh G => ∃ (v3 : Value), ∃ (g2 : List Chunk), sh = [(3, v3), (4, .int .i64 c2)] ∧ G = [g2] ∧ Own rNode v3 l2 g2) (s_take (s_skip (s_take s_nil))) (.s .z) (fun _ _ h => h) ?_ ?_
  · skip
    refine c_block ?_
    refine c_loopP (n := 1) (fun mm sh G => ∃ (l1 : List Node), ∃ (c1 : Int), ∃ (v2 : Value), ∃ (g1 : List Chunk), sh = [(3, v2), (4, .int .i64 c1)] ∧ G = [g1] ∧ m25_w1 n n_ mm l1 c1 = some (l2, c2) ∧ Own rNode v2 l1 g1) n (s_take (s_skip (s_take s_nil))) (.s .z) ⟨_, _, ⟨_, _, (.slice none 0 0), _, rfl, rfl, hj1, ho2⟩, ⟨rfl, rfl, trivial⟩, _, (s_take (s_skip (s_take s_nil)))⟩ ?_
    rintro mm sh G ⟨l1, c1, v2, g1, rfl, rfl, hm, ho3⟩
    obtain ⟨mm1, rfl, hm⟩ := it2_s hm
    refine c_seq ?_
    refine c_seq ?_
    refine c_region ?_
    refine o_T (y_move rfl) rfl ?_
    refine o_T (y_move rfl) rfl ?_
    refine o_T (y_lenR hr1 Tryz.underlying55 rfl) rfl ?_
    refine o_T (y_lss rfl rfl) rfl ?_
    refine o_nil1 8 rfl rfl ?_
    refine c_cond rfl (fun h1 => ?_) (fun h1 => ?_)
    · have hm := cd_t h1 hm
      refine c_skip ?_
      refine c_seq ?_
      refine c_block ?_
      refine c_region ?_
      refine o_T (y_move rfl) rfl ?_
      refine o_T (y_move rfl) rfl ?_
      refine o_T (y_move rfl) rfl ?_
      obtain ⟨x1, hx1, hm⟩ := bd hm
      obtain ⟨b1, w1, cs1, y1, z1, vs1, hc1, ha1, hr2, hy1⟩ := hr1.ix hx1
      obtain ⟨v4, v5, rfl, hr3, hr4⟩ := hr2
      refine o_T (hy1 sl_55 rfl rfl rfl) rfl ?_
      refine o_lda ag_93 rfl (ms (mg hc1)) (At.ext (ha1) (Node.len _ _ _)) (At.fit (ha1) (Node.len _ _ _)) rfl ?_
      obtain ⟨x2, hx2, hm⟩ := bd1 hm
      refine o_callC en_78 rfl s_nil (t78 (hr3.mono (fun _ hz => (ms (mg hz)))) (hr4.mono (fun _ hz => (ms (mg hz)))) hx2) rfl (fun u1 S1 hR1 => ?_)
      obtain ⟨v6, g3, v7, g4, rfl, rfl, ho5, ho6⟩ := hR1
      refine o_rest ?_
      refine o_bs1 sz_55 rfl rfl rfl rfl rfl rfl (fun b2 => ?_)
      obtain ⟨l3, hx3, hm⟩ := bd hm
      refine o_appR (R := rNode) (a := x2) sz_55 rfl rfl rfl rfl ho3 ⟨_, _, rfl, ho5.rd.mono (fun _ hz => mem_l hz), ho6.rd.mono (fun _ hz => mem_r hz)⟩ hx3 (Sel.m2 (s_get (ks (ks (ks k0))) (s_take (s_take (s_take s_nil))))) rfl (fun v8 g5 ho7 => ?_)
      refine o_L (y_assign rfl) rfl rfl ?_
      refine o_nil0 rfl ?_
      refine c_region ?_
      refine o_T (y_move rfl) rfl ?_
      refine o_T (y_add rfl rfl rfl) rfl ?_
      refine o_L (y_assign rfl) rfl rfl ?_
      refine o_nil0 rfl ?_
      exact ⟨mm1, Nat.lt_succ_self _, _, _, ⟨_, _, v8, _, rfl, rfl, hm, ho7⟩, ⟨rfl, rfl, trivial⟩, ⟨rfl, rfl⟩, _, (s_take (s_take s_nil))⟩
    · have hm := cd_f h1 hm
      refine c_exit ?_
      obtain ⟨rfl, rfl⟩ := pr2 hm
      exact ⟨_, _, ⟨v2, _, rfl, rfl, ho3⟩, ⟨rfl, rfl, trivial⟩, ⟨rfl, rfl⟩, _, (s_take (s_take s_nil))⟩
  · rintro sh G ⟨v3, g2, rfl, rfl, ho4⟩
    refine c_seq ?_
    refine c_region ?_
    refine o_T (y_move rfl) rfl ?_
    refine o_L (y_assign rfl) rfl rfl ?_
    refine o_nil0 rfl ?_
    refine c_ret ?_
    obtain rfl := p1 hm
    refine fun aX wX heX hsX => ret1 Tryz.results25 heX rfl (s_take (s_take s_nil)) ?_
    exact ⟨v3, _, rfl, rfl, ho4⟩
end Go.Proofs.Qxb6500350aGreat
