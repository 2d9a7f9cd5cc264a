/- MADE BY PROGRAM (tools350/mir.py): mirror and walk. -/
import Derived.Test.Qxb6500350aGreatF2
import Derived.Test.Qxb6500350aGreatT240
import Derived.Test.Qxb6500350aGreatT230
import Derived.Test.Qxb6500350aGreatT78
set_option linter.unusedVariables false
set_option linter.unusedSimpArgs false
set_option maxRecDepth 20000
set_option maxHeartbeats 4000000
namespace Go.Proofs.Qxb6500350aGreat
open Go.Eng

/- api.Keep -/
def m161_w1 (n : Nat) (n_ : (List Node)) (l2 : List Bool) (mm : Nat) : (List Node) → Int → Option ((List Node) × Int) := it2 (fun lp1 l3 c1 =>
cond (decide (c1 < (n_.length : Int))) (
Option.bind (ixL l2 c1) fun x1 =>
cond x1 (
Option.bind (ixL n_ c1) fun x2 =>
ob1 (m78 n x2) fun x3 =>
Option.bind (apd l3 x3) fun l5 =>
lp1 l5 (wi (c1 + 1))) (
lp1 l3 (wi (c1 + 1)))) (
some (l3, c1))) mm
def m161 (n : Nat) (n_ : (List Node)) (r : (List Ref_)) (h_ : Head) : Option ((List Node)) :=
ob1 (m240 n r h_) fun l1 =>
ob1 (m230 n n_ l1) fun l2 =>
ob2 (m161_w1 n n_ l2 n ([] : List Node) 0) fun l4 c2 =>
some l4
theorem t161 {n : Nat} {C : List Chunk} {rl1 : List Node} {v1 : Value} {n_ : (List Node)} {v2 : Value} {r : (List Ref_)} {h_ : Head} (hr1 : Rd rNode C v1 n_) (hr2 : Rd rRef_ C v2 r)  (hm : m161 n n_ r h_ = some rl1) : Trip Tryz.prog 161 #[v1, v2, .agg (Head.enc h_).toArray] ([] ++ [C]) (fun u S' => ∃ (ev1 : Value), ∃ (eg1 : List Chunk), ev1 = u ∧ S' = [eg1] ++ [C] ∧ Own rNode ev1 rl1 eg1) := by
  refine fn_entry (args := [v1, v2, .agg (Head.enc h_).toArray]) Tryz.func161 rfl Tryz.ntmps161 rfl (fun w0 => ?_)
  refine c_seq ?_
  refine c_region ?_
  refine o_box rfl rfl rfl rfl (fun b1 => ?_)
  have ho1 : Own rNode (.slice none 0 0) [] [] := Own.nil
  refine o_emp ?_
  refine o_L (y_assign rfl) rfl rfl ?_
  refine o_nil0 rfl ?_
  refine c_seq ?_
  refine c_region ?_
  refine o_T (y_move rfl) rfl ?_
  refine o_lda ag_54 rfl (ms m0) (At.exs At.refl (Head.len _)) (At.fits At.refl (Head.len _)) rfl ?_
  obtain ⟨l1, hx1, hm⟩ := bd1 hm
  refine o_callC en_240 rfl s_nil (t240 (hr2.mono (fun _ hz => (ms (ms (mg hz))))) hx1) rfl (fun u1 S1 hR1 => ?_)
  obtain ⟨v3, g1, rfl, rfl, ho2⟩ := hR1
  refine o_rest ?_
  refine o_L (y_assign rfl) rfl rfl ?_
  refine o_nil0 rfl ?_
  refine c_seq ?_
  refine c_region ?_
  refine o_T (y_move rfl) rfl ?_
  refine o_T (y_move rfl) rfl ?_
  obtain ⟨l2, hx2, hm⟩ := bd1 hm
  refine o_callC en_230 rfl s_nil (t230 (hr1.mono (fun _ hz => (ms (ms (ms (mg hz)))))) (ho2.rd.mono (fun _ hz => (mg hz))) hx2) rfl (fun u2 S2 hR2 => ?_)
  obtain ⟨v4, g2, rfl, rfl, ho3⟩ := hR2
  refine o_rest ?_
  refine o_L (y_assign rfl) rfl rfl ?_
  refine o_nil0 rfl ?_
  refine c_seq ?_
  refine c_region ?_
  have ho4 : Own rNode (.slice none 0 0) [] [] := Own.nil
  refine o_emp ?_
  refine o_L (y_assign rfl) rfl rfl ?_
  refine o_nil0 rfl ?_
  refine c_seq ?_
  refine c_seq ?_
  refine c_region ?_
  refine o_L (y_assign rfl) rfl rfl ?_
  refine o_nil0 rfl ?_
  obtain ⟨l4, c2, hj1, hm⟩ := bd2 hm
  refine c_joinP (n := 1) (fun sh G => ∃ (v6 : Value), ∃ (g4 : List Chunk), sh = [(9, v6), (10, .int .i64 c2)] ∧ G = [g4] ∧ Own rNode v6 l4 g4) (s_take (s_take (s_skip (s_skip (s_skip (s_take s_nil)))))) (.s .z) (fun _ _ h => h) ?_ ?_
  · skip
    refine c_block ?_
    refine c_loopP (n := 1) (fun mm sh G => ∃ (l3 : List Node), ∃ (c1 : Int), ∃ (v5 : Value), ∃ (g3 : List Chunk), sh = [(9, v5), (10, .int .i64 c1)] ∧ G = [g3] ∧ m161_w1 n n_ l2 mm l3 c1 = some (l4, c2) ∧ Own rNode v5 l3 g3) n (s_take (s_take (s_skip (s_skip (s_skip (s_take s_nil)))))) (.s .z) ⟨_, _, ⟨_, _, (.slice none 0 0), _, rfl, rfl, hj1, ho4⟩, ⟨rfl, rfl, trivial⟩, _, (s_take (s_take (s_skip (s_skip (s_skip (s_take s_nil))))))⟩ ?_
    rintro mm sh G ⟨l3, c1, v5, g3, rfl, rfl, hm, ho5⟩
    obtain ⟨mm1, rfl, hm⟩ := it2_s hm
    refine c_seq ?_
    refine c_seq ?_
    refine c_region ?_
    refine o_T (y_move rfl) rfl ?_
    refine o_T (y_move rfl) rfl ?_
    refine o_T (y_lenR hr1 Tryz.underlying55 rfl) rfl ?_
    refine o_T (y_lss rfl rfl) rfl ?_
    refine o_nil1 20 rfl rfl ?_
    refine c_cond rfl (fun h1 => ?_) (fun h1 => ?_)
    · have hm := cd_t h1 hm
      refine c_skip ?_
      refine c_seq ?_
      refine c_block ?_
      refine c_seq ?_
      refine c_region ?_
      refine o_T (y_move rfl) rfl ?_
      refine o_T (y_move rfl) rfl ?_
      obtain ⟨x1, hx3, hm⟩ := bd hm
      obtain ⟨b2, w1, cs1, y1, z1, vs1, hc1, ha1, hr3, hy1⟩ := ho3.rd.ix hx3
      obtain rfl : vs1 = (encB x1) := hr3
      refine o_T (hy1 sl_241 rfl rfl rfl) rfl ?_
      refine o_ld one_4 rfl (ms (mg hc1)) (At.getA (ha1)) rfl ?_
      refine o_nil1 26 rfl rfl ?_
      refine c_cond rfl (fun h2 => ?_) (fun h2 => ?_)
      · have hm := cd_t h2 hm
        refine c_region ?_
        refine o_T (y_move rfl) rfl ?_
        refine o_T (y_move rfl) rfl ?_
        refine o_T (y_move rfl) rfl ?_
        obtain ⟨x2, hx4, hm⟩ := bd hm
        obtain ⟨b3, w2, cs2, y2, z2, vs2, hc2, ha2, hr4, hy2⟩ := hr1.ix hx4
        obtain ⟨v7, v8, rfl, hr5, hr6⟩ := hr4
        refine o_T (hy2 sl_55 rfl rfl rfl) rfl ?_
        refine o_lda ag_93 rfl (ms (ms (mg hc2))) (At.ext (ha2) (Node.len _ _ _)) (At.fit (ha2) (Node.len _ _ _)) rfl ?_
        obtain ⟨x3, hx5, hm⟩ := bd1 hm
        refine o_callC en_78 rfl s_nil (t78 (hr5.mono (fun _ hz => (ms (ms (mg hz))))) (hr6.mono (fun _ hz => (ms (ms (mg hz))))) hx5) rfl (fun u3 S3 hR3 => ?_)
        obtain ⟨v9, g5, v10, g6, rfl, rfl, ho7, ho8⟩ := hR3
        refine o_rest ?_
        refine o_bs1 sz_55 rfl rfl rfl rfl rfl rfl (fun b4 => ?_)
        obtain ⟨l5, hx6, hm⟩ := bd hm
        refine o_appR (R := rNode) (a := x3) sz_55 rfl rfl rfl rfl ho5 ⟨_, _, rfl, ho7.rd.mono (fun _ hz => mem_l hz), ho8.rd.mono (fun _ hz => mem_r hz)⟩ hx6 (Sel.m2 (s_get (ks (ks (ks k0))) (s_take (s_take (s_take s_nil))))) rfl (fun v11 g7 ho9 => ?_)
        refine o_L (y_assign rfl) rfl rfl ?_
        refine o_nil0 rfl ?_
        refine c_region ?_
        refine o_T (y_move rfl) rfl ?_
        refine o_T (y_add rfl rfl rfl) rfl ?_
        refine o_L (y_assign rfl) rfl rfl ?_
        refine o_nil0 rfl ?_
        exact ⟨mm1, Nat.lt_succ_self _, _, _, ⟨_, _, v11, _, rfl, rfl, hm, ho9⟩, ⟨rfl, rfl, trivial⟩, ⟨rfl, rfl⟩, _, (s_take (s_take (s_take s_nil)))⟩
      · have hm := cd_f h2 hm
        refine c_skip ?_
        refine c_region ?_
        refine o_T (y_move rfl) rfl ?_
        refine o_T (y_add rfl rfl rfl) rfl ?_
        refine o_L (y_assign rfl) rfl rfl ?_
        refine o_nil0 rfl ?_
        exact ⟨mm1, Nat.lt_succ_self _, _, _, ⟨_, _, v5, _, rfl, rfl, hm, ho5⟩, ⟨rfl, rfl, trivial⟩, ⟨rfl, rfl⟩, _, (s_take (s_take (s_take s_nil)))⟩
    · have hm := cd_f h1 hm
      refine c_exit ?_
      obtain ⟨rfl, rfl⟩ := pr2 hm
      exact ⟨_, _, ⟨v5, _, rfl, rfl, ho5⟩, ⟨rfl, rfl, trivial⟩, ⟨rfl, rfl⟩, _, (s_take (s_take (s_take s_nil)))⟩
  · rintro sh G ⟨v6, g4, rfl, rfl, ho6⟩
    refine c_seq ?_
    refine c_region ?_
    refine o_T (y_move rfl) rfl ?_
    refine o_L (y_assign rfl) rfl rfl ?_
    refine o_nil0 rfl ?_
    refine c_ret ?_
    obtain rfl := p1 hm
    refine fun aX wX heX hsX => ret1 Tryz.results161 heX rfl (s_take (s_skip (s_take s_nil))) ?_
    exact ⟨v6, _, rfl, rfl, ho6⟩
end Go.Proofs.Qxb6500350aGreat
