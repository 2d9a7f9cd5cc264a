/- MADE BY PROGRAM (tools350/mir.py): mirror and walk. -/
import Derived.Test.Qxb6500350aGreatF2
import Derived.Test.Qxb6500350aGreatT230
set_option linter.unusedVariables false
set_option linter.unusedSimpArgs false
set_option maxRecDepth 20000
set_option maxHeartbeats 4000000
namespace Go.Proofs.Qxb6500350aGreat
open Go.Eng

/- api.LogOf -/
def m177_w1 (n : Nat) (n_ : (List Node)) (seq : Int) (l1 : List Bool) (mm : Nat) : (List Int) → Int → Option ((List Int) × Int) := it2 (fun lp1 l2 c1 =>
cond (decide ((0 : Int) ≤ c1)) (
Option.bind (ixL l1 c1) fun x1 =>
cond x1 (
Option.bind (ixL n_ c1) fun x2 =>
Option.bind (apd l2 x2.seq) fun l4 =>
lp1 l4 (wi (c1 - 1))) (
lp1 l2 (wi (c1 - 1)))) (
some (l2, c1))) mm
def m177 (n : Nat) (n_ : (List Node)) (seq : Int) : Option ((List Int)) :=
ob1 (m230 n n_ ([seq] : List Int)) fun l1 =>
ob2 (m177_w1 n n_ seq l1 n ([] : List Int) (wi ((n_.length : Int) - 1))) fun l3 c2 =>
some l3
theorem t177 {n : Nat} {C : List Chunk} {rl1 : List Int} {v1 : Value} {n_ : (List Node)} {seq : Int} (hr1 : Rd rNode C v1 n_)  (hm : m177 n n_ seq = some rl1) : Trip Tryz.prog 177 #[v1, .int .i64 seq] ([] ++ [C]) (fun u S' => ∃ (ev1 : Value), ∃ (eg1 : List Chunk), ev1 = u ∧ S' = [eg1] ++ [C] ∧ Own rInt ev1 rl1 eg1) := by
  refine fn_entry (args := [v1, .int .i64 seq]) Tryz.func177 rfl Tryz.ntmps177 rfl (fun w0 => ?_)
  refine c_seq ?_
  refine c_region ?_
  have ho1 : Own rInt (.slice none 0 0) [] [] := Own.nil
  refine o_emp ?_
  refine o_L (y_assign rfl) rfl rfl ?_
  refine o_nil0 rfl ?_
  refine c_seq ?_
  refine c_region ?_
  refine o_T (y_move rfl) rfl ?_
  refine o_T (y_move rfl) rfl ?_
  refine o_bs1 sz_65 rfl rfl rfl rfl rfl rfl (fun b1 => ?_)
  have ho2 := Own.one (R := rInt) (b := b1) (a := seq) (g := []) (cs := Value.cells (.int .i64 seq)) rfl
  obtain ⟨l1, hx1, hm⟩ := bd1 hm
  refine o_callC en_230 rfl s_nil (t230 (hr1.mono (fun _ hz => (ms (ms (mg hz))))) (ho2.rd.mono (fun _ hz => (mg hz))) hx1) rfl (fun u1 S1 hR1 => ?_)
  obtain ⟨v2, g1, rfl, rfl, ho3⟩ := hR1
  refine o_rest ?_
  refine o_L (y_assign rfl) rfl rfl ?_
  refine o_nil0 rfl ?_
  refine c_seq ?_
  refine c_region ?_
  have ho4 : Own rInt (.slice none 0 0) [] [] := Own.nil
  refine o_emp ?_
  refine o_L (y_assign rfl) rfl rfl ?_
  refine o_nil0 rfl ?_
  refine c_seq ?_
  refine c_seq ?_
  refine c_region ?_
  refine o_T (y_move rfl) rfl ?_
  refine o_T (y_lenR hr1 Tryz.underlying55 rfl) rfl ?_
  refine o_T (y_sub rfl rfl rfl) rfl ?_
  refine o_L (y_assign rfl) rfl rfl ?_
  refine o_nil0 rfl ?_
  obtain ⟨l3, c2, hj1, hm⟩ := bd2 hm
  refine c_joinP (n := 1) (fun sh G => ∃ (v4 : Value), ∃ (g3 : List Chunk), sh = [(6, v4), (7, .int .i64 c2)] ∧ G = [g3] ∧ Own rInt v4 l3 g3) (s_take (s_take (s_skip (s_skip (s_take s_nil))))) (.s .z) (fun _ _ h => h) ?_ ?_
  · skip
    refine c_block ?_
    refine c_loopP (n := 1) (fun mm sh G => ∃ (l2 : List Int), ∃ (c1 : Int), ∃ (v3 : Value), ∃ (g2 : List Chunk), sh = [(6, v3), (7, .int .i64 c1)] ∧ G = [g2] ∧ m177_w1 n n_ seq l1 mm l2 c1 = some (l3, c2) ∧ Own rInt v3 l2 g2) n (s_take (s_take (s_skip (s_skip (s_take s_nil))))) (.s .z) ⟨_, _, ⟨_, _, (.slice none 0 0), _, rfl, rfl, hj1, ho4⟩, ⟨rfl, rfl, trivial⟩, _, (s_take (s_take (s_skip (s_skip (s_take s_nil)))))⟩ ?_
    rintro mm sh G ⟨l2, c1, v3, g2, rfl, rfl, hm, ho5⟩
    obtain ⟨mm1, rfl, hm⟩ := it2_s hm
    refine c_seq ?_
    refine c_seq ?_
    refine c_region ?_
    refine o_T (y_move rfl) rfl ?_
    refine o_T (y_geq rfl rfl) rfl ?_
    refine o_nil1 16 rfl rfl ?_
    refine c_cond rfl (fun h1 => ?_) (fun h1 => ?_)
    · have hm := cd_t h1 hm
      refine c_skip ?_
      refine c_seq ?_
      refine c_block ?_
      refine c_seq ?_
      refine c_region ?_
      refine o_T (y_move rfl) rfl ?_
      refine o_T (y_move rfl) rfl ?_
      obtain ⟨x1, hx2, hm⟩ := bd hm
      obtain ⟨b2, w1, cs1, y1, z1, vs1, hc1, ha1, hr2, hy1⟩ := ho3.rd.ix hx2
      obtain rfl : vs1 = (encB x1) := hr2
      refine o_T (hy1 sl_241 rfl rfl rfl) rfl ?_
      refine o_ld one_4 rfl (ms (mg hc1)) (At.getA (ha1)) rfl ?_
      refine o_nil1 22 rfl rfl ?_
      refine c_cond rfl (fun h2 => ?_) (fun h2 => ?_)
      · have hm := cd_t h2 hm
        refine c_region ?_
        refine o_T (y_move rfl) rfl ?_
        refine o_T (y_move rfl) rfl ?_
        refine o_T (y_move rfl) rfl ?_
        obtain ⟨x2, hx3, hm⟩ := bd hm
        obtain ⟨b3, w2, cs2, y2, z2, vs2, hc2, ha2, hr3, hy2⟩ := hr1.ix hx3
        obtain ⟨v5, v6, rfl, hr4, hr5⟩ := hr3
        refine o_T (hy2 sl_55 rfl rfl rfl) rfl ?_
        refine o_T (y_fa fl_93_0 rfl) rfl ?_
        refine o_ld one_3 rfl (ms (ms (mg hc2))) (At.getA (ha2.comp Node.a_seq)) rfl ?_
        refine o_bs1 sz_65 rfl rfl rfl rfl rfl rfl (fun b4 => ?_)
        obtain ⟨l4, hx4, hm⟩ := bd hm
        refine o_appR (R := rInt) (a := x2.seq) sz_65 rfl rfl rfl rfl ho5 rfl hx4 (Sel.e (s_get (ks k0) (s_take s_nil))) rfl (fun v7 g4 ho7 => ?_)
        refine o_L (y_assign rfl) rfl rfl ?_
        refine o_nil0 rfl ?_
        refine c_region ?_
        refine o_T (y_move rfl) rfl ?_
        refine o_T (y_sub rfl rfl rfl) rfl ?_
        refine o_L (y_assign rfl) rfl rfl ?_
        refine o_nil0 rfl ?_
        exact ⟨mm1, Nat.lt_succ_self _, _, _, ⟨_, _, v7, _, rfl, rfl, hm, ho7⟩, ⟨rfl, rfl, trivial⟩, ⟨rfl, rfl⟩, _, (s_take (s_take (s_take s_nil)))⟩
      · have hm := cd_f h2 hm
        refine c_skip ?_
        refine c_region ?_
        refine o_T (y_move rfl) rfl ?_
        refine o_T (y_sub rfl rfl rfl) rfl ?_
        refine o_L (y_assign rfl) rfl rfl ?_
        refine o_nil0 rfl ?_
        exact ⟨mm1, Nat.lt_succ_self _, _, _, ⟨_, _, v3, _, rfl, rfl, hm, ho5⟩, ⟨rfl, rfl, trivial⟩, ⟨rfl, rfl⟩, _, (s_take (s_take (s_take s_nil)))⟩
    · have hm := cd_f h1 hm
      refine c_exit ?_
      obtain ⟨rfl, rfl⟩ := pr2 hm
      exact ⟨_, _, ⟨v3, _, rfl, rfl, ho5⟩, ⟨rfl, rfl, trivial⟩, ⟨rfl, rfl⟩, _, (s_take (s_take (s_take s_nil)))⟩
  · rintro sh G ⟨v4, g3, rfl, rfl, ho6⟩
    refine c_seq ?_
    refine c_region ?_
    refine o_T (y_move rfl) rfl ?_
    refine o_L (y_assign rfl) rfl rfl ?_
    refine o_nil0 rfl ?_
    refine c_ret ?_
    obtain rfl := p1 hm
    refine fun aX wX heX hsX => ret1 Tryz.results177 heX rfl (s_take (s_skip (s_take s_nil))) ?_
    exact ⟨v4, _, rfl, rfl, ho6⟩
end Go.Proofs.Qxb6500350aGreat
