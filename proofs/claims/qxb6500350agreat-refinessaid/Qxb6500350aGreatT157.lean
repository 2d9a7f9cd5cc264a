/- MADE BY PROGRAM (tools350/mir.py): mirror and walk. -/
import Derived.Test.Qxb6500350aGreatF2
import Derived.Test.Qxb6500350aGreatT230
set_option linter.unusedVariables false
set_option linter.unusedSimpArgs false
set_option maxRecDepth 20000
set_option maxHeartbeats 4000000
namespace Go.Proofs.Qxb6500350aGreat
open Go.Eng

/- api.BaseOf -/
def m157_w1 (n : Nat) (n_ : (List Node)) (l1 : List Bool) (l2 : List Bool) (mm : Nat) : Int → Option (Flow (Int) (Int)) := it1 (fun lp1 c1 =>
cond (decide ((0 : Int) ≤ c1)) (
ob1 (Option.bind (ixL l1 c1) fun x1 =>
cond x1 (Option.bind (ixL l2 c1) fun x2 =>
some (x2)) (some (false))) fun c3 =>
cond c3 (
Option.bind (ixL n_ c1) fun x3 =>
Option.bind (some x3.seq) fun q1 => some (.ret q1)) (
lp1 (wi (c1 - 1)))) (
some (.nx c1))) mm
def m157 (n : Nat) (n_ : (List Node)) (a : Int) (b_ : Int) : Option (Int) :=
ob1 (m230 n n_ ([a] : List Int)) fun l1 =>
ob1 (m230 n n_ ([b_] : List Int)) fun l2 =>
flow (m157_w1 n n_ l1 l2 n (wi ((n_.length : Int) - 1))) some (un1 fun c2 =>
some 0)
theorem t157 {n : Nat} {C : List Chunk} {rc1 : Int} {v1 : Value} {n_ : (List Node)} {a : Int} {b_ : Int} (hr1 : Rd rNode C v1 n_)  (hm : m157 n n_ a b_ = some rc1) : Trip Tryz.prog 157 #[v1, .int .i64 a, .int .i64 b_] ([] ++ [C]) (fun u S' => .int .i64 rc1 = u ∧ S' = [] ++ [C]) := by
  refine fn_entry (args := [v1, .int .i64 a, .int .i64 b_]) Tryz.func157 rfl Tryz.ntmps157 rfl (fun w0 => ?_)
  refine c_seq ?_
  refine c_region ?_
  refine o_L (y_assign rfl) rfl rfl ?_
  refine o_nil0 rfl ?_
  refine c_seq ?_
  refine c_region ?_
  refine o_T (y_move rfl) rfl ?_
  refine o_T (y_move rfl) rfl ?_
  refine o_bs1 sz_65 rfl rfl rfl rfl rfl rfl (fun b1 => ?_)
  have ho1 := Own.one (R := rInt) (b := b1) (a := a) (g := []) (cs := Value.cells (.int .i64 a)) rfl
  obtain ⟨l1, hx1, hm⟩ := bd1 hm
  refine o_callC en_230 rfl s_nil (t230 (hr1.mono (fun _ hz => (ms (mg hz)))) (ho1.rd.mono (fun _ hz => (mg hz))) hx1) rfl (fun u1 S1 hR1 => ?_)
  obtain ⟨v2, g1, rfl, rfl, ho2⟩ := hR1
  refine o_rest ?_
  refine o_L (y_assign rfl) rfl rfl ?_
  refine o_nil0 rfl ?_
  refine c_seq ?_
  refine c_region ?_
  refine o_T (y_move rfl) rfl ?_
  refine o_T (y_move rfl) rfl ?_
  refine o_bs1 sz_65 rfl rfl rfl rfl rfl rfl (fun b2 => ?_)
  have ho3 := Own.one (R := rInt) (b := b2) (a := b_) (g := []) (cs := Value.cells (.int .i64 b_)) rfl
  obtain ⟨l2, hx2, hm⟩ := bd1 hm
  refine o_callC en_230 rfl s_nil (t230 (hr1.mono (fun _ hz => (ms (ms (ms (mg hz)))))) (ho3.rd.mono (fun _ hz => (mg hz))) hx2) rfl (fun u2 S2 hR2 => ?_)
  obtain ⟨v3, g2, rfl, rfl, ho4⟩ := hR2
  refine o_rest ?_
  refine o_L (y_assign rfl) rfl rfl ?_
  refine o_nil0 rfl ?_
  refine c_seq ?_
  refine c_seq ?_
  refine c_region ?_
  refine o_T (y_move rfl) rfl ?_
  refine o_T (y_lenR hr1 Tryz.underlying55 rfl) rfl ?_
  refine o_T (y_sub rfl rfl rfl) rfl ?_
  refine o_L (y_assign rfl) rfl rfl ?_
  refine o_nil0 rfl ?_
  obtain ⟨f1, F1, hF1, hj1, hF2⟩ := fl2 hm
  refine c_joinP (n := 0) (fun sh G => ∃ (c2 : Int), sh = [(9, .int .i64 c2)] ∧ G = [] ∧ F1 c2 = some rc1) (s_take (s_skip (s_take (s_skip (s_take s_nil))))) .z (fun _ _ h => h) ?_ ?_
  · skip
    refine c_block ?_
    refine c_loopP (n := 0) (fun mm sh G => ∃ (c1 : Int), sh = [(9, .int .i64 c1)] ∧ G = [] ∧ m157_w1 n n_ l1 l2 mm c1 = some f1) n (s_take (s_skip (s_take (s_skip (s_take s_nil))))) .z ⟨_, _, ⟨_, rfl, rfl, hj1⟩, ⟨rfl, trivial⟩, _, (s_take (s_skip (s_take (s_skip (s_take s_nil)))))⟩ ?_
    rintro mm sh G ⟨c1, rfl, rfl, hm⟩
    obtain ⟨mm1, rfl, hm⟩ := it1_s hm
    refine c_seq ?_
    refine c_seq ?_
    refine c_region ?_
    refine o_T (y_move rfl) rfl ?_
    refine o_T (y_geq rfl rfl) rfl ?_
    refine o_nil1 22 rfl rfl ?_
    refine c_cond rfl (fun h1 => ?_) (fun h1 => ?_)
    · have hm := cd_t h1 hm
      refine c_skip ?_
      refine c_seq ?_
      refine c_block ?_
      refine c_seq ?_
      obtain ⟨c3, hj2, hm⟩ := bd1 hm
      refine c_joinP (n := 0) (fun sh G => sh = [(34, .bool c3)] ∧ G = []) Sel.all' .z (fun _ _ h => h) ?_ ?_
      · have hm := hj2
        refine c_region ?_
        refine o_T (y_move rfl) rfl ?_
        refine o_T (y_move rfl) rfl ?_
        obtain ⟨x1, hx3, hm⟩ := bd hm
        obtain ⟨b3, w1, cs1, y1, z1, vs1, hc1, ha1, hr2, hy1⟩ := ho2.rd.ix hx3
        obtain rfl : vs1 = (encB x1) := hr2
        refine o_T (hy1 sl_241 rfl rfl rfl) rfl ?_
        refine o_ld one_4 rfl (ms (mg hc1)) (At.getA (ha1)) rfl ?_
        refine o_T (y_move rfl) rfl ?_
        refine o_split 29 rfl (fun h2 => ?_) (fun h2 => ?_)
        · have hm := cd_t h2 hm
          refine o_take rfl rfl rfl ?_
          refine o_T (y_move rfl) rfl ?_
          refine o_take rfl rfl rfl ?_
          refine o_T (y_move rfl) rfl ?_
          refine o_take rfl rfl rfl ?_
          obtain ⟨x2, hx4, hm⟩ := bd hm
          obtain ⟨b4, w2, cs2, y2, z2, vs2, hc2, ha2, hr3, hy2⟩ := ho4.rd.ix hx4
          obtain rfl : vs2 = (encB x2) := hr3
          refine o_T (hy2 sl_241 rfl rfl rfl) rfl ?_
          refine o_take rfl rfl rfl ?_
          refine o_ld one_4 rfl (mg hc2) (At.getA (ha2)) rfl ?_
          refine o_T (y_pickT rfl rfl) rfl ?_
          refine o_nil1 34 rfl rfl ?_
          obtain rfl := p1 hm
          exact ⟨_, _, ⟨rfl, rfl⟩, ⟨rfl, trivial⟩, ⟨rfl, rfl⟩, _, (s_take (s_take (s_take s_nil)))⟩
        · have hm := cd_f h2 hm
          refine o_pass rfl rfl rfl rfl rfl ?_
          refine o_pass rfl rfl rfl rfl rfl ?_
          refine o_pass rfl rfl rfl rfl rfl ?_
          refine o_pass rfl rfl rfl rfl rfl ?_
          refine o_T (y_pickF rfl rfl) rfl ?_
          refine o_nil1 34 rfl rfl ?_
          obtain rfl := p1 hm
          exact ⟨_, _, ⟨rfl, rfl⟩, ⟨rfl, trivial⟩, ⟨rfl, rfl⟩, _, (s_take (s_take (s_take s_nil)))⟩
      · rintro sh G ⟨rfl, rfl⟩
        refine c_cond rfl (fun h3 => ?_) (fun h3 => ?_)
        · have hm := cd_t h3 hm
          refine c_seq ?_
          refine c_region ?_
          refine o_T (y_move rfl) rfl ?_
          refine o_T (y_move rfl) rfl ?_
          obtain ⟨x3, hx5, hm⟩ := bd hm
          obtain ⟨b5, w3, cs3, y3, z3, vs3, hc3, ha3, hr4, hy3⟩ := hr1.ix hx5
          obtain ⟨v4, v5, rfl, hr5, hr6⟩ := hr4
          refine o_T (hy3 sl_55 rfl rfl rfl) rfl ?_
          refine o_T (y_fa fl_93_0 rfl) rfl ?_
          refine o_ld one_3 rfl (ms (ms (mg hc3))) (At.getA (ha3.comp Node.a_seq)) rfl ?_
          refine o_L (y_assign rfl) rfl rfl ?_
          refine o_nil0 rfl ?_
          refine c_ret ?_
          obtain ⟨q1, hq1, hm⟩ := bd hm
          have hm := fl_ret hm hF2
          have hm := hq1.trans hm
          obtain rfl := p1 hm
          refine fun aX wX heX hsX => ret1 Tryz.results157 heX rfl (s_skip (s_skip (s_take s_nil))) ?_
          exact ⟨rfl, rfl⟩
        · have hm := cd_f h3 hm
          refine c_skip ?_
          refine c_region ?_
          refine o_T (y_move rfl) rfl ?_
          refine o_T (y_sub rfl rfl rfl) rfl ?_
          refine o_L (y_assign rfl) rfl rfl ?_
          refine o_nil0 rfl ?_
          exact ⟨mm1, Nat.lt_succ_self _, _, _, ⟨_, rfl, rfl, hm⟩, ⟨rfl, trivial⟩, ⟨rfl, rfl⟩, _, (s_take (s_take (s_take s_nil)))⟩
    · have hm := cd_f h1 hm
      refine c_exit ?_
      have hm := fl_nx hm hF2
      exact ⟨_, _, ⟨_, rfl, rfl, hm⟩, ⟨rfl, trivial⟩, ⟨rfl, rfl⟩, _, (s_take (s_take (s_take s_nil)))⟩
  · rintro sh G ⟨c2, rfl, rfl, hm⟩
    subst hF1
    refine c_seq ?_
    refine c_region ?_
    refine o_L (y_assign rfl) rfl rfl ?_
    refine o_nil0 rfl ?_
    refine c_ret ?_
    obtain rfl := p1 hm
    refine fun aX wX heX hsX => ret1 Tryz.results157 heX rfl (s_skip (s_skip (s_take s_nil))) ?_
    exact ⟨rfl, rfl⟩
end Go.Proofs.Qxb6500350aGreat
