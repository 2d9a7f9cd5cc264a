/- MADE BY PROGRAM (tools350/mir.py): mirror and walk. -/
import Derived.Test.Qxb6500350aGreatF2
set_option linter.unusedVariables false
set_option linter.unusedSimpArgs false
set_option maxRecDepth 20000
set_option maxHeartbeats 4000000
namespace Go.Proofs.Qxb6500350aGreat
open Go.Eng

/- api.addOnce -/
def m272_w1 (n : Nat) (set : (List Str)) (s_ : Str) (mm : Nat) : Int → Option (Flow ((List Str)) (Int)) := it1 (fun lp1 c1 =>
cond (decide (c1 < (set.length : Int))) (
Option.bind (ixL set c1) fun x1 =>
cond (decide (x1 = s_)) (
Option.bind (some set) fun q1 => some (.ret q1)) (
lp1 (wi (c1 + 1)))) (
some (.nx c1))) mm
def m272 (n : Nat) (set : (List Str)) (s_ : Str) : Option ((List Str)) :=
flow (m272_w1 n set s_ n 0) some (un1 fun c2 =>
Option.bind (apd set s_) fun l1 =>
some l1)
theorem t272 {n : Nat} {C : List Chunk} {rl1 : List Str} {v1 : Value} {set : (List Str)} {g1 : List Chunk} {s_ : Str} (ho1 : Own rStr v1 set g1)  (hm : m272 n set s_ = some rl1) : Trip Tryz.prog 272 #[v1, .string ⟨(s_ : Str).toArray⟩] ([g1] ++ [C]) (fun u S' => ∃ (ev1 : Value), ∃ (eg1 : List Chunk), ev1 = u ∧ S' = [eg1] ++ [C] ∧ Own rStr ev1 rl1 eg1) := by
  refine fn_entry (args := [v1, .string ⟨(s_ : Str).toArray⟩]) Tryz.func272 rfl Tryz.ntmps272 rfl (fun w0 => ?_)
  refine c_seq ?_
  refine c_region ?_
  have ho2 : Own rStr (.slice none 0 0) [] [] := Own.nil
  refine o_emp ?_
  refine o_L (y_assign rfl) rfl rfl ?_
  refine o_nil0 rfl ?_
  refine c_seq ?_
  refine c_seq ?_
  refine c_region ?_
  refine o_L (y_assign rfl) rfl rfl ?_
  refine o_nil0 rfl ?_
  obtain ⟨f1, F1, hF1, hj1, hF2⟩ := fl2 hm
  refine c_joinP (n := 0) (fun sh G => ∃ (c2 : Int), sh = [(5, .int .i64 c2)] ∧ G = [] ∧ F1 c2 = some rl1) (s_skip (s_take (s_take s_nil))) .z (fun _ _ h => h) ?_ ?_
  · skip
    refine c_block ?_
    refine c_loopP (n := 0) (fun mm sh G => ∃ (c1 : Int), sh = [(5, .int .i64 c1)] ∧ G = [] ∧ m272_w1 n set s_ mm c1 = some f1) n (s_skip (s_take (s_take s_nil))) .z ⟨_, _, ⟨_, rfl, rfl, hj1⟩, ⟨rfl, trivial⟩, _, (s_skip (s_take (s_take s_nil)))⟩ ?_
    rintro mm sh G ⟨c1, rfl, rfl, hm⟩
    obtain ⟨mm1, rfl, hm⟩ := it1_s hm
    refine c_seq ?_
    refine c_seq ?_
    refine c_region ?_
    refine o_T (y_move rfl) rfl ?_
    refine o_T (y_move rfl) rfl ?_
    refine o_T (y_lenR ho1.rd Tryz.underlying185 rfl) rfl ?_
    refine o_T (y_lss rfl rfl) rfl ?_
    refine o_nil1 9 rfl rfl ?_
    refine c_cond rfl (fun h1 => ?_) (fun h1 => ?_)
    · have hm := cd_t h1 hm
      refine c_skip ?_
      refine c_seq ?_
      refine c_block ?_
      refine c_seq ?_
      refine c_region ?_
      refine o_T (y_move rfl) rfl ?_
      refine o_T (y_move rfl) rfl ?_
      obtain ⟨x1, hx1, hm⟩ := bd hm
      obtain ⟨b1, w1, cs1, y1, z1, vs1, hc1, ha1, hr1, hy1⟩ := ho1.rd.ix hx1
      obtain rfl : vs1 = (encS x1) := hr1
      refine o_T (hy1 sl_185 rfl rfl rfl) rfl ?_
      refine o_ld one_9 rfl (mg hc1) (At.getA (ha1)) rfl ?_
      refine o_T (y_move rfl) rfl ?_
      refine o_T (y_seq rfl rfl) rfl ?_
      refine o_nil1 17 rfl rfl ?_
      refine c_cond rfl (fun h2 => ?_) (fun h2 => ?_)
      · have hm := cd_t h2 hm
        refine c_seq ?_
        refine c_region ?_
        refine o_T (y_move rfl) rfl ?_
        refine o_L (y_assign rfl) rfl rfl ?_
        refine o_nil0 rfl ?_
        refine c_ret ?_
        obtain ⟨q1, hq1, hm⟩ := bd hm
        have hm := fl_ret hm hF2
        have hm := hq1.trans hm
        obtain rfl := p1 hm
        refine fun aX wX heX hsX => ret1 Tryz.results272 heX rfl (s_take (s_take s_nil)) ?_
        exact ⟨v1, _, rfl, rfl, ho1⟩
      · have hm := cd_f h2 hm
        refine c_skip ?_
        refine c_region ?_
        refine o_T (y_move rfl) rfl ?_
        refine o_T (y_add rfl rfl rfl) rfl ?_
        refine o_L (y_assign rfl) rfl rfl ?_
        refine o_nil0 rfl ?_
        exact ⟨mm1, Nat.lt_succ_self _, _, _, ⟨_, rfl, rfl, hm⟩, ⟨rfl, trivial⟩, ⟨rfl, rfl⟩, _, (s_take (s_take s_nil))⟩
    · have hm := cd_f h1 hm
      refine c_exit ?_
      have hm := fl_nx hm hF2
      exact ⟨_, _, ⟨_, rfl, rfl, hm⟩, ⟨rfl, trivial⟩, ⟨rfl, rfl⟩, _, (s_take (s_take s_nil))⟩
  · rintro sh G ⟨c2, rfl, rfl, hm⟩
    subst hF1
    refine c_seq ?_
    refine c_region ?_
    refine o_T (y_move rfl) rfl ?_
    refine o_T (y_move rfl) rfl ?_
    refine o_bs1 sz_185 rfl rfl rfl rfl rfl rfl (fun b2 => ?_)
    obtain ⟨l1, hx2, hm⟩ := bd hm
    refine o_appR (R := rStr) (a := s_) sz_185 rfl rfl rfl rfl ho1 rfl hx2 (Sel.e (s_get (ks k0) (s_take s_nil))) rfl (fun v2 g2 ho3 => ?_)
    refine o_L (y_assign rfl) rfl rfl ?_
    refine o_nil0 rfl ?_
    refine c_ret ?_
    obtain rfl := p1 hm
    refine fun aX wX heX hsX => ret1 Tryz.results272 heX rfl (s_take (s_take s_nil)) ?_
    exact ⟨v2, _, rfl, rfl, ho3⟩
end Go.Proofs.Qxb6500350aGreat
