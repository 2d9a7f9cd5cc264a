/- MADE BY PROGRAM (tools350/mir.py): mirror and walk. -/
import Derived.Test.Qxb6500350aGreatF2
import Derived.Test.Qxb6500350aGreatT113
import Derived.Test.Qxb6500350aGreatT114
set_option linter.unusedVariables false
set_option linter.unusedSimpArgs false
set_option maxRecDepth 20000
set_option maxHeartbeats 4000000
namespace Go.Proofs.Qxb6500350aGreat
open Go.Eng

/- api.checkRow -/
def m229_w1 (n : Nat) (path : Str) (prev : (List Str)) (mm : Nat) : Int → Option (Flow (Int) (Int)) := it1 (fun lp1 c3 =>
cond (decide (c3 < (prev.length : Int))) (
Option.bind (ixL prev c3) fun x2 =>
ob1 (m114 n x2 path) fun c5 =>
cond c5 (
Option.bind (some 12) fun q1 => some (.ret q1)) (
lp1 (wi (c3 + 1)))) (
some (.nx c3))) mm
def m229 (n : Nat) (path : Str) (mode : Int) (size : Int) (prev : (List Str)) : Option (Int) :=
ob1 (m113 n path) fun c1 =>
cond (!c1) (
some 9) (
cond ((decide (mode < 0)) || (decide ((3 : Int) < mode))) (
some 10) (
cond (decide ((180 : Int) < size)) (
some 4) (
ob1 (cond (decide ((0 : Int) < (prev.length : Int))) (Option.bind (ixL prev (wi ((prev.length : Int) - 1))) fun x1 =>
some ((!(sLt x1 path)))) (some (false))) fun c2 =>
cond c2 (
some 11) (
flow (m229_w1 n path prev n 0) some (un1 fun c4 =>
some 0)))))
theorem t229 {n : Nat} {C : List Chunk} {rc1 : Int} {path : Str} {mode : Int} {size : Int} {v1 : Value} {prev : (List Str)} (hr1 : Rd rStr C v1 prev)  (hm : m229 n path mode size prev = some rc1) : Trip Tryz.prog 229 #[.string ⟨(path : Str).toArray⟩, .int .i64 mode, .int .i64 size, v1] ([] ++ [C]) (fun u S' => .int .i64 rc1 = u ∧ S' = [] ++ [C]) := by
  refine fn_entry (args := [.string ⟨(path : Str).toArray⟩, .int .i64 mode, .int .i64 size, v1]) Tryz.func229 rfl Tryz.ntmps229 rfl (fun w0 => ?_)
  refine c_seq ?_
  refine c_region ?_
  refine o_L (y_assign rfl) rfl rfl ?_
  refine o_nil0 rfl ?_
  refine c_seq ?_
  refine c_seq ?_
  refine c_region ?_
  refine o_T (y_move rfl) rfl ?_
  obtain ⟨c1, hx1, hm⟩ := bd1 hm
  refine o_callC en_113 rfl s_nil (t113 hx1) rfl (fun u1 S1 hR1 => ?_)
  obtain ⟨rfl, rfl⟩ := hR1
  refine o_rest ?_
  refine o_T (y_not rfl) rfl ?_
  refine o_nil1 12 rfl rfl ?_
  refine c_cond rfl (fun h1 => ?_) (fun h1 => ?_)
  · have hm := cd_t h1 hm
    refine c_seq ?_
    refine c_region ?_
    refine o_L (y_assign rfl) rfl rfl ?_
    refine o_nil0 rfl ?_
    refine c_ret ?_
    obtain rfl := p1 hm
    refine fun aX wX heX hsX => ret1 Tryz.results229 heX rfl (s_take s_nil) ?_
    exact ⟨rfl, rfl⟩
  · have hm := cd_f h1 hm
    refine c_skip ?_
    refine c_seq ?_
    refine c_seq ?_
    refine c_joinP (n := 0) (fun sh G => sh = [(18, .bool ((decide (mode < 0)) || (decide ((3 : Int) < mode))))] ∧ G = []) Sel.all' .z (fun _ _ h => h) ?_ ?_
    · skip
      refine c_region ?_
      refine o_T (y_move rfl) rfl ?_
      refine o_T (y_lss rfl rfl) rfl ?_
      refine o_T (y_move rfl) rfl ?_
      refine o_split 15 rfl (fun h2 => ?_) (fun h2 => ?_)
      · skip
        refine o_pass rfl rfl rfl rfl rfl ?_
        refine o_pass rfl rfl rfl rfl rfl ?_
        refine o_T (y_pickT rfl rfl) rfl ?_
        refine o_nil1 18 rfl rfl ?_
        refine ⟨_, _, ⟨rfl, rfl⟩, ⟨by first | rfl | exact gtb rfl (by simp only [h2, Bool.true_and, Bool.false_and, Bool.true_or, Bool.false_or, Bool.and_true, Bool.and_false, Bool.or_true, Bool.or_false, Bool.not_true, Bool.not_false]), trivial⟩, ⟨rfl, rfl⟩, _, (s_take s_nil)⟩
      · skip
        refine o_take rfl rfl rfl ?_
        refine o_T (y_move rfl) rfl ?_
        refine o_take rfl rfl rfl ?_
        refine o_T (y_gtr rfl rfl) rfl ?_
        refine o_T (y_pickF rfl rfl) rfl ?_
        refine o_nil1 18 rfl rfl ?_
        refine ⟨_, _, ⟨rfl, rfl⟩, ⟨by first | rfl | exact gtb rfl (by simp only [h2, Bool.true_and, Bool.false_and, Bool.true_or, Bool.false_or, Bool.and_true, Bool.and_false, Bool.or_true, Bool.or_false, Bool.not_true, Bool.not_false]), trivial⟩, ⟨rfl, rfl⟩, _, (s_take s_nil)⟩
    · rintro sh G ⟨rfl, rfl⟩
      refine c_cond rfl (fun h3 => ?_) (fun h3 => ?_)
      · have hm := cd_t h3 hm
        refine c_seq ?_
        refine c_region ?_
        refine o_L (y_assign rfl) rfl rfl ?_
        refine o_nil0 rfl ?_
        refine c_ret ?_
        obtain rfl := p1 hm
        refine fun aX wX heX hsX => ret1 Tryz.results229 heX rfl (s_take s_nil) ?_
        exact ⟨rfl, rfl⟩
      · have hm := cd_f h3 hm
        refine c_skip ?_
        refine c_seq ?_
        refine c_seq ?_
        refine c_region ?_
        refine o_T (y_move rfl) rfl ?_
        refine o_T (y_gtr rfl rfl) rfl ?_
        refine o_nil1 20 rfl rfl ?_
        refine c_cond rfl (fun h4 => ?_) (fun h4 => ?_)
        · have hm := cd_t h4 hm
          refine c_seq ?_
          refine c_region ?_
          refine o_L (y_assign rfl) rfl rfl ?_
          refine o_nil0 rfl ?_
          refine c_ret ?_
          obtain rfl := p1 hm
          refine fun aX wX heX hsX => ret1 Tryz.results229 heX rfl (s_take s_nil) ?_
          exact ⟨rfl, rfl⟩
        · have hm := cd_f h4 hm
          refine c_skip ?_
          refine c_seq ?_
          refine c_seq ?_
          obtain ⟨c2, hj1, hm⟩ := bd1 hm
          refine c_joinP (n := 0) (fun sh G => sh = [(34, .bool c2)] ∧ G = []) Sel.all' .z (fun _ _ h => h) ?_ ?_
          · have hm := hj1
            refine c_region ?_
            refine o_T (y_move rfl) rfl ?_
            refine o_T (y_lenR hr1 Tryz.underlying185 rfl) rfl ?_
            refine o_T (y_gtr rfl rfl) rfl ?_
            refine o_T (y_move rfl) rfl ?_
            refine o_split 24 rfl (fun h5 => ?_) (fun h5 => ?_)
            · have hm := cd_t h5 hm
              refine o_take rfl rfl rfl ?_
              refine o_T (y_move rfl) rfl ?_
              refine o_take rfl rfl rfl ?_
              refine o_T (y_move rfl) rfl ?_
              refine o_take rfl rfl rfl ?_
              refine o_T (y_lenR hr1 Tryz.underlying185 rfl) rfl ?_
              refine o_take rfl rfl rfl ?_
              refine o_T (y_sub rfl rfl rfl) rfl ?_
              refine o_take rfl rfl rfl ?_
              obtain ⟨x1, hx2, hm⟩ := bd hm
              obtain ⟨b1, w1, cs1, y1, z1, vs1, hc1, ha1, hr2, hy1⟩ := hr1.ix hx2
              obtain rfl : vs1 = (encS x1) := hr2
              refine o_T (hy1 sl_185 rfl rfl rfl) rfl ?_
              refine o_take rfl rfl rfl ?_
              refine o_ld one_9 rfl (mg hc1) (At.getA (ha1)) rfl ?_
              refine o_take rfl rfl rfl ?_
              refine o_T (y_move rfl) rfl ?_
              refine o_take rfl rfl rfl ?_
              refine o_T (y_slt rfl rfl) rfl ?_
              refine o_take rfl rfl rfl ?_
              refine o_T (y_not rfl) rfl ?_
              refine o_T (y_pickT rfl rfl) rfl ?_
              refine o_nil1 34 rfl rfl ?_
              obtain rfl := p1 hm
              exact ⟨_, _, ⟨rfl, rfl⟩, ⟨rfl, trivial⟩, ⟨rfl, rfl⟩, _, (s_take s_nil)⟩
            · have hm := cd_f h5 hm
              refine o_pass rfl rfl rfl rfl rfl ?_
              refine o_pass rfl rfl rfl rfl rfl ?_
              refine o_pass rfl rfl rfl rfl rfl ?_
              refine o_pass rfl rfl rfl rfl rfl ?_
              refine o_pass rfl rfl rfl rfl rfl ?_
              refine o_pass rfl rfl rfl rfl rfl ?_
              refine o_pass rfl rfl rfl rfl rfl ?_
              refine o_pass rfl rfl rfl rfl rfl ?_
              refine o_pass rfl rfl rfl rfl rfl ?_
              refine o_T (y_pickF rfl rfl) rfl ?_
              refine o_nil1 34 rfl rfl ?_
              obtain rfl := p1 hm
              exact ⟨_, _, ⟨rfl, rfl⟩, ⟨rfl, trivial⟩, ⟨rfl, rfl⟩, _, (s_take s_nil)⟩
          · rintro sh G ⟨rfl, rfl⟩
            refine c_cond rfl (fun h6 => ?_) (fun h6 => ?_)
            · have hm := cd_t h6 hm
              refine c_seq ?_
              refine c_region ?_
              refine o_L (y_assign rfl) rfl rfl ?_
              refine o_nil0 rfl ?_
              refine c_ret ?_
              obtain rfl := p1 hm
              refine fun aX wX heX hsX => ret1 Tryz.results229 heX rfl (s_take s_nil) ?_
              exact ⟨rfl, rfl⟩
            · have hm := cd_f h6 hm
              refine c_skip ?_
              refine c_seq ?_
              refine c_seq ?_
              refine c_region ?_
              refine o_L (y_assign rfl) rfl rfl ?_
              refine o_nil0 rfl ?_
              obtain ⟨f1, F1, hF1, hj2, hF2⟩ := fl2 hm
              refine c_joinP (n := 0) (fun sh G => ∃ (c4 : Int), sh = [(9, .int .i64 c4)] ∧ G = [] ∧ F1 c4 = some rc1) (s_take s_nil) .z (fun _ _ h => h) ?_ ?_
              · skip
                refine c_block ?_
                refine c_loopP (n := 0) (fun mm sh G => ∃ (c3 : Int), sh = [(9, .int .i64 c3)] ∧ G = [] ∧ m229_w1 n path prev mm c3 = some f1) n (s_take s_nil) .z ⟨_, _, ⟨_, rfl, rfl, hj2⟩, ⟨rfl, trivial⟩, _, (s_take s_nil)⟩ ?_
                rintro mm sh G ⟨c3, rfl, rfl, hm⟩
                obtain ⟨mm1, rfl, hm⟩ := it1_s hm
                refine c_seq ?_
                refine c_seq ?_
                refine c_region ?_
                refine o_T (y_move rfl) rfl ?_
                refine o_T (y_move rfl) rfl ?_
                refine o_T (y_lenR hr1 Tryz.underlying185 rfl) rfl ?_
                refine o_T (y_lss rfl rfl) rfl ?_
                refine o_nil1 38 rfl rfl ?_
                refine c_cond rfl (fun h7 => ?_) (fun h7 => ?_)
                · have hm := cd_t h7 hm
                  refine c_skip ?_
                  refine c_seq ?_
                  refine c_block ?_
                  refine c_seq ?_
                  refine c_region ?_
                  refine o_T (y_move rfl) rfl ?_
                  refine o_T (y_move rfl) rfl ?_
                  obtain ⟨x2, hx3, hm⟩ := bd hm
                  obtain ⟨b2, w2, cs2, y2, z2, vs2, hc2, ha2, hr3, hy2⟩ := hr1.ix hx3
                  obtain rfl : vs2 = (encS x2) := hr3
                  refine o_T (hy2 sl_185 rfl rfl rfl) rfl ?_
                  refine o_ld one_9 rfl (mg hc2) (At.getA (ha2)) rfl ?_
                  refine o_T (y_move rfl) rfl ?_
                  obtain ⟨c5, hx4, hm⟩ := bd1 hm
                  refine o_callC en_114 rfl s_nil (t114 hx4) rfl (fun u2 S2 hR2 => ?_)
                  obtain ⟨rfl, rfl⟩ := hR2
                  refine o_rest ?_
                  refine o_nil1 46 rfl rfl ?_
                  refine c_cond rfl (fun h8 => ?_) (fun h8 => ?_)
                  · have hm := cd_t h8 hm
                    refine c_seq ?_
                    refine c_region ?_
                    refine o_L (y_assign rfl) rfl rfl ?_
                    refine o_nil0 rfl ?_
                    refine c_ret ?_
                    obtain ⟨q1, hq1, hm⟩ := bd hm
                    have hm := fl_ret hm hF2
                    have hm := hq1.trans hm
                    obtain rfl := p1 hm
                    refine fun aX wX heX hsX => ret1 Tryz.results229 heX rfl (s_take s_nil) ?_
                    exact ⟨rfl, rfl⟩
                  · have hm := cd_f h8 hm
                    refine c_skip ?_
                    refine c_region ?_
                    refine o_T (y_move rfl) rfl ?_
                    refine o_T (y_add rfl rfl rfl) rfl ?_
                    refine o_L (y_assign rfl) rfl rfl ?_
                    refine o_nil0 rfl ?_
                    exact ⟨mm1, Nat.lt_succ_self _, _, _, ⟨_, rfl, rfl, hm⟩, ⟨rfl, trivial⟩, ⟨rfl, rfl⟩, _, (s_take s_nil)⟩
                · have hm := cd_f h7 hm
                  refine c_exit ?_
                  have hm := fl_nx hm hF2
                  exact ⟨_, _, ⟨_, rfl, rfl, hm⟩, ⟨rfl, trivial⟩, ⟨rfl, rfl⟩, _, (s_take s_nil)⟩
              · rintro sh G ⟨c4, rfl, rfl, hm⟩
                subst hF1
                refine c_seq ?_
                refine c_region ?_
                refine o_L (y_assign rfl) rfl rfl ?_
                refine o_nil0 rfl ?_
                refine c_ret ?_
                obtain rfl := p1 hm
                refine fun aX wX heX hsX => ret1 Tryz.results229 heX rfl (s_take s_nil) ?_
                exact ⟨rfl, rfl⟩
end Go.Proofs.Qxb6500350aGreat
