/- MADE BY PROGRAM (tools350/mir.py): mirror and walk. -/
import Derived.Test.Qxb6500350aGreatF2
set_option linter.unusedVariables false
set_option linter.unusedSimpArgs false
set_option maxRecDepth 20000
set_option maxHeartbeats 4000000
namespace Go.Proofs.Qxb6500350aGreat
open Go.Eng

/- api.GoodPath -/
def m113_w1 (n : Nat) (p : Str) (mm : Nat) : Int → Int → Option (Flow (Bool) (Int × Int)) := it2 (fun lp1 c1 c2 =>
cond (decide (c2 ≤ (p.length : Int))) (
ob1 (cond (decide (c2 = (p.length : Int))) (some (true)) (Option.bind (sIx p c2) fun c6 =>
some ((decide ((c6.toNat : Int) = 47))))) fun c5 =>
cond c5 (
Option.bind (sSl p c1 c2) fun s1 =>
cond (((decide (s1 = [])) || (decide (s1 = [46]))) || (decide (s1 = [46, 46]))) (
Option.bind (some false) fun q1 => some (.ret q1)) (
lp1 (wi (c2 + 1)) (wi (c2 + 1)))) (
ob1 (Option.bind (sIx p c2) fun c8 =>
cond (decide ((c8.toNat : Int) ≤ 32)) (some (true)) (Option.bind (sIx p c2) fun c9 =>
some ((decide ((127 : Int) ≤ (c9.toNat : Int)))))) fun c7 =>
cond c7 (
Option.bind (some false) fun q2 => some (.ret q2)) (
lp1 c1 (wi (c2 + 1))))) (
some (.nx (c1, c2)))) mm
def m113 (n : Nat) (p : Str) : Option (Bool) :=
cond ((decide ((p.length : Int) < 1)) || (decide ((12 : Int) < (p.length : Int)))) (
some false) (
flow (m113_w1 n p n 0 0) some (un2 fun c3 c4 =>
some true))
theorem t113 {n : Nat} {C : List Chunk} {rc1 : Bool} {p : Str}   (hm : m113 n p = some rc1) : Trip Tryz.prog 113 #[.string ⟨(p : Str).toArray⟩] ([] ++ [C]) (fun u S' => .bool rc1 = u ∧ S' = [] ++ [C]) := by
  refine fn_entry (args := [.string ⟨(p : Str).toArray⟩]) Tryz.func113 rfl Tryz.ntmps113 rfl (fun w0 => ?_)
  refine c_seq ?_
  refine c_region ?_
  refine o_L (y_assign rfl) rfl rfl ?_
  refine o_nil0 rfl ?_
  refine c_seq ?_
  refine c_seq ?_
  refine c_joinP (n := 0) (fun sh G => sh = [(13, .bool ((decide ((p.length : Int) < 1)) || (decide ((12 : Int) < (p.length : Int)))))] ∧ G = []) Sel.all' .z (fun _ _ h => h) ?_ ?_
  · skip
    refine c_region ?_
    refine o_T (y_move rfl) rfl ?_
    refine o_T (y_slen Tryz.underlying9 rfl) rfl ?_
    refine o_T (y_lss rfl rfl) rfl ?_
    refine o_T (y_move rfl) rfl ?_
    refine o_split 9 rfl (fun h1 => ?_) (fun h1 => ?_)
    · skip
      refine o_pass rfl rfl rfl rfl rfl ?_
      refine o_pass rfl rfl rfl rfl rfl ?_
      refine o_pass rfl rfl rfl rfl rfl ?_
      refine o_T (y_pickT rfl rfl) rfl ?_
      refine o_nil1 13 rfl rfl ?_
      refine ⟨_, _, ⟨rfl, rfl⟩, ⟨by first | rfl | exact gtb rfl (by simp only [h1, Bool.true_and, Bool.false_and, Bool.true_or, Bool.false_or, Bool.and_true, Bool.and_false, Bool.or_true, Bool.or_false, Bool.not_true, Bool.not_false]), trivial⟩, ⟨rfl, rfl⟩, _, (s_take s_nil)⟩
    · skip
      refine o_take rfl rfl rfl ?_
      refine o_T (y_move rfl) rfl ?_
      refine o_take rfl rfl rfl ?_
      refine o_T (y_slen Tryz.underlying9 rfl) rfl ?_
      refine o_take rfl rfl rfl ?_
      refine o_T (y_gtr rfl rfl) rfl ?_
      refine o_T (y_pickF rfl rfl) rfl ?_
      refine o_nil1 13 rfl rfl ?_
      refine ⟨_, _, ⟨rfl, rfl⟩, ⟨by first | rfl | exact gtb rfl (by simp only [h1, Bool.true_and, Bool.false_and, Bool.true_or, Bool.false_or, Bool.and_true, Bool.and_false, Bool.or_true, Bool.or_false, Bool.not_true, Bool.not_false]), trivial⟩, ⟨rfl, rfl⟩, _, (s_take s_nil)⟩
  · rintro sh G ⟨rfl, rfl⟩
    refine c_cond rfl (fun h2 => ?_) (fun h2 => ?_)
    · have hm := cd_t h2 hm
      refine c_seq ?_
      refine c_region ?_
      refine o_L (y_assign rfl) rfl rfl ?_
      refine o_nil0 rfl ?_
      refine c_ret ?_
      obtain rfl := p1 hm
      refine fun aX wX heX hsX => ret1 Tryz.results113 heX rfl (s_take s_nil) ?_
      exact ⟨rfl, rfl⟩
    · have hm := cd_f h2 hm
      refine c_skip ?_
      refine c_seq ?_
      refine c_region ?_
      refine o_L (y_assign rfl) rfl rfl ?_
      refine o_nil0 rfl ?_
      refine c_seq ?_
      refine c_seq ?_
      refine c_region ?_
      refine o_L (y_assign rfl) rfl rfl ?_
      refine o_nil0 rfl ?_
      obtain ⟨f1, F1, hF1, hj1, hF2⟩ := fl2 hm
      refine c_joinP (n := 0) (fun sh G => ∃ (c3 : Int), ∃ (c4 : Int), sh = [(3, .int .i64 c3), (4, .int .i64 c4)] ∧ G = [] ∧ F1 (c3, c4) = some rc1) (s_take s_nil) .z (fun _ _ h => h) ?_ ?_
      · skip
        refine c_block ?_
        refine c_loopP (n := 0) (fun mm sh G => ∃ (c1 : Int), ∃ (c2 : Int), sh = [(3, .int .i64 c1), (4, .int .i64 c2)] ∧ G = [] ∧ m113_w1 n p mm c1 c2 = some f1) n (s_take s_nil) .z ⟨_, _, ⟨_, _, rfl, rfl, hj1⟩, ⟨rfl, rfl, trivial⟩, _, (s_take s_nil)⟩ ?_
        rintro mm sh G ⟨c1, c2, rfl, rfl, hm⟩
        obtain ⟨mm1, rfl, hm⟩ := it2_s hm
        refine c_seq ?_
        refine c_seq ?_
        refine c_region ?_
        refine o_T (y_move rfl) rfl ?_
        refine o_T (y_move rfl) rfl ?_
        refine o_T (y_slen Tryz.underlying9 rfl) rfl ?_
        refine o_T (y_leq rfl rfl) rfl ?_
        refine o_nil1 17 rfl rfl ?_
        refine c_cond rfl (fun h3 => ?_) (fun h3 => ?_)
        · have hm := cd_t h3 hm
          refine c_skip ?_
          refine c_seq ?_
          refine c_block ?_
          refine c_seq ?_
          obtain ⟨c5, hj2, hm⟩ := bd1 hm
          refine c_joinP (n := 0) (fun sh G => sh = [(29, .bool c5)] ∧ G = []) Sel.all' .z (fun _ _ h => h) ?_ ?_
          · have hm := hj2
            refine c_region ?_
            refine o_T (y_move rfl) rfl ?_
            refine o_T (y_move rfl) rfl ?_
            refine o_T (y_slen Tryz.underlying9 rfl) rfl ?_
            refine o_T (y_eql rfl rfl) rfl ?_
            refine o_T (y_move rfl) rfl ?_
            refine o_split 24 rfl (fun h4 => ?_) (fun h4 => ?_)
            · have hm := cd_t h4 hm
              refine o_pass rfl rfl rfl rfl rfl ?_
              refine o_pass rfl rfl rfl rfl rfl ?_
              refine o_pass rfl rfl rfl rfl rfl ?_
              refine o_pass rfl rfl rfl rfl rfl ?_
              refine o_T (y_pickT rfl rfl) rfl ?_
              refine o_nil1 29 rfl rfl ?_
              obtain rfl := p1 hm
              exact ⟨_, _, ⟨rfl, rfl⟩, ⟨rfl, trivial⟩, ⟨rfl, rfl⟩, _, (s_take s_nil)⟩
            · have hm := cd_f h4 hm
              refine o_take rfl rfl rfl ?_
              refine o_T (y_move rfl) rfl ?_
              refine o_take rfl rfl rfl ?_
              refine o_T (y_move rfl) rfl ?_
              refine o_take rfl rfl rfl ?_
              obtain ⟨c6, hx1, hm⟩ := bd hm
              refine o_T (y_sidx Tryz.underlying9 rfl rfl hx1) rfl ?_
              refine o_take rfl rfl rfl ?_
              refine o_T (y_eql rfl rfl) rfl ?_
              refine o_T (y_pickF rfl rfl) rfl ?_
              refine o_nil1 29 rfl rfl ?_
              obtain rfl := p1 hm
              exact ⟨_, _, ⟨rfl, rfl⟩, ⟨rfl, trivial⟩, ⟨rfl, rfl⟩, _, (s_take s_nil)⟩
          · rintro sh G ⟨rfl, rfl⟩
            refine c_cond rfl (fun h5 => ?_) (fun h5 => ?_)
            · have hm := cd_t h5 hm
              refine c_seq ?_
              refine c_region ?_
              refine o_T (y_move rfl) rfl ?_
              refine o_T (y_move rfl) rfl ?_
              refine o_T (y_move rfl) rfl ?_
              obtain ⟨s1, hx2, hm⟩ := bd hm
              refine o_T (y_ssl Tryz.underlying9 rfl (biS rfl) (biS rfl) hx2) rfl ?_
              refine o_L (y_assign rfl) rfl rfl ?_
              refine o_nil0 rfl ?_
              refine c_seq ?_
              refine c_seq ?_
              refine c_joinP (n := 0) (fun sh G => sh = [(43, .bool (((decide (s1 = [])) || (decide (s1 = [46]))) || (decide (s1 = [46, 46]))))] ∧ G = []) Sel.all' .z (fun _ _ h => h) ?_ ?_
              · skip
                refine c_region ?_
                refine o_T (y_move rfl) rfl ?_
                refine o_T (y_seq rfl rfl) rfl ?_
                refine o_T (y_move rfl) rfl ?_
                refine o_split 36 rfl (fun h6 => ?_) (fun h6 => ?_)
                · skip
                  refine o_pass rfl rfl rfl rfl rfl ?_
                  refine o_pass rfl rfl rfl rfl rfl ?_
                  refine o_T (y_pickT rfl rfl) rfl ?_
                  refine o_T (y_move rfl) rfl ?_
                  refine o_pass rfl rfl rfl rfl rfl ?_
                  refine o_pass rfl rfl rfl rfl rfl ?_
                  refine o_T (y_pickT rfl rfl) rfl ?_
                  refine o_nil1 43 rfl rfl ?_
                  refine ⟨_, _, ⟨rfl, rfl⟩, ⟨by first | rfl | exact gtb rfl (by simp only [h6, Bool.true_and, Bool.false_and, Bool.true_or, Bool.false_or, Bool.and_true, Bool.and_false, Bool.or_true, Bool.or_false, Bool.not_true, Bool.not_false]), trivial⟩, ⟨rfl, rfl⟩, _, (s_take s_nil)⟩
                · skip
                  refine o_take rfl rfl rfl ?_
                  refine o_T (y_move rfl) rfl ?_
                  refine o_take rfl rfl rfl ?_
                  refine o_T (y_seq rfl rfl) rfl ?_
                  refine o_T (y_pickF rfl rfl) rfl ?_
                  refine o_T (y_move rfl) rfl ?_
                  refine o_split 40 rfl (fun h7 => ?_) (fun h7 => ?_)
                  · skip
                    refine o_pass rfl rfl rfl rfl rfl ?_
                    refine o_pass rfl rfl rfl rfl rfl ?_
                    refine o_T (y_pickT rfl rfl) rfl ?_
                    refine o_nil1 43 rfl rfl ?_
                    refine ⟨_, _, ⟨rfl, rfl⟩, ⟨by first | rfl | exact gtb rfl (by simp only [h6, h7, Bool.true_and, Bool.false_and, Bool.true_or, Bool.false_or, Bool.and_true, Bool.and_false, Bool.or_true, Bool.or_false, Bool.not_true, Bool.not_false]), trivial⟩, ⟨rfl, rfl⟩, _, (s_take s_nil)⟩
                  · skip
                    refine o_take rfl rfl rfl ?_
                    refine o_T (y_move rfl) rfl ?_
                    refine o_take rfl rfl rfl ?_
                    refine o_T (y_seq rfl rfl) rfl ?_
                    refine o_T (y_pickF rfl rfl) rfl ?_
                    refine o_nil1 43 rfl rfl ?_
                    refine ⟨_, _, ⟨rfl, rfl⟩, ⟨by first | rfl | exact gtb rfl (by simp only [h6, h7, Bool.true_and, Bool.false_and, Bool.true_or, Bool.false_or, Bool.and_true, Bool.and_false, Bool.or_true, Bool.or_false, Bool.not_true, Bool.not_false]), trivial⟩, ⟨rfl, rfl⟩, _, (s_take s_nil)⟩
              · rintro sh G ⟨rfl, rfl⟩
                refine c_cond rfl (fun h8 => ?_) (fun h8 => ?_)
                · have hm := cd_t h8 hm
                  refine c_seq ?_
                  refine c_region ?_
                  refine o_L (y_assign rfl) rfl rfl ?_
                  refine o_nil0 rfl ?_
                  refine c_ret ?_
                  obtain ⟨q1, hq1, hm⟩ := bd hm
                  have hm := fl_ret hm hF2
                  have hm := hq1.trans hm
                  obtain rfl := p1 hm
                  refine fun aX wX heX hsX => ret1 Tryz.results113 heX rfl (s_take s_nil) ?_
                  exact ⟨rfl, rfl⟩
                · have hm := cd_f h8 hm
                  refine c_skip ?_
                  refine c_region ?_
                  refine o_T (y_move rfl) rfl ?_
                  refine o_T (y_add rfl rfl rfl) rfl ?_
                  refine o_L (y_assign rfl) rfl rfl ?_
                  refine o_nil0 rfl ?_
                  refine c_region ?_
                  refine o_T (y_move rfl) rfl ?_
                  refine o_T (y_add rfl rfl rfl) rfl ?_
                  refine o_L (y_assign rfl) rfl rfl ?_
                  refine o_nil0 rfl ?_
                  exact ⟨mm1, Nat.lt_succ_self _, _, _, ⟨_, _, rfl, rfl, hm⟩, ⟨rfl, rfl, trivial⟩, ⟨rfl, rfl⟩, _, (s_take s_nil)⟩
            · have hm := cd_f h5 hm
              refine c_seq ?_
              obtain ⟨c7, hj3, hm⟩ := bd1 hm
              refine c_joinP (n := 0) (fun sh G => sh = [(55, .bool c7)] ∧ G = []) Sel.all' .z (fun _ _ h => h) ?_ ?_
              · have hm := hj3
                refine c_region ?_
                refine o_T (y_move rfl) rfl ?_
                refine o_T (y_move rfl) rfl ?_
                obtain ⟨c8, hx3, hm⟩ := bd hm
                refine o_T (y_sidx Tryz.underlying9 rfl rfl hx3) rfl ?_
                refine o_T (y_leq rfl rfl) rfl ?_
                refine o_T (y_move rfl) rfl ?_
                refine o_split 50 rfl (fun h9 => ?_) (fun h9 => ?_)
                · have hm := cd_t h9 hm
                  refine o_pass rfl rfl rfl rfl rfl ?_
                  refine o_pass rfl rfl rfl rfl rfl ?_
                  refine o_pass rfl rfl rfl rfl rfl ?_
                  refine o_pass rfl rfl rfl rfl rfl ?_
                  refine o_T (y_pickT rfl rfl) rfl ?_
                  refine o_nil1 55 rfl rfl ?_
                  obtain rfl := p1 hm
                  exact ⟨_, _, ⟨rfl, rfl⟩, ⟨rfl, trivial⟩, ⟨rfl, rfl⟩, _, (s_take s_nil)⟩
                · have hm := cd_f h9 hm
                  refine o_take rfl rfl rfl ?_
                  refine o_T (y_move rfl) rfl ?_
                  refine o_take rfl rfl rfl ?_
                  refine o_T (y_move rfl) rfl ?_
                  refine o_take rfl rfl rfl ?_
                  obtain ⟨c9, hx4, hm⟩ := bd hm
                  refine o_T (y_sidx Tryz.underlying9 rfl rfl hx4) rfl ?_
                  refine o_take rfl rfl rfl ?_
                  refine o_T (y_geq rfl rfl) rfl ?_
                  refine o_T (y_pickF rfl rfl) rfl ?_
                  refine o_nil1 55 rfl rfl ?_
                  obtain rfl := p1 hm
                  exact ⟨_, _, ⟨rfl, rfl⟩, ⟨rfl, trivial⟩, ⟨rfl, rfl⟩, _, (s_take s_nil)⟩
              · rintro sh G ⟨rfl, rfl⟩
                refine c_cond rfl (fun h10 => ?_) (fun h10 => ?_)
                · have hm := cd_t h10 hm
                  refine c_seq ?_
                  refine c_region ?_
                  refine o_L (y_assign rfl) rfl rfl ?_
                  refine o_nil0 rfl ?_
                  refine c_ret ?_
                  obtain ⟨q2, hq2, hm⟩ := bd hm
                  have hm := fl_ret hm hF2
                  have hm := hq2.trans hm
                  obtain rfl := p1 hm
                  refine fun aX wX heX hsX => ret1 Tryz.results113 heX rfl (s_take s_nil) ?_
                  exact ⟨rfl, rfl⟩
                · have hm := cd_f h10 hm
                  refine c_skip ?_
                  refine c_region ?_
                  refine o_T (y_move rfl) rfl ?_
                  refine o_T (y_add rfl rfl rfl) rfl ?_
                  refine o_L (y_assign rfl) rfl rfl ?_
                  refine o_nil0 rfl ?_
                  exact ⟨mm1, Nat.lt_succ_self _, _, _, ⟨_, _, rfl, rfl, hm⟩, ⟨rfl, rfl, trivial⟩, ⟨rfl, rfl⟩, _, (s_take s_nil)⟩
        · have hm := cd_f h3 hm
          refine c_exit ?_
          have hm := fl_nx hm hF2
          exact ⟨_, _, ⟨_, _, rfl, rfl, hm⟩, ⟨rfl, rfl, trivial⟩, ⟨rfl, rfl⟩, _, (s_take s_nil)⟩
      · rintro sh G ⟨c3, c4, rfl, rfl, hm⟩
        subst hF1
        refine c_seq ?_
        refine c_region ?_
        refine o_L (y_assign rfl) rfl rfl ?_
        refine o_nil0 rfl ?_
        refine c_ret ?_
        obtain rfl := p1 hm
        refine fun aX wX heX hsX => ret1 Tryz.results113 heX rfl (s_take s_nil) ?_
        exact ⟨rfl, rfl⟩
end Go.Proofs.Qxb6500350aGreat
