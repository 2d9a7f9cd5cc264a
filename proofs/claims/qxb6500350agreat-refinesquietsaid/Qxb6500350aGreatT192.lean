/- MADE BY PROGRAM (tools350/mir.py): mirror and walk. -/
import Derived.Test.Qxb6500350aGreatF2
import Derived.Test.Qxb6500350aGreatT190
import Derived.Test.Qxb6500350aGreatT244
set_option linter.unusedVariables false
set_option linter.unusedSimpArgs false
set_option maxRecDepth 20000
set_option maxHeartbeats 4000000
namespace Go.Proofs.Qxb6500350aGreat
open Go.Eng

/- (*objects.Store).soundBuckets -/
def m192_w2 (n : Nat) (s : Store) (c2 : Int) (mm : Nat) : Int → Int → Int → Option (Flow (Flow (Bool) (Int × Int)) (Int × Int × Int)) := it3 (fun lp2 c5 c6 c7 =>
cond (decide (¬ (c6 = 0))) (
cond (((decide ((48 : Int) ≤ c7)) || (decide (c6 < 1))) || (decide ((48 : Int) < c6))) (
Option.bind (Option.bind (some false) fun q3 => some (.ret q3)) fun q2 => some (.ret q2)) (
ob1 (m190 n s c6) fun c11 =>
cond (!c11) (
Option.bind (Option.bind (some false) fun q5 => some (.ret q5)) fun q4 => some (.ret q4)) (
Option.bind (ckA c6 49) fun _ =>
ob1 (m244 n ((s.tab c6).hash)) fun c12 =>
cond (decide (¬ (c12 = c2))) (
Option.bind (Option.bind (some false) fun q7 => some (.ret q7)) fun q6 => some (.ret q6)) (
Option.bind (ckA c6 49) fun _ =>
lp2 (wi (c5 + 1)) ((s.tab c6).nxt) (wi (c7 + 1)))))) (
some (.nx (c5, c6, c7)))) mm
def m192_w1 (n : Nat) (s : Store) (mm : Nat) : Int → Int → Option (Flow (Bool) (Int × Int)) := it2 (fun lp1 c1 c2 =>
cond (decide (c2 < 8)) (
Option.bind (ckA c2 8) fun _ =>
flow (m192_w2 n s c2 n c1 (s.heads c2) 0) some (un3 fun c8 c9 c10 =>
lp1 c8 (wi (c2 + 1)))) (
some (.nx (c1, c2)))) mm
def m192 (n : Nat) (s : Store) (nlive : Int) : Option (Bool) :=
flow (m192_w1 n s n 0 0) some (un2 fun c3 c4 =>
some (decide (c3 = nlive)))
theorem t192 {n : Nat} {C : List Chunk} {rc1 : Bool} {b1 : Nat} {s : Store} {q1 : Option Addr} {nlive : Int}   (hm : m192 n s nlive = some rc1) : Trip Tryz.prog 192 #[.pointer (some ⟨b1, 0, none⟩), .int .i64 nlive] ([[(b1, .cells (Store.enc ((.pointer q1)) s).toArray 126 (0, 0))]] ++ [C]) (fun u S' => .bool rc1 = u ∧ S' = [[(b1, .cells (Store.enc ((.pointer q1)) s).toArray 126 (0, 0))]] ++ [C]) := by
  refine fn_entry (args := [.pointer (some ⟨b1, 0, none⟩), .int .i64 nlive]) Tryz.func192 rfl Tryz.ntmps192 rfl (fun w0 => ?_)
  refine c_seq ?_
  refine c_region ?_
  refine o_L (y_assign rfl) rfl rfl ?_
  refine o_nil0 rfl ?_
  refine c_seq ?_
  refine c_region ?_
  refine o_L (y_assign rfl) rfl rfl ?_
  refine o_nil0 rfl ?_
  refine c_seq ?_
  refine c_seq ?_
  refine c_region ?_
  refine o_L (y_assign rfl) rfl rfl ?_
  refine o_nil0 rfl ?_
  obtain ⟨f1, F1, hF1, hj1, hF2⟩ := fl2 hm
  refine c_joinP (n := 0) (fun sh G => ∃ (c3 : Int), ∃ (c4 : Int), sh = [(5, .int .i64 c3), (6, .int .i64 c4)] ∧ G = [] ∧ F1 (c3, c4) = some rc1) (s_take (s_take s_nil)) .z (fun _ _ h => h) ?_ ?_
  · skip
    refine c_block ?_
    refine c_loopP (n := 0) (fun mm sh G => ∃ (c1 : Int), ∃ (c2 : Int), sh = [(5, .int .i64 c1), (6, .int .i64 c2)] ∧ G = [] ∧ m192_w1 n s mm c1 c2 = some f1) n (s_take (s_take s_nil)) .z ⟨_, _, ⟨_, _, rfl, rfl, hj1⟩, ⟨rfl, rfl, trivial⟩, _, (s_take (s_take s_nil))⟩ ?_
    rintro mm sh G ⟨c1, c2, rfl, rfl, hm⟩
    obtain ⟨mm1, rfl, hm⟩ := it2_s hm
    refine c_seq ?_
    refine c_seq ?_
    refine c_region ?_
    refine o_T (y_move rfl) rfl ?_
    refine o_T (y_lss rfl rfl) rfl ?_
    refine o_nil1 10 rfl rfl ?_
    refine c_cond rfl (fun h1 => ?_) (fun h1 => ?_)
    · have hm := cd_t h1 hm
      refine c_skip ?_
      refine c_seq ?_
      refine c_block ?_
      refine c_seq ?_
      refine c_region ?_
      refine o_T (y_move rfl) rfl ?_
      refine o_T (y_move rfl) rfl ?_
      refine o_T (y_nilck rfl) rfl ?_
      refine o_T (y_fa fl_126_2 rfl) rfl ?_
      obtain ⟨_, hx1, hm⟩ := bd hm
      have hx1 := ckA_some hx1
      refine o_T (y_ia ar_122 rfl rfl hx1.1 hx1.2) rfl ?_
      refine o_ld one_3 rfl m0 (At.got ((At.refl.comp Store.a_heads).comp (encN_a encI_len _ _ hx1.1 _ hx1.2))) rfl ?_
      refine o_L (y_assign rfl) rfl rfl ?_
      refine o_nil0 rfl ?_
      refine c_seq ?_
      refine c_region ?_
      refine o_L (y_assign rfl) rfl rfl ?_
      refine o_nil0 rfl ?_
      obtain ⟨f2, F2, hF3, hj2, hF4⟩ := fl2 hm
      refine c_joinP (n := 0) (fun sh G => ∃ (c8 : Int), ∃ (c9 : Int), ∃ (c10 : Int), sh = [(5, .int .i64 c8), (7, .int .i64 c9), (8, .int .i64 c10)] ∧ G = [] ∧ F2 (c8, c9, c10) = some f1) (s_take (s_take s_nil)) .z (fun _ _ h => h) ?_ ?_
      · skip
        refine c_block ?_
        refine c_loopP (n := 0) (fun mm sh G => ∃ (c5 : Int), ∃ (c6 : Int), ∃ (c7 : Int), sh = [(5, .int .i64 c5), (7, .int .i64 c6), (8, .int .i64 c7)] ∧ G = [] ∧ m192_w2 n s c2 mm c5 c6 c7 = some f2) n (s_take (s_take s_nil)) .z ⟨_, _, ⟨_, _, _, rfl, rfl, hj2⟩, ⟨rfl, rfl, rfl, trivial⟩, _, (s_take (s_take s_nil))⟩ ?_
        rintro mm sh G ⟨c5, c6, c7, rfl, rfl, hm⟩
        obtain ⟨mm2, rfl, hm⟩ := it3_s hm
        refine c_seq ?_
        refine c_seq ?_
        refine c_region ?_
        refine o_T (y_move rfl) rfl ?_
        refine o_T (y_neq rfl rfl) rfl ?_
        refine o_nil1 20 rfl rfl ?_
        refine c_cond rfl (fun h2 => ?_) (fun h2 => ?_)
        · have hm := cd_t h2 hm
          refine c_skip ?_
          refine c_seq ?_
          refine c_block ?_
          refine c_seq ?_
          refine c_seq ?_
          refine c_joinP (n := 0) (fun sh G => sh = [(32, .bool (((decide ((48 : Int) ≤ c7)) || (decide (c6 < 1))) || (decide ((48 : Int) < c6))))] ∧ G = []) Sel.all' .z (fun _ _ h => h) ?_ ?_
          · skip
            refine c_region ?_
            refine o_T (y_move rfl) rfl ?_
            refine o_T (y_geq rfl rfl) rfl ?_
            refine o_T (y_move rfl) rfl ?_
            refine o_split 25 rfl (fun h3 => ?_) (fun h3 => ?_)
            · skip
              refine o_pass rfl rfl rfl rfl rfl ?_
              refine o_pass rfl rfl rfl rfl rfl ?_
              refine o_T (y_pickT rfl rfl) rfl ?_
              refine o_T (y_move rfl) rfl ?_
              refine o_pass rfl rfl rfl rfl rfl ?_
              refine o_pass rfl rfl rfl rfl rfl ?_
              refine o_T (y_pickT rfl rfl) rfl ?_
              refine o_nil1 32 rfl rfl ?_
              refine ⟨_, _, ⟨rfl, rfl⟩, ⟨by first | rfl | exact gtb rfl (by simp only [h3, Bool.true_and, Bool.false_and, Bool.true_or, Bool.false_or, Bool.and_true, Bool.and_false, Bool.or_true, Bool.or_false, Bool.not_true, Bool.not_false]), trivial⟩, ⟨rfl, rfl⟩, _, (s_take (s_take s_nil))⟩
            · skip
              refine o_take rfl rfl rfl ?_
              refine o_T (y_move rfl) rfl ?_
              refine o_take rfl rfl rfl ?_
              refine o_T (y_lss rfl rfl) rfl ?_
              refine o_T (y_pickF rfl rfl) rfl ?_
              refine o_T (y_move rfl) rfl ?_
              refine o_split 29 rfl (fun h4 => ?_) (fun h4 => ?_)
              · skip
                refine o_pass rfl rfl rfl rfl rfl ?_
                refine o_pass rfl rfl rfl rfl rfl ?_
                refine o_T (y_pickT rfl rfl) rfl ?_
                refine o_nil1 32 rfl rfl ?_
                refine ⟨_, _, ⟨rfl, rfl⟩, ⟨by first | rfl | exact gtb rfl (by simp only [h3, h4, Bool.true_and, Bool.false_and, Bool.true_or, Bool.false_or, Bool.and_true, Bool.and_false, Bool.or_true, Bool.or_false, Bool.not_true, Bool.not_false]), trivial⟩, ⟨rfl, rfl⟩, _, (s_take (s_take s_nil))⟩
              · skip
                refine o_take rfl rfl rfl ?_
                refine o_T (y_move rfl) rfl ?_
                refine o_take rfl rfl rfl ?_
                refine o_T (y_gtr rfl rfl) rfl ?_
                refine o_T (y_pickF rfl rfl) rfl ?_
                refine o_nil1 32 rfl rfl ?_
                refine ⟨_, _, ⟨rfl, rfl⟩, ⟨by first | rfl | exact gtb rfl (by simp only [h3, h4, Bool.true_and, Bool.false_and, Bool.true_or, Bool.false_or, Bool.and_true, Bool.and_false, Bool.or_true, Bool.or_false, Bool.not_true, Bool.not_false]), trivial⟩, ⟨rfl, rfl⟩, _, (s_take (s_take s_nil))⟩
          · rintro sh G ⟨rfl, rfl⟩
            refine c_cond rfl (fun h5 => ?_) (fun h5 => ?_)
            · have hm := cd_t h5 hm
              refine c_seq ?_
              refine c_region ?_
              refine o_L (y_assign rfl) rfl rfl ?_
              refine o_nil0 rfl ?_
              refine c_ret ?_
              obtain ⟨q2, hq1, hm⟩ := bd hm
              have hm := fl_ret hm hF4
              have hm := hq1.trans hm
              obtain ⟨q3, hq2, hm⟩ := bd hm
              have hm := fl_ret hm hF2
              have hm := hq2.trans hm
              obtain rfl := p1 hm
              refine fun aX wX heX hsX => ret1 Tryz.results192 heX rfl (s_take (s_take s_nil)) ?_
              exact ⟨rfl, rfl⟩
            · have hm := cd_f h5 hm
              refine c_skip ?_
              refine c_seq ?_
              refine c_seq ?_
              refine c_region ?_
              refine o_T (y_move rfl) rfl ?_
              refine o_T (y_move rfl) rfl ?_
              obtain ⟨c11, hx2, hm⟩ := bd1 hm
              refine o_callC en_190 rfl (s_take s_nil) (t190 hx2) rfl (fun u1 S1 hR1 => ?_)
              obtain ⟨rfl, rfl⟩ := hR1
              refine o_rest ?_
              refine o_T (y_not rfl) rfl ?_
              refine o_nil1 36 rfl rfl ?_
              refine c_cond rfl (fun h6 => ?_) (fun h6 => ?_)
              · have hm := cd_t h6 hm
                refine c_seq ?_
                refine c_region ?_
                refine o_L (y_assign rfl) rfl rfl ?_
                refine o_nil0 rfl ?_
                refine c_ret ?_
                obtain ⟨q4, hq3, hm⟩ := bd hm
                have hm := fl_ret hm hF4
                have hm := hq3.trans hm
                obtain ⟨q5, hq4, hm⟩ := bd hm
                have hm := fl_ret hm hF2
                have hm := hq4.trans hm
                obtain rfl := p1 hm
                refine fun aX wX heX hsX => ret1 Tryz.results192 heX rfl (s_take (s_take s_nil)) ?_
                exact ⟨rfl, rfl⟩
              · have hm := cd_f h6 hm
                refine c_skip ?_
                refine c_seq ?_
                refine c_seq ?_
                refine c_region ?_
                refine o_T (y_move rfl) rfl ?_
                refine o_T (y_move rfl) rfl ?_
                refine o_T (y_nilck rfl) rfl ?_
                refine o_T (y_fa fl_126_1 rfl) rfl ?_
                obtain ⟨_, hx3, hm⟩ := bd hm
                have hx3 := ckA_some hx3
                refine o_T (y_ia ar_121 rfl rfl hx3.1 hx3.2) rfl ?_
                refine o_T (y_fa fl_120_4 rfl) rfl ?_
                refine o_ld one_118 rfl m0 (At.got (((At.refl.comp Store.a_tab).comp (encN_a Entr.len _ _ hx3.1 _ hx3.2)).comp Entr.a_hash)) rfl ?_
                obtain ⟨c12, hx4, hm⟩ := bd1 hm
                refine o_callC en_244 rfl s_nil (t244 hx4) rfl (fun u2 S2 hR2 => ?_)
                obtain ⟨rfl, rfl⟩ := hR2
                refine o_rest ?_
                refine o_T (y_move rfl) rfl ?_
                refine o_T (y_neq rfl rfl) rfl ?_
                refine o_nil1 46 rfl rfl ?_
                refine c_cond rfl (fun h7 => ?_) (fun h7 => ?_)
                · have hm := cd_t h7 hm
                  refine c_seq ?_
                  refine c_region ?_
                  refine o_L (y_assign rfl) rfl rfl ?_
                  refine o_nil0 rfl ?_
                  refine c_ret ?_
                  obtain ⟨q6, hq5, hm⟩ := bd hm
                  have hm := fl_ret hm hF4
                  have hm := hq5.trans hm
                  obtain ⟨q7, hq6, hm⟩ := bd hm
                  have hm := fl_ret hm hF2
                  have hm := hq6.trans hm
                  obtain rfl := p1 hm
                  refine fun aX wX heX hsX => ret1 Tryz.results192 heX rfl (s_take (s_take s_nil)) ?_
                  exact ⟨rfl, rfl⟩
                · have hm := cd_f h7 hm
                  refine c_skip ?_
                  refine c_seq ?_
                  refine c_region ?_
                  refine o_T (y_move rfl) rfl ?_
                  refine o_T (y_add rfl rfl rfl) rfl ?_
                  refine o_L (y_assign rfl) rfl rfl ?_
                  refine o_nil0 rfl ?_
                  refine c_region ?_
                  refine o_T (y_move rfl) rfl ?_
                  refine o_T (y_move rfl) rfl ?_
                  refine o_T (y_nilck rfl) rfl ?_
                  refine o_T (y_fa fl_126_1 rfl) rfl ?_
                  obtain ⟨_, hx5, hm⟩ := bd hm
                  have hx5 := ckA_some hx5
                  refine o_T (y_ia ar_121 rfl rfl hx5.1 hx5.2) rfl ?_
                  refine o_T (y_fa fl_120_5 rfl) rfl ?_
                  refine o_ld one_3 rfl m0 (At.got (((At.refl.comp Store.a_tab).comp (encN_a Entr.len _ _ hx5.1 _ hx5.2)).comp Entr.a_nxt)) rfl ?_
                  refine o_L (y_assign rfl) rfl rfl ?_
                  refine o_nil0 rfl ?_
                  refine c_region ?_
                  refine o_T (y_move rfl) rfl ?_
                  refine o_T (y_add rfl rfl rfl) rfl ?_
                  refine o_L (y_assign rfl) rfl rfl ?_
                  refine o_nil0 rfl ?_
                  exact ⟨mm2, Nat.lt_succ_self _, _, _, ⟨_, _, _, rfl, rfl, hm⟩, ⟨rfl, rfl, rfl, trivial⟩, ⟨rfl, rfl⟩, _, (s_take (s_take s_nil))⟩
        · have hm := cd_f h2 hm
          refine c_exit ?_
          have hm := fl_nx hm hF4
          exact ⟨_, _, ⟨_, _, _, rfl, rfl, hm⟩, ⟨rfl, rfl, rfl, trivial⟩, ⟨rfl, rfl⟩, _, (s_take (s_take s_nil))⟩
      · rintro sh G ⟨c8, c9, c10, rfl, rfl, hm⟩
        subst hF3
        refine c_region ?_
        refine o_T (y_move rfl) rfl ?_
        refine o_T (y_add rfl rfl rfl) rfl ?_
        refine o_L (y_assign rfl) rfl rfl ?_
        refine o_nil0 rfl ?_
        exact ⟨mm1, Nat.lt_succ_self _, _, _, ⟨_, _, rfl, rfl, hm⟩, ⟨rfl, rfl, trivial⟩, ⟨rfl, rfl⟩, _, (s_take (s_take s_nil))⟩
    · have hm := cd_f h1 hm
      refine c_exit ?_
      have hm := fl_nx hm hF2
      exact ⟨_, _, ⟨_, _, rfl, rfl, hm⟩, ⟨rfl, rfl, trivial⟩, ⟨rfl, rfl⟩, _, (s_take (s_take s_nil))⟩
  · rintro sh G ⟨c3, c4, rfl, rfl, hm⟩
    subst hF1
    refine c_seq ?_
    refine c_region ?_
    refine o_T (y_move rfl) rfl ?_
    refine o_T (y_move rfl) rfl ?_
    refine o_T (y_eql rfl rfl) rfl ?_
    refine o_L (y_assign rfl) rfl rfl ?_
    refine o_nil0 rfl ?_
    refine c_ret ?_
    obtain rfl := p1 hm
    refine fun aX wX heX hsX => ret1 Tryz.results192 heX rfl (s_take (s_take s_nil)) ?_
    exact ⟨rfl, rfl⟩
end Go.Proofs.Qxb6500350aGreat
