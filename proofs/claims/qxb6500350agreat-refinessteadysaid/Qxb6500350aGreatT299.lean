/- MADE BY PROGRAM (tools350/mir.py): mirror and walk. -/
import Derived.Test.Qxb6500350aGreatF2
set_option linter.unusedVariables false
set_option linter.unusedSimpArgs false
set_option maxRecDepth 20000
set_option maxHeartbeats 4000000
namespace Go.Proofs.Qxb6500350aGreat
open Go.Eng

/- (*objects.Store).lowestFree -/
def m299_w1 (n : Nat) (s : Store) (mm : Nat) : Int → Option (Flow (Int) (Int)) := it1 (fun lp1 c1 =>
cond (decide (c1 ≤ 48)) (
Option.bind (ckA c1 49) fun _ =>
cond (decide ((s.tab c1).state = 0)) (
Option.bind (some c1) fun q2 => some (.ret q2)) (
lp1 (wi (c1 + 1)))) (
some (.nx c1))) mm
def m299 (n : Nat) (s : Store) : Option (Int) :=
flow (m299_w1 n s n 1) some (un1 fun c2 =>
some 0)
theorem t299 {n : Nat} {C : List Chunk} {rc1 : Int} {b1 : Nat} {s : Store} {q1 : Option Addr}   (hm : m299 n s = some rc1) : Trip Tryz.prog 299 #[.pointer (some ⟨b1, 0, none⟩)] ([[(b1, .cells (Store.enc ((.pointer q1)) s).toArray 126 (0, 0))]] ++ [C]) (fun u S' => .int .i64 rc1 = u ∧ S' = [[(b1, .cells (Store.enc ((.pointer q1)) s).toArray 126 (0, 0))]] ++ [C]) := by
  refine fn_entry (args := [.pointer (some ⟨b1, 0, none⟩)]) Tryz.func299 rfl Tryz.ntmps299 rfl (fun w0 => ?_)
  refine c_seq ?_
  refine c_region ?_
  refine o_L (y_assign rfl) rfl rfl ?_
  refine o_nil0 rfl ?_
  refine c_seq ?_
  refine c_seq ?_
  refine c_region ?_
  refine o_L (y_assign rfl) rfl rfl ?_
  refine o_nil0 rfl ?_
  obtain ⟨f1, F1, hF1, hj1, hF2⟩ := fl2 hm
  refine c_joinP (n := 0) (fun sh G => ∃ (c2 : Int), sh = [(3, .int .i64 c2)] ∧ G = [] ∧ F1 c2 = some rc1) (s_take (s_take s_nil)) .z (fun _ _ h => h) ?_ ?_
  · skip
    refine c_block ?_
    refine c_loopP (n := 0) (fun mm sh G => ∃ (c1 : Int), sh = [(3, .int .i64 c1)] ∧ G = [] ∧ m299_w1 n s mm c1 = some f1) n (s_take (s_take s_nil)) .z ⟨_, _, ⟨_, rfl, rfl, hj1⟩, ⟨rfl, trivial⟩, _, (s_take (s_take s_nil))⟩ ?_
    rintro mm sh G ⟨c1, rfl, rfl, hm⟩
    obtain ⟨mm1, rfl, hm⟩ := it1_s hm
    refine c_seq ?_
    refine c_seq ?_
    refine c_region ?_
    refine o_T (y_move rfl) rfl ?_
    refine o_T (y_leq rfl rfl) rfl ?_
    refine o_nil1 5 rfl rfl ?_
    refine c_cond rfl (fun h1 => ?_) (fun h1 => ?_)
    · have hm := cd_t h1 hm
      refine c_skip ?_
      refine c_seq ?_
      refine c_block ?_
      refine c_seq ?_
      refine c_region ?_
      refine o_T (y_move rfl) rfl ?_
      refine o_T (y_move rfl) rfl ?_
      refine o_T (y_nilck rfl) rfl ?_
      refine o_T (y_fa fl_126_1 rfl) rfl ?_
      obtain ⟨_, hx1, hm⟩ := bd hm
      have hx1 := ckA_some hx1
      refine o_T (y_ia ar_121 rfl rfl hx1.1 hx1.2) rfl ?_
      refine o_T (y_fa fl_120_0 rfl) rfl ?_
      refine o_ld one_3 rfl m0 (At.got (((At.refl.comp Store.a_tab).comp (encN_a Entr.len _ _ hx1.1 _ hx1.2)).comp Entr.a_state)) rfl ?_
      refine o_T (y_eql rfl rfl) rfl ?_
      refine o_nil1 15 rfl rfl ?_
      refine c_cond rfl (fun h2 => ?_) (fun h2 => ?_)
      · have hm := cd_t h2 hm
        refine c_seq ?_
        refine c_region ?_
        refine o_T (y_move rfl) rfl ?_
        refine o_L (y_assign rfl) rfl rfl ?_
        refine o_nil0 rfl ?_
        refine c_ret ?_
        obtain ⟨q2, hq1, hm⟩ := bd hm
        have hm := fl_ret hm hF2
        have hm := hq1.trans hm
        obtain rfl := p1 hm
        refine fun aX wX heX hsX => ret1 Tryz.results299 heX rfl (s_take (s_take s_nil)) ?_
        exact ⟨rfl, rfl⟩
      · have hm := cd_f h2 hm
        refine c_skip ?_
        refine c_region ?_
        refine o_T (y_move rfl) rfl ?_
        refine o_T (y_add rfl rfl rfl) rfl ?_
        refine o_L (y_assign rfl) rfl rfl ?_
        refine o_nil0 rfl ?_
        exact ⟨mm1, Nat.lt_succ_self _, _, _, ⟨_, rfl, rfl, hm⟩, ⟨rfl, trivial⟩, ⟨rfl, rfl⟩, _, (s_take (s_take s_nil))⟩
    · have hm := cd_f h1 hm
      refine c_exit ?_
      have hm := fl_nx hm hF2
      exact ⟨_, _, ⟨_, rfl, rfl, hm⟩, ⟨rfl, trivial⟩, ⟨rfl, rfl⟩, _, (s_take (s_take s_nil))⟩
  · rintro sh G ⟨c2, rfl, rfl, hm⟩
    subst hF1
    refine c_seq ?_
    refine c_region ?_
    refine o_L (y_assign rfl) rfl rfl ?_
    refine o_nil0 rfl ?_
    refine c_ret ?_
    obtain rfl := p1 hm
    refine fun aX wX heX hsX => ret1 Tryz.results299 heX rfl (s_take (s_take s_nil)) ?_
    exact ⟨rfl, rfl⟩
end Go.Proofs.Qxb6500350aGreat
