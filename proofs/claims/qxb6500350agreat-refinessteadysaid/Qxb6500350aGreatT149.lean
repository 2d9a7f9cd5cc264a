/- MADE BY PROGRAM (tools350/mir.py): mirror and walk. -/
import Derived.Test.Qxb6500350aGreatF2
import Derived.Test.Qxb6500350aGreatT211
import Derived.Test.Qxb6500350aGreatT222
import Derived.Test.Qxb6500350aGreatT223
set_option linter.unusedVariables false
set_option linter.unusedSimpArgs false
set_option maxRecDepth 20000
set_option maxHeartbeats 4000000
namespace Go.Proofs.Qxb6500350aGreat
open Go.Eng

/- (*graph.Graph).MergeBase -/
def m149_w1 (n : Nat) (g : Graph) (c5 : Int) (c6 : Int) (mm : Nat) : Int → Option (Flow (Int × Int) (Int)) := it1 (fun lp1 c7 =>
cond (decide ((0 : Int) ≤ c7)) (
Option.bind (ckA c7 48) fun _ =>
ob1 (m222 n (g.order c7)) fun c9 =>
cond (decide (¬ ((bAnd .u64 (bAnd .u64 c5 c6) c9) = 0))) (
Option.bind (ckA (g.order c7) 49) fun _ =>
Option.bind (some ((g.com (g.order c7)).seq, 0)) fun q2 => some (.ret q2)) (
lp1 (wi (c7 - 1)))) (
some (.nx c7))) mm
def m149 (n : Nat) (g : Graph) (a : Int) (b_ : Int) : Option (Int × Int) :=
ob1 (m211 n g a) fun c1 =>
cond (decide (c1 = 0)) (
some (0, 17)) (
ob1 (m211 n g b_) fun c2 =>
cond (decide (c2 = 0)) (
some (0, 17)) (
ob1 (m222 n c1) fun c3 =>
ob1 (m222 n c2) fun c4 =>
ob1 (m223 n g c3) fun c5 =>
ob1 (m223 n g c4) fun c6 =>
flow (m149_w1 n g c5 c6 n (wi (g.n - 1))) some (un1 fun c8 =>
some (0, 0))))
theorem t149 {n : Nat} {C : List Chunk} {rc1 : Int} {rc2 : Int} {b1 : Nat} {g : Graph} {q1 : Option Addr} {a : Int} {b_ : Int}   (hm : m149 n g a b_ = some (rc1, rc2)) : Trip Tryz.prog 149 #[.pointer (some ⟨b1, 0, none⟩), .int .i64 a, .int .i64 b_] ([[(b1, .cells (Graph.enc ((.pointer q1)) g).toArray 179 (0, 0))]] ++ [C]) (fun u S' => .tuple #[.int .i64 rc1, .int .i64 rc2] = u ∧ S' = [[(b1, .cells (Graph.enc ((.pointer q1)) g).toArray 179 (0, 0))]] ++ [C]) := by
  refine fn_entry (args := [.pointer (some ⟨b1, 0, none⟩), .int .i64 a, .int .i64 b_]) Tryz.func149 rfl Tryz.ntmps149 rfl (fun w0 => ?_)
  refine c_seq ?_
  refine c_region ?_
  refine o_L (y_assign rfl) rfl rfl ?_
  refine o_L (y_assign rfl) rfl rfl ?_
  refine o_nil0 rfl ?_
  refine c_seq ?_
  refine c_region ?_
  refine o_T (y_move rfl) rfl ?_
  refine o_T (y_move rfl) rfl ?_
  obtain ⟨c1, hx1, hm⟩ := bd1 hm
  refine o_callC en_211 rfl (s_take s_nil) (t211 hx1) rfl (fun u1 S1 hR1 => ?_)
  obtain ⟨rfl, rfl⟩ := hR1
  refine o_rest ?_
  refine o_L (y_assign rfl) rfl rfl ?_
  refine o_nil0 rfl ?_
  refine c_seq ?_
  refine c_seq ?_
  refine c_region ?_
  refine o_T (y_move rfl) rfl ?_
  refine o_T (y_eql rfl rfl) rfl ?_
  refine o_nil1 21 rfl rfl ?_
  refine c_cond rfl (fun h1 => ?_) (fun h1 => ?_)
  · have hm := cd_t h1 hm
    refine c_seq ?_
    refine c_region ?_
    refine o_L (y_assign rfl) rfl rfl ?_
    refine o_L (y_assign rfl) rfl rfl ?_
    refine o_nil0 rfl ?_
    refine c_ret ?_
    obtain ⟨rfl, rfl⟩ := pr2 hm
    refine fun aX wX heX hsX => ret2 Tryz.results149 heX rfl rfl (s_take (s_take s_nil)) ?_
    exact ⟨rfl, rfl⟩
  · have hm := cd_f h1 hm
    refine c_skip ?_
    refine c_seq ?_
    refine c_region ?_
    refine o_T (y_move rfl) rfl ?_
    refine o_T (y_move rfl) rfl ?_
    obtain ⟨c2, hx2, hm⟩ := bd1 hm
    refine o_callC en_211 rfl (s_take s_nil) (t211 hx2) rfl (fun u2 S2 hR2 => ?_)
    obtain ⟨rfl, rfl⟩ := hR2
    refine o_rest ?_
    refine o_L (y_assign rfl) rfl rfl ?_
    refine o_nil0 rfl ?_
    refine c_seq ?_
    refine c_seq ?_
    refine c_region ?_
    refine o_T (y_move rfl) rfl ?_
    refine o_T (y_eql rfl rfl) rfl ?_
    refine o_nil1 26 rfl rfl ?_
    refine c_cond rfl (fun h2 => ?_) (fun h2 => ?_)
    · have hm := cd_t h2 hm
      refine c_seq ?_
      refine c_region ?_
      refine o_L (y_assign rfl) rfl rfl ?_
      refine o_L (y_assign rfl) rfl rfl ?_
      refine o_nil0 rfl ?_
      refine c_ret ?_
      obtain ⟨rfl, rfl⟩ := pr2 hm
      refine fun aX wX heX hsX => ret2 Tryz.results149 heX rfl rfl (s_take (s_take s_nil)) ?_
      exact ⟨rfl, rfl⟩
    · have hm := cd_f h2 hm
      refine c_skip ?_
      refine c_seq ?_
      refine c_region ?_
      refine o_T (y_move rfl) rfl ?_
      obtain ⟨c3, hx3, hm⟩ := bd1 hm
      refine o_callC en_222 rfl s_nil (t222 hx3) rfl (fun u3 S3 hR3 => ?_)
      obtain ⟨rfl, rfl⟩ := hR3
      refine o_rest ?_
      refine o_L (y_assign rfl) rfl rfl ?_
      refine o_nil0 rfl ?_
      refine c_seq ?_
      refine c_region ?_
      refine o_T (y_move rfl) rfl ?_
      obtain ⟨c4, hx4, hm⟩ := bd1 hm
      refine o_callC en_222 rfl s_nil (t222 hx4) rfl (fun u4 S4 hR4 => ?_)
      obtain ⟨rfl, rfl⟩ := hR4
      refine o_rest ?_
      refine o_L (y_assign rfl) rfl rfl ?_
      refine o_nil0 rfl ?_
      refine c_seq ?_
      refine c_region ?_
      refine o_T (y_move rfl) rfl ?_
      refine o_T (y_move rfl) rfl ?_
      obtain ⟨c5, hx5, hm⟩ := bd1 hm
      refine o_callC en_223 rfl (s_take s_nil) (t223 hx5) rfl (fun u5 S5 hR5 => ?_)
      obtain ⟨rfl, rfl⟩ := hR5
      refine o_rest ?_
      refine o_L (y_assign rfl) rfl rfl ?_
      refine o_nil0 rfl ?_
      refine c_seq ?_
      refine c_region ?_
      refine o_T (y_move rfl) rfl ?_
      refine o_T (y_move rfl) rfl ?_
      obtain ⟨c6, hx6, hm⟩ := bd1 hm
      refine o_callC en_223 rfl (s_take s_nil) (t223 hx6) rfl (fun u6 S6 hR6 => ?_)
      obtain ⟨rfl, rfl⟩ := hR6
      refine o_rest ?_
      refine o_L (y_assign rfl) rfl rfl ?_
      refine o_nil0 rfl ?_
      refine c_seq ?_
      refine c_region ?_
      refine o_T (y_move rfl) rfl ?_
      refine o_T (y_move rfl) rfl ?_
      refine o_T (y_and rfl rfl rfl) rfl ?_
      refine o_L (y_assign rfl) rfl rfl ?_
      refine o_nil0 rfl ?_
      refine c_seq ?_
      refine c_seq ?_
      refine c_region ?_
      refine o_T (y_move rfl) rfl ?_
      refine o_T (y_nilck rfl) rfl ?_
      refine o_T (y_fa fl_179_3 rfl) rfl ?_
      refine o_ld one_3 rfl m0 (At.got (At.refl.comp Graph.a_n)) rfl ?_
      refine o_T (y_sub rfl rfl rfl) rfl ?_
      refine o_L (y_assign rfl) rfl rfl ?_
      refine o_nil0 rfl ?_
      obtain ⟨f1, F1, hF1, hj1, hF2⟩ := fl2 hm
      refine c_joinP (n := 0) (fun sh G => ∃ (c8 : Int), sh = [(15, .int .i64 c8)] ∧ G = [] ∧ F1 c8 = some (rc1, rc2)) (s_take (s_take s_nil)) .z (fun _ _ h => h) ?_ ?_
      · skip
        refine c_block ?_
        refine c_loopP (n := 0) (fun mm sh G => ∃ (c7 : Int), sh = [(15, .int .i64 c7)] ∧ G = [] ∧ m149_w1 n g c5 c6 mm c7 = some f1) n (s_take (s_take s_nil)) .z ⟨_, _, ⟨_, rfl, rfl, hj1⟩, ⟨rfl, trivial⟩, _, (s_take (s_take s_nil))⟩ ?_
        rintro mm sh G ⟨c7, rfl, rfl, hm⟩
        obtain ⟨mm1, rfl, hm⟩ := it1_s hm
        refine c_seq ?_
        refine c_seq ?_
        refine c_region ?_
        refine o_T (y_move rfl) rfl ?_
        refine o_T (y_geq rfl rfl) rfl ?_
        refine o_nil1 46 rfl rfl ?_
        refine c_cond rfl (fun h3 => ?_) (fun h3 => ?_)
        · have hm := cd_t h3 hm
          refine c_skip ?_
          refine c_seq ?_
          refine c_block ?_
          refine c_seq ?_
          refine c_region ?_
          refine o_T (y_move rfl) rfl ?_
          refine o_T (y_move rfl) rfl ?_
          refine o_T (y_nilck rfl) rfl ?_
          refine o_T (y_fa fl_179_2 rfl) rfl ?_
          obtain ⟨_, hx7, hm⟩ := bd hm
          have hx7 := ckA_some hx7
          refine o_T (y_ia ar_174 rfl rfl hx7.1 hx7.2) rfl ?_
          refine o_ld one_3 rfl m0 (At.got ((At.refl.comp Graph.a_order).comp (encN_a encI_len _ _ hx7.1 _ hx7.2))) rfl ?_
          refine o_L (y_assign rfl) rfl rfl ?_
          refine o_nil0 rfl ?_
          refine c_seq ?_
          refine c_region ?_
          refine o_T (y_move rfl) rfl ?_
          refine o_T (y_move rfl) rfl ?_
          obtain ⟨c9, hx8, hm⟩ := bd1 hm
          refine o_callC en_222 rfl s_nil (t222 hx8) rfl (fun u7 S7 hR7 => ?_)
          obtain ⟨rfl, rfl⟩ := hR7
          refine o_rest ?_
          refine o_T (y_and rfl rfl rfl) rfl ?_
          refine o_T (y_neq rfl rfl) rfl ?_
          refine o_nil1 59 rfl rfl ?_
          refine c_cond rfl (fun h4 => ?_) (fun h4 => ?_)
          · have hm := cd_t h4 hm
            refine c_seq ?_
            refine c_region ?_
            refine o_T (y_move rfl) rfl ?_
            refine o_T (y_move rfl) rfl ?_
            refine o_T (y_nilck rfl) rfl ?_
            refine o_T (y_fa fl_179_1 rfl) rfl ?_
            obtain ⟨_, hx9, hm⟩ := bd hm
            have hx9 := ckA_some hx9
            refine o_T (y_ia ar_173 rfl rfl hx9.1 hx9.2) rfl ?_
            refine o_T (y_fa fl_172_1 rfl) rfl ?_
            refine o_ld one_3 rfl m0 (At.got (((At.refl.comp Graph.a_com).comp (encN_a Com.len _ _ hx9.1 _ hx9.2)).comp Com.a_seq)) rfl ?_
            refine o_L (y_assign rfl) rfl rfl ?_
            refine o_L (y_assign rfl) rfl rfl ?_
            refine o_nil0 rfl ?_
            refine c_ret ?_
            obtain ⟨q2, hq1, hm⟩ := bd hm
            have hm := fl_ret hm hF2
            have hm := hq1.trans hm
            obtain ⟨rfl, rfl⟩ := pr2 hm
            refine fun aX wX heX hsX => ret2 Tryz.results149 heX rfl rfl (s_take (s_take s_nil)) ?_
            exact ⟨rfl, rfl⟩
          · have hm := cd_f h4 hm
            refine c_skip ?_
            refine c_region ?_
            refine o_T (y_move rfl) rfl ?_
            refine o_T (y_sub rfl rfl rfl) rfl ?_
            refine o_L (y_assign rfl) rfl rfl ?_
            refine o_nil0 rfl ?_
            exact ⟨mm1, Nat.lt_succ_self _, _, _, ⟨_, rfl, rfl, hm⟩, ⟨rfl, trivial⟩, ⟨rfl, rfl⟩, _, (s_take (s_take s_nil))⟩
        · have hm := cd_f h3 hm
          refine c_exit ?_
          have hm := fl_nx hm hF2
          exact ⟨_, _, ⟨_, rfl, rfl, hm⟩, ⟨rfl, trivial⟩, ⟨rfl, rfl⟩, _, (s_take (s_take s_nil))⟩
      · rintro sh G ⟨c8, rfl, rfl, hm⟩
        subst hF1
        refine c_seq ?_
        refine c_region ?_
        refine o_L (y_assign rfl) rfl rfl ?_
        refine o_L (y_assign rfl) rfl rfl ?_
        refine o_nil0 rfl ?_
        refine c_ret ?_
        obtain ⟨rfl, rfl⟩ := pr2 hm
        refine fun aX wX heX hsX => ret2 Tryz.results149 heX rfl rfl (s_take (s_take s_nil)) ?_
        exact ⟨rfl, rfl⟩
end Go.Proofs.Qxb6500350aGreat
