/- MADE BY PROGRAM (tools350/mir.py): mirror and walk. -/
import Derived.Test.Qxb6500350aGreatF2
import Derived.Test.Qxb6500350aGreatT136
import Derived.Test.Qxb6500350aGreatT211
set_option linter.unusedVariables false
set_option linter.unusedSimpArgs false
set_option maxRecDepth 20000
set_option maxHeartbeats 4000000
namespace Go.Proofs.Qxb6500350aGreat
open Go.Eng

/- (*graph.Graph).SetHead -/
def m153 (n : Nat) (g : Graph) (h_ : Head) : Option (Int × Graph) :=
flow (cond (!(decide (h_.name = []))) (
ob1 (m136 n h_.name) fun c2 =>
cond (!c2) (
Option.bind (some (14, g)) fun q2 => some (.ret q2)) (
some (.nx 0))) (
ob1 (m211 n g h_.seq) fun c3 =>
cond (decide (c3 = 0)) (
Option.bind (some (17, g)) fun q3 => some (.ret q3)) (
some (.nx c3)))) some (un1 fun c1 =>
flow (cond (decide (¬ (h_.merge = 0))) (
ob1 (m211 n g h_.merge) fun c5 =>
cond (decide (c5 = 0)) (
Option.bind (some (17, g)) fun q4 => some (.ret q4)) (
some (.nx c5))) (
some (.nx 0))) some (un1 fun c4 =>
nm ({ g with name := h_.name } : Graph) fun z1 =>
nm ({ z1 with at_ := c1 } : Graph) fun z2 =>
nm ({ z2 with merge := c4 } : Graph) fun z3 =>
some (0, z3)))
theorem t153 {n : Nat} {C : List Chunk} {rc1 : Int} {rz1 : Graph} {b1 : Nat} {g : Graph} {q1 : Option Addr} {h_ : Head}   (hm : m153 n g h_ = some (rc1, rz1)) : Trip Tryz.prog 153 #[.pointer (some ⟨b1, 0, none⟩), .agg (Head.enc h_).toArray] ([[(b1, .cells (Graph.enc ((.pointer q1)) g).toArray 179 (0, 0))]] ++ [C]) (fun u S' => .int .i64 rc1 = u ∧ S' = [[(b1, .cells (Graph.enc ((.pointer q1)) rz1).toArray 179 (0, 0))]] ++ [C]) := by
  refine fn_entry (args := [.pointer (some ⟨b1, 0, none⟩), .agg (Head.enc h_).toArray]) Tryz.func153 rfl Tryz.ntmps153 rfl (fun w0 => ?_)
  refine c_seq ?_
  refine c_region ?_
  refine o_box rfl rfl rfl rfl (fun b2 => ?_)
  refine o_L (y_assign rfl) rfl rfl ?_
  refine o_nil0 rfl ?_
  refine c_seq ?_
  refine c_region ?_
  refine o_L (y_assign rfl) rfl rfl ?_
  refine o_nil0 rfl ?_
  refine c_seq ?_
  refine c_seq ?_
  refine c_region ?_
  refine o_T (y_fa fl_54_0 rfl) rfl ?_
  refine o_ld one_9 rfl m0 (At.got (At.refl.comp Head.a_name)) rfl ?_
  refine o_T (y_sne rfl rfl) rfl ?_
  refine o_nil1 9 rfl rfl ?_
  obtain ⟨f1, F1, hF1, hj1, hF2⟩ := fl2 hm
  refine c_joinP (n := 0) (fun sh G => ∃ (c1 : Int), sh = [(5, .int .i64 c1)] ∧ G = [] ∧ F1 c1 = some (rc1, rz1)) (s_take (s_take (s_take s_nil))) .z (fun _ _ h => h) ?_ ?_
  · have hm := hj1
    refine c_cond rfl (fun h1 => ?_) (fun h1 => ?_)
    · have hm := cd_t h1 hm
      refine c_seq ?_
      refine c_region ?_
      refine o_T (y_fa fl_54_0 rfl) rfl ?_
      refine o_ld one_9 rfl m0 (At.got (At.refl.comp Head.a_name)) rfl ?_
      obtain ⟨c2, hx1, hm⟩ := bd1 hm
      refine o_callC en_136 rfl s_nil (t136 hx1) rfl (fun u1 S1 hR1 => ?_)
      obtain ⟨rfl, rfl⟩ := hR1
      refine o_rest ?_
      refine o_T (y_not rfl) rfl ?_
      refine o_nil1 13 rfl rfl ?_
      refine c_cond rfl (fun h2 => ?_) (fun h2 => ?_)
      · have hm := cd_t h2 hm
        refine c_seq ?_
        refine c_region ?_
        refine o_L (y_assign rfl) rfl rfl ?_
        refine o_nil0 rfl ?_
        refine c_ret ?_
        obtain ⟨q2, hq1, hm⟩ := bd hm
        have hm := fl_ret hm hF2
        have hm := hq1.trans hm
        obtain ⟨rfl, rfl⟩ := pr2 hm
        refine fun aX wX heX hsX => ret1 Tryz.results153 heX rfl (s_skip (s_take (s_take s_nil))) ?_
        exact ⟨rfl, rfl⟩
      · have hm := cd_f h2 hm
        refine c_skip ?_
        have hm := fl_nx hm hF2
        exact ⟨_, _, ⟨_, rfl, rfl, hm⟩, ⟨rfl, trivial⟩, ⟨rfl, rfl⟩, _, (s_take (s_take (s_take s_nil)))⟩
    · have hm := cd_f h1 hm
      refine c_seq ?_
      refine c_region ?_
      refine o_T (y_move rfl) rfl ?_
      refine o_T (y_fa fl_54_1 rfl) rfl ?_
      refine o_ld one_3 rfl m0 (At.got (At.refl.comp Head.a_seq)) rfl ?_
      obtain ⟨c3, hx2, hm⟩ := bd1 hm
      refine o_callC en_211 rfl (s_skip (s_take s_nil)) (t211 hx2) rfl (fun u2 S2 hR2 => ?_)
      obtain ⟨rfl, rfl⟩ := hR2
      refine o_rest ?_
      refine o_L (y_assign rfl) rfl rfl ?_
      refine o_nil0 rfl ?_
      refine c_seq ?_
      refine c_region ?_
      refine o_T (y_move rfl) rfl ?_
      refine o_T (y_eql rfl rfl) rfl ?_
      refine o_nil1 19 rfl rfl ?_
      refine c_cond rfl (fun h3 => ?_) (fun h3 => ?_)
      · have hm := cd_t h3 hm
        refine c_seq ?_
        refine c_region ?_
        refine o_L (y_assign rfl) rfl rfl ?_
        refine o_nil0 rfl ?_
        refine c_ret ?_
        obtain ⟨q3, hq2, hm⟩ := bd hm
        have hm := fl_ret hm hF2
        have hm := hq2.trans hm
        obtain ⟨rfl, rfl⟩ := pr2 hm
        refine fun aX wX heX hsX => ret1 Tryz.results153 heX rfl (s_take (s_skip (s_take s_nil))) ?_
        exact ⟨rfl, rfl⟩
      · have hm := cd_f h3 hm
        refine c_skip ?_
        have hm := fl_nx hm hF2
        exact ⟨_, _, ⟨_, rfl, rfl, hm⟩, ⟨rfl, trivial⟩, ⟨rfl, rfl⟩, _, (s_get (ks k0) (s_take (s_take s_nil)))⟩
  · rintro sh G ⟨c1, rfl, rfl, hm⟩
    subst hF1
    refine c_seq ?_
    refine c_region ?_
    refine o_L (y_assign rfl) rfl rfl ?_
    refine o_nil0 rfl ?_
    refine c_seq ?_
    refine c_seq ?_
    refine c_region ?_
    refine o_T (y_fa fl_54_2 rfl) rfl ?_
    refine o_ld one_3 rfl m0 (At.got (At.refl.comp Head.a_merge)) rfl ?_
    refine o_T (y_neq rfl rfl) rfl ?_
    refine o_nil1 22 rfl rfl ?_
    obtain ⟨f2, F2, hF3, hj2, hF4⟩ := fl2 hm
    refine c_joinP (n := 0) (fun sh G => ∃ (c4 : Int), sh = [(6, .int .i64 c4)] ∧ G = [] ∧ F2 c4 = some (rc1, rz1)) (s_take (s_take (s_take s_nil))) .z (fun _ _ h => h) ?_ ?_
    · have hm := hj2
      refine c_cond rfl (fun h4 => ?_) (fun h4 => ?_)
      · have hm := cd_t h4 hm
        refine c_seq ?_
        refine c_region ?_
        refine o_T (y_move rfl) rfl ?_
        refine o_T (y_fa fl_54_2 rfl) rfl ?_
        refine o_ld one_3 rfl m0 (At.got (At.refl.comp Head.a_merge)) rfl ?_
        obtain ⟨c5, hx3, hm⟩ := bd1 hm
        refine o_callC en_211 rfl (s_skip (s_take s_nil)) (t211 hx3) rfl (fun u3 S3 hR3 => ?_)
        obtain ⟨rfl, rfl⟩ := hR3
        refine o_rest ?_
        refine o_L (y_assign rfl) rfl rfl ?_
        refine o_nil0 rfl ?_
        refine c_seq ?_
        refine c_region ?_
        refine o_T (y_move rfl) rfl ?_
        refine o_T (y_eql rfl rfl) rfl ?_
        refine o_nil1 28 rfl rfl ?_
        refine c_cond rfl (fun h5 => ?_) (fun h5 => ?_)
        · have hm := cd_t h5 hm
          refine c_seq ?_
          refine c_region ?_
          refine o_L (y_assign rfl) rfl rfl ?_
          refine o_nil0 rfl ?_
          refine c_ret ?_
          obtain ⟨q4, hq3, hm⟩ := bd hm
          have hm := fl_ret hm hF4
          have hm := hq3.trans hm
          obtain ⟨rfl, rfl⟩ := pr2 hm
          refine fun aX wX heX hsX => ret1 Tryz.results153 heX rfl (s_take (s_skip (s_take s_nil))) ?_
          exact ⟨rfl, rfl⟩
        · have hm := cd_f h5 hm
          refine c_skip ?_
          have hm := fl_nx hm hF4
          exact ⟨_, _, ⟨_, rfl, rfl, hm⟩, ⟨rfl, trivial⟩, ⟨rfl, rfl⟩, _, (s_get (ks k0) (s_take (s_take s_nil)))⟩
      · have hm := cd_f h4 hm
        refine c_skip ?_
        have hm := fl_nx hm hF4
        exact ⟨_, _, ⟨_, rfl, rfl, hm⟩, ⟨rfl, trivial⟩, ⟨rfl, rfl⟩, _, (s_take (s_take (s_take s_nil)))⟩
    · rintro sh G ⟨c4, rfl, rfl, hm⟩
      subst hF3
      refine c_seq ?_
      refine c_region ?_
      refine o_T (y_move rfl) rfl ?_
      refine o_T (y_fa fl_54_0 rfl) rfl ?_
      refine o_ld one_9 rfl m0 (At.got (At.refl.comp Head.a_name)) rfl ?_
      refine o_T (y_nilck rfl) rfl ?_
      refine o_T (y_fa fl_179_6 rfl) rfl ?_
      obtain ⟨z1, hn1, hm⟩ := nm_s hm
      refine o_stN one_9 rfl rfl rfl (Upd.z Graph.u_name) (rs r0) (show (Graph.enc ((.pointer q1)) z1) = _ from by subst hn1; rfl) ?_
      refine o_nil0 rfl ?_
      refine c_seq ?_
      refine c_region ?_
      refine o_T (y_move rfl) rfl ?_
      refine o_T (y_move rfl) rfl ?_
      refine o_T (y_nilck rfl) rfl ?_
      refine o_T (y_fa fl_179_7 rfl) rfl ?_
      obtain ⟨z2, hn2, hm⟩ := nm_s hm
      refine o_stN one_3 rfl rfl rfl (Upd.z Graph.u_at_) (rs r0) (show (Graph.enc ((.pointer q1)) z2) = _ from by subst hn2; rfl) ?_
      refine o_nil0 rfl ?_
      refine c_seq ?_
      refine c_region ?_
      refine o_T (y_move rfl) rfl ?_
      refine o_T (y_move rfl) rfl ?_
      refine o_T (y_nilck rfl) rfl ?_
      refine o_T (y_fa fl_179_8 rfl) rfl ?_
      obtain ⟨z3, hn3, hm⟩ := nm_s hm
      refine o_stN one_3 rfl rfl rfl (Upd.z Graph.u_merge) (rs r0) (show (Graph.enc ((.pointer q1)) z3) = _ from by subst hn3; rfl) ?_
      refine o_nil0 rfl ?_
      refine c_seq ?_
      refine c_region ?_
      refine o_L (y_assign rfl) rfl rfl ?_
      refine o_nil0 rfl ?_
      refine c_ret ?_
      obtain ⟨rfl, rfl⟩ := pr2 hm
      refine fun aX wX heX hsX => ret1 Tryz.results153 heX rfl (s_skip (s_take (s_take s_nil))) ?_
      exact ⟨rfl, rfl⟩
end Go.Proofs.Qxb6500350aGreat
