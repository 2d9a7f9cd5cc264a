/- MADE BY PROGRAM (tools350/mir.py): mirror and walk. -/
import Derived.Test.Qxb6500350aGreatF2
set_option linter.unusedVariables false
set_option linter.unusedSimpArgs false
set_option maxRecDepth 20000
set_option maxHeartbeats 4000000
namespace Go.Proofs.Qxb6500350aGreat
open Go.Eng

/- (*graph.Graph).clear -/
def m247_w1 (n : Nat) (mm : Nat) : Int → Graph → Option (Int × Graph) := it2 (fun lp1 c1 z1 =>
cond (decide (c1 ≤ 48)) (
Option.bind (ckA c1 49) fun _ =>
nm ({ z1 with com := (upI z1.com c1 Com.zero) } : Graph) fun z3 =>
lp1 (wi (c1 + 1)) z3) (
some (c1, z1))) mm
def m247_w2 (n : Nat) (mm : Nat) : Int → Graph → Option (Int × Graph) := it2 (fun lp2 c3 z4 =>
cond (decide (c3 < 48)) (
Option.bind (ckA c3 48) fun _ =>
nm ({ z4 with order := (upI z4.order c3 0) } : Graph) fun z6 =>
lp2 (wi (c3 + 1)) z6) (
some (c3, z4))) mm
def m247 (n : Nat) (g : Graph) : Option (Graph) :=
ob2 (m247_w1 n n 0 g) fun c2 z2 =>
ob2 (m247_w2 n n 0 z2) fun c4 z5 =>
nm ({ z5 with n := 0 } : Graph) fun z7 =>
nm ({ z7 with br := (fun _ => Brn.zero) } : Graph) fun z8 =>
nm ({ z8 with nb := 0 } : Graph) fun z9 =>
nm ({ z9 with name := [109, 97, 105, 110] } : Graph) fun z10 =>
nm ({ z10 with at_ := 0 } : Graph) fun z11 =>
nm ({ z11 with merge := 0 } : Graph) fun z12 =>
nm ({ z12 with aux := 0 } : Graph) fun z13 =>
nm ({ z13 with nxt := 1 } : Graph) fun z14 =>
some z14
theorem t247 {n : Nat} {C : List Chunk} {rz1 : Graph} {b1 : Nat} {g : Graph} {q1 : Option Addr}   (hm : m247 n g = some rz1) : Trip Tryz.prog 247 #[.pointer (some ⟨b1, 0, none⟩)] ([[(b1, .cells (Graph.enc ((.pointer q1)) g).toArray 179 (0, 0))]] ++ [C]) (fun u S' => .tuple #[] = u ∧ S' = [[(b1, .cells (Graph.enc ((.pointer q1)) rz1).toArray 179 (0, 0))]] ++ [C]) := by
  refine fn_entry (args := [.pointer (some ⟨b1, 0, none⟩)]) Tryz.func247 rfl Tryz.ntmps247 rfl (fun w0 => ?_)
  refine c_seq ?_
  refine c_seq ?_
  refine c_region ?_
  refine o_L (y_assign rfl) rfl rfl ?_
  refine o_nil0 rfl ?_
  obtain ⟨c2, z2, hj1, hm⟩ := bd2 hm
  refine c_joinP (n := 1) (fun sh G => sh = [(2, .int .i64 c2)] ∧ G = [[(b1, .cells (Graph.enc ((.pointer q1)) z2).toArray 179 (0, 0))]]) (s_take (s_take s_nil)) (.s .z) (fun _ _ h => h) ?_ ?_
  · skip
    refine c_block ?_
    refine c_loopP (n := 1) (fun mm sh G => ∃ (c1 : Int), ∃ (z1 : Graph), sh = [(2, .int .i64 c1)] ∧ G = [[(b1, .cells (Graph.enc ((.pointer q1)) z1).toArray 179 (0, 0))]] ∧ m247_w1 n mm c1 z1 = some (c2, z2)) n (s_take (s_take s_nil)) (.s .z) ⟨_, _, ⟨_, _, rfl, rfl, hj1⟩, ⟨rfl, trivial⟩, _, (s_take (s_take s_nil))⟩ ?_
    rintro mm sh G ⟨c1, z1, rfl, rfl, hm⟩
    obtain ⟨mm1, rfl, hm⟩ := it2_s hm
    refine c_seq ?_
    refine c_seq ?_
    refine c_region ?_
    refine o_T (y_move rfl) rfl ?_
    refine o_T (y_leq rfl rfl) rfl ?_
    refine o_nil1 5 rfl rfl ?_
    refine c_cond rfl (fun h1 => ?_) (fun h1 => ?_)
    · have hm := cd_t h1 hm
      refine c_skip ?_
      refine c_seq ?_
      refine c_block ?_
      refine c_region ?_
      refine o_T (y_move rfl) rfl ?_
      refine o_T (y_move rfl) rfl ?_
      refine o_T (y_build st_172 rfl fbU0) rfl ?_
      refine o_T (y_nilck rfl) rfl ?_
      refine o_T (y_fa fl_179_1 rfl) rfl ?_
      obtain ⟨_, hx1, hm⟩ := bd hm
      have hx1 := ckA_some hx1
      refine o_T (y_ia ar_173 rfl rfl hx1.1 hx1.2) rfl ?_
      obtain ⟨z3, hn1, hm⟩ := nm_s hm
      refine o_stNA ag_172 rfl rfl (Com.plain _) (Com.len _) ((Upd.z Graph.u_com).comp (encN_u Com.len _ _ _ hx1.1 _ hx1.2)) r0 (show (Graph.enc ((.pointer q1)) z3) = _ from by subst hn1; rfl) ?_
      refine o_nil0 rfl ?_
      refine c_region ?_
      refine o_T (y_move rfl) rfl ?_
      refine o_T (y_add rfl rfl rfl) rfl ?_
      refine o_L (y_assign rfl) rfl rfl ?_
      refine o_nil0 rfl ?_
      exact ⟨mm1, Nat.lt_succ_self _, _, _, ⟨_, _, rfl, rfl, hm⟩, ⟨rfl, trivial⟩, ⟨rfl, rfl⟩, _, (s_take (s_take s_nil))⟩
    · have hm := cd_f h1 hm
      refine c_exit ?_
      obtain ⟨rfl, rfl⟩ := pr2 hm
      exact ⟨_, _, ⟨rfl, rfl⟩, ⟨rfl, trivial⟩, ⟨rfl, rfl⟩, _, (s_take (s_take s_nil))⟩
  · rintro sh G ⟨rfl, rfl⟩
    refine c_seq ?_
    refine c_seq ?_
    refine c_region ?_
    refine o_L (y_assign rfl) rfl rfl ?_
    refine o_nil0 rfl ?_
    obtain ⟨c4, z5, hj2, hm⟩ := bd2 hm
    refine c_joinP (n := 1) (fun sh G => sh = [(3, .int .i64 c4)] ∧ G = [[(b1, .cells (Graph.enc ((.pointer q1)) z5).toArray 179 (0, 0))]]) (s_take (s_take s_nil)) (.s .z) (fun _ _ h => h) ?_ ?_
    · skip
      refine c_block ?_
      refine c_loopP (n := 1) (fun mm sh G => ∃ (c3 : Int), ∃ (z4 : Graph), sh = [(3, .int .i64 c3)] ∧ G = [[(b1, .cells (Graph.enc ((.pointer q1)) z4).toArray 179 (0, 0))]] ∧ m247_w2 n mm c3 z4 = some (c4, z5)) n (s_take (s_take s_nil)) (.s .z) ⟨_, _, ⟨_, _, rfl, rfl, hj2⟩, ⟨rfl, trivial⟩, _, (s_take (s_take s_nil))⟩ ?_
      rintro mm sh G ⟨c3, z4, rfl, rfl, hm⟩
      obtain ⟨mm2, rfl, hm⟩ := it2_s hm
      refine c_seq ?_
      refine c_seq ?_
      refine c_region ?_
      refine o_T (y_move rfl) rfl ?_
      refine o_T (y_lss rfl rfl) rfl ?_
      refine o_nil1 15 rfl rfl ?_
      refine c_cond rfl (fun h2 => ?_) (fun h2 => ?_)
      · have hm := cd_t h2 hm
        refine c_skip ?_
        refine c_seq ?_
        refine c_block ?_
        refine c_region ?_
        refine o_T (y_move rfl) rfl ?_
        refine o_T (y_move rfl) rfl ?_
        refine o_T (y_nilck rfl) rfl ?_
        refine o_T (y_fa fl_179_2 rfl) rfl ?_
        obtain ⟨_, hx2, hm⟩ := bd hm
        have hx2 := ckA_some hx2
        refine o_T (y_ia ar_174 rfl rfl hx2.1 hx2.2) rfl ?_
        obtain ⟨z6, hn2, hm⟩ := nm_s hm
        refine o_stN one_3 rfl rfl rfl ((Upd.z Graph.u_order).comp (encN_u encI_len _ _ _ hx2.1 _ hx2.2)) r0 (show (Graph.enc ((.pointer q1)) z6) = _ from by subst hn2; rfl) ?_
        refine o_nil0 rfl ?_
        refine c_region ?_
        refine o_T (y_move rfl) rfl ?_
        refine o_T (y_add rfl rfl rfl) rfl ?_
        refine o_L (y_assign rfl) rfl rfl ?_
        refine o_nil0 rfl ?_
        exact ⟨mm2, Nat.lt_succ_self _, _, _, ⟨_, _, rfl, rfl, hm⟩, ⟨rfl, trivial⟩, ⟨rfl, rfl⟩, _, (s_take (s_take s_nil))⟩
      · have hm := cd_f h2 hm
        refine c_exit ?_
        obtain ⟨rfl, rfl⟩ := pr2 hm
        exact ⟨_, _, ⟨rfl, rfl⟩, ⟨rfl, trivial⟩, ⟨rfl, rfl⟩, _, (s_take (s_take s_nil))⟩
    · rintro sh G ⟨rfl, rfl⟩
      refine c_seq ?_
      refine c_region ?_
      refine o_T (y_move rfl) rfl ?_
      refine o_T (y_nilck rfl) rfl ?_
      refine o_T (y_fa fl_179_3 rfl) rfl ?_
      obtain ⟨z7, hn3, hm⟩ := nm_s hm
      refine o_stN one_3 rfl rfl rfl (Upd.z Graph.u_n) r0 (show (Graph.enc ((.pointer q1)) z7) = _ from by subst hn3; rfl) ?_
      refine o_nil0 rfl ?_
      refine c_seq ?_
      refine c_region ?_
      refine o_T (y_move rfl) rfl ?_
      refine o_T (y_buildA ze_177 Tryz.underlying177 (Agg.inf ag_176)) rfl ?_
      refine o_T (y_nilck rfl) rfl ?_
      refine o_T (y_fa fl_179_4 rfl) rfl ?_
      obtain ⟨z8, hn4, hm⟩ := nm_s hm
      refine o_stNA ag_177 rfl rfl (encN_plain Brn.plain _ _) (encN_len Brn.len _ _) (Upd.z Graph.u_br) r0 (show (Graph.enc ((.pointer q1)) z8) = _ from by subst hn4; rfl) ?_
      refine o_nil0 rfl ?_
      refine c_seq ?_
      refine c_region ?_
      refine o_T (y_move rfl) rfl ?_
      refine o_T (y_nilck rfl) rfl ?_
      refine o_T (y_fa fl_179_5 rfl) rfl ?_
      obtain ⟨z9, hn5, hm⟩ := nm_s hm
      refine o_stN one_3 rfl rfl rfl (Upd.z Graph.u_nb) r0 (show (Graph.enc ((.pointer q1)) z9) = _ from by subst hn5; rfl) ?_
      refine o_nil0 rfl ?_
      refine c_seq ?_
      refine c_region ?_
      refine o_T (y_move rfl) rfl ?_
      refine o_T (y_nilck rfl) rfl ?_
      refine o_T (y_fa fl_179_6 rfl) rfl ?_
      obtain ⟨z10, hn6, hm⟩ := nm_s hm
      refine o_stN one_9 rfl rfl rfl (Upd.z Graph.u_name) r0 (show (Graph.enc ((.pointer q1)) z10) = _ from by subst hn6; rfl) ?_
      refine o_nil0 rfl ?_
      refine c_seq ?_
      refine c_region ?_
      refine o_T (y_move rfl) rfl ?_
      refine o_T (y_nilck rfl) rfl ?_
      refine o_T (y_fa fl_179_7 rfl) rfl ?_
      obtain ⟨z11, hn7, hm⟩ := nm_s hm
      refine o_stN one_3 rfl rfl rfl (Upd.z Graph.u_at_) r0 (show (Graph.enc ((.pointer q1)) z11) = _ from by subst hn7; rfl) ?_
      refine o_nil0 rfl ?_
      refine c_seq ?_
      refine c_region ?_
      refine o_T (y_move rfl) rfl ?_
      refine o_T (y_nilck rfl) rfl ?_
      refine o_T (y_fa fl_179_8 rfl) rfl ?_
      obtain ⟨z12, hn8, hm⟩ := nm_s hm
      refine o_stN one_3 rfl rfl rfl (Upd.z Graph.u_merge) r0 (show (Graph.enc ((.pointer q1)) z12) = _ from by subst hn8; rfl) ?_
      refine o_nil0 rfl ?_
      refine c_seq ?_
      refine c_region ?_
      refine o_T (y_move rfl) rfl ?_
      refine o_T (y_nilck rfl) rfl ?_
      refine o_T (y_fa fl_179_9 rfl) rfl ?_
      obtain ⟨z13, hn9, hm⟩ := nm_s hm
      refine o_stN one_3 rfl rfl rfl (Upd.z Graph.u_aux) r0 (show (Graph.enc ((.pointer q1)) z13) = _ from by subst hn9; rfl) ?_
      refine o_nil0 rfl ?_
      refine c_region ?_
      refine o_T (y_move rfl) rfl ?_
      refine o_T (y_nilck rfl) rfl ?_
      refine o_T (y_fa fl_179_10 rfl) rfl ?_
      obtain ⟨z14, hn10, hm⟩ := nm_s hm
      refine o_stN one_3 rfl rfl rfl (Upd.z Graph.u_nxt) r0 (show (Graph.enc ((.pointer q1)) z14) = _ from by subst hn10; rfl) ?_
      refine o_nil0 rfl ?_
      obtain rfl := p1 hm
      refine fun aX wX heX hsX => ret0 Tryz.results247 (s_take (s_take s_nil)) ?_
      exact ⟨rfl, rfl⟩
end Go.Proofs.Qxb6500350aGreat
