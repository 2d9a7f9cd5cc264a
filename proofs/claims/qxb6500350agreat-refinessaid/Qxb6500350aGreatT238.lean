/- MADE BY PROGRAM (tools350/mir.py): mirror and walk. -/
import Derived.Test.Qxb6500350aGreatF2
import Derived.Test.Qxb6500350aGreatT222
set_option linter.unusedVariables false
set_option linter.unusedSimpArgs false
set_option maxRecDepth 20000
set_option maxHeartbeats 4000000
namespace Go.Proofs.Qxb6500350aGreat
open Go.Eng

/- (*graph.Graph).forget -/
def m238_w1 (n : Nat) (keep : Int) (mm : Nat) : Int → Int → Graph → Option (Int × Int × Graph) := it3 (fun lp1 c1 c2 z1 =>
cond (decide (c2 < z1.n)) (
Option.bind (ckA c2 48) fun _ =>
ob1 (m222 n (z1.order c2)) fun c5 =>
cond (decide (¬ ((bAnd .u64 keep c5) = 0))) (
Option.bind (ckA c1 48) fun _ =>
nm ({ z1 with order := (upI z1.order c1 (z1.order c2)) } : Graph) fun z3 =>
lp1 (wi (c1 + 1)) (wi (c2 + 1)) z3) (
Option.bind (ckA (z1.order c2) 49) fun _ =>
nm ({ z1 with com := (upI z1.com (z1.order c2) Com.zero) } : Graph) fun z4 =>
lp1 c1 (wi (c2 + 1)) z4)) (
some (c1, c2, z1))) mm
def m238_w2 (n : Nat) (mm : Nat) : Int → Graph → Option (Int × Graph) := it2 (fun lp2 c6 z5 =>
cond (decide (c6 < z5.n)) (
Option.bind (ckA c6 48) fun _ =>
nm ({ z5 with order := (upI z5.order c6 0) } : Graph) fun z7 =>
lp2 (wi (c6 + 1)) z7) (
some (c6, z5))) mm
def m238 (n : Nat) (g : Graph) (keep : Int) : Option (Graph) :=
ob3 (m238_w1 n keep n 0 0 g) fun c3 c4 z2 =>
ob2 (m238_w2 n n c3 z2) fun c7 z6 =>
nm ({ z6 with n := c3 } : Graph) fun z8 =>
some z8
theorem t238 {n : Nat} {C : List Chunk} {rz1 : Graph} {b1 : Nat} {g : Graph} {q1 : Option Addr} {keep : Int}   (hm : m238 n g keep = some rz1) : Trip Tryz.prog 238 #[.pointer (some ⟨b1, 0, none⟩), .int .u64 keep] ([[(b1, .cells (Graph.enc ((.pointer q1)) g).toArray 179 (0, 0))]] ++ [C]) (fun u S' => .tuple #[] = u ∧ S' = [[(b1, .cells (Graph.enc ((.pointer q1)) rz1).toArray 179 (0, 0))]] ++ [C]) := by
  refine fn_entry (args := [.pointer (some ⟨b1, 0, none⟩), .int .u64 keep]) Tryz.func238 rfl Tryz.ntmps238 rfl (fun w0 => ?_)
  refine c_seq ?_
  refine c_region ?_
  refine o_L (y_assign rfl) rfl rfl ?_
  refine o_nil0 rfl ?_
  refine c_seq ?_
  refine c_seq ?_
  refine c_region ?_
  refine o_L (y_assign rfl) rfl rfl ?_
  refine o_nil0 rfl ?_
  obtain ⟨c3, c4, z2, hj1, hm⟩ := bd3 hm
  refine c_joinP (n := 1) (fun sh G => sh = [(4, .int .i64 c3), (5, .int .i64 c4)] ∧ G = [[(b1, .cells (Graph.enc ((.pointer q1)) z2).toArray 179 (0, 0))]]) (s_take (s_take s_nil)) (.s .z) (fun _ _ h => h) ?_ ?_
  · skip
    refine c_block ?_
    refine c_loopP (n := 1) (fun mm sh G => ∃ (c1 : Int), ∃ (c2 : Int), ∃ (z1 : Graph), sh = [(4, .int .i64 c1), (5, .int .i64 c2)] ∧ G = [[(b1, .cells (Graph.enc ((.pointer q1)) z1).toArray 179 (0, 0))]] ∧ m238_w1 n keep mm c1 c2 z1 = some (c3, c4, z2)) n (s_take (s_take s_nil)) (.s .z) ⟨_, _, ⟨_, _, _, rfl, rfl, hj1⟩, ⟨rfl, rfl, trivial⟩, _, (s_take (s_take s_nil))⟩ ?_
    rintro mm sh G ⟨c1, c2, z1, rfl, rfl, hm⟩
    obtain ⟨mm1, rfl, hm⟩ := it3_s hm
    refine c_seq ?_
    refine c_seq ?_
    refine c_region ?_
    refine o_T (y_move rfl) rfl ?_
    refine o_T (y_move rfl) rfl ?_
    refine o_T (y_nilck rfl) rfl ?_
    refine o_T (y_fa fl_179_3 rfl) rfl ?_
    refine o_ld one_3 rfl m0 (At.got (At.refl.comp Graph.a_n)) rfl ?_
    refine o_T (y_lss rfl rfl) rfl ?_
    refine o_nil1 13 rfl rfl ?_
    refine c_cond rfl (fun h1 => ?_) (fun h1 => ?_)
    · have hm := cd_t h1 hm
      refine c_skip ?_
      refine c_seq ?_
      refine c_block ?_
      refine c_seq ?_
      refine c_region ?_
      refine o_T (y_move rfl) rfl ?_
      refine o_T (y_move rfl) rfl ?_
      refine o_T (y_nilck rfl) rfl ?_
      refine o_T (y_fa fl_179_2 rfl) rfl ?_
      obtain ⟨_, hx1, hm⟩ := bd hm
      have hx1 := ckA_some hx1
      refine o_T (y_ia ar_174 rfl rfl hx1.1 hx1.2) rfl ?_
      refine o_ld one_3 rfl m0 (At.got ((At.refl.comp Graph.a_order).comp (encN_a encI_len _ _ hx1.1 _ hx1.2))) rfl ?_
      refine o_L (y_assign rfl) rfl rfl ?_
      refine o_nil0 rfl ?_
      refine c_seq ?_
      refine c_region ?_
      refine o_T (y_move rfl) rfl ?_
      refine o_T (y_move rfl) rfl ?_
      obtain ⟨c5, hx2, hm⟩ := bd1 hm
      refine o_callC en_222 rfl s_nil (t222 hx2) rfl (fun u1 S1 hR1 => ?_)
      obtain ⟨rfl, rfl⟩ := hR1
      refine o_rest ?_
      refine o_T (y_and rfl rfl rfl) rfl ?_
      refine o_T (y_neq rfl rfl) rfl ?_
      refine o_nil1 26 rfl rfl ?_
      refine c_cond rfl (fun h2 => ?_) (fun h2 => ?_)
      · have hm := cd_t h2 hm
        refine c_seq ?_
        refine c_region ?_
        refine o_T (y_move rfl) rfl ?_
        refine o_T (y_move rfl) rfl ?_
        refine o_T (y_move rfl) rfl ?_
        refine o_T (y_nilck rfl) rfl ?_
        refine o_T (y_fa fl_179_2 rfl) rfl ?_
        obtain ⟨_, hx3, hm⟩ := bd hm
        have hx3 := ckA_some hx3
        refine o_T (y_ia ar_174 rfl rfl hx3.1 hx3.2) rfl ?_
        obtain ⟨z3, hn1, hm⟩ := nm_s hm
        refine o_stN one_3 rfl rfl rfl ((Upd.z Graph.u_order).comp (encN_u encI_len _ _ _ hx3.1 _ hx3.2)) r0 (show (Graph.enc ((.pointer q1)) z3) = _ from by subst hn1; rfl) ?_
        refine o_nil0 rfl ?_
        refine c_region ?_
        refine o_T (y_move rfl) rfl ?_
        refine o_T (y_add rfl rfl rfl) rfl ?_
        refine o_L (y_assign rfl) rfl rfl ?_
        refine o_nil0 rfl ?_
        refine c_region ?_
        refine o_T (y_move rfl) rfl ?_
        refine o_T (y_add rfl rfl rfl) rfl ?_
        refine o_L (y_assign rfl) rfl rfl ?_
        refine o_nil0 rfl ?_
        exact ⟨mm1, Nat.lt_succ_self _, _, _, ⟨_, _, _, rfl, rfl, hm⟩, ⟨rfl, rfl, trivial⟩, ⟨rfl, rfl⟩, _, (s_take (s_take s_nil))⟩
      · have hm := cd_f h2 hm
        refine c_region ?_
        refine o_T (y_move rfl) rfl ?_
        refine o_T (y_move rfl) rfl ?_
        refine o_T (y_build st_172 rfl fbU0) rfl ?_
        refine o_T (y_nilck rfl) rfl ?_
        refine o_T (y_fa fl_179_1 rfl) rfl ?_
        obtain ⟨_, hx4, hm⟩ := bd hm
        have hx4 := ckA_some hx4
        refine o_T (y_ia ar_173 rfl rfl hx4.1 hx4.2) rfl ?_
        obtain ⟨z4, hn2, hm⟩ := nm_s hm
        refine o_stNA ag_172 rfl rfl (Com.plain _) (Com.len _) ((Upd.z Graph.u_com).comp (encN_u Com.len _ _ _ hx4.1 _ hx4.2)) r0 (show (Graph.enc ((.pointer q1)) z4) = _ from by subst hn2; rfl) ?_
        refine o_nil0 rfl ?_
        refine c_region ?_
        refine o_T (y_move rfl) rfl ?_
        refine o_T (y_add rfl rfl rfl) rfl ?_
        refine o_L (y_assign rfl) rfl rfl ?_
        refine o_nil0 rfl ?_
        exact ⟨mm1, Nat.lt_succ_self _, _, _, ⟨_, _, _, rfl, rfl, hm⟩, ⟨rfl, rfl, trivial⟩, ⟨rfl, rfl⟩, _, (s_take (s_take s_nil))⟩
    · have hm := cd_f h1 hm
      refine c_exit ?_
      obtain ⟨rfl, rfl, rfl⟩ := pr3 hm
      exact ⟨_, _, ⟨rfl, rfl⟩, ⟨rfl, rfl, trivial⟩, ⟨rfl, rfl⟩, _, (s_take (s_take s_nil))⟩
  · rintro sh G ⟨rfl, rfl⟩
    refine c_seq ?_
    refine c_seq ?_
    refine c_region ?_
    refine o_T (y_move rfl) rfl ?_
    refine o_L (y_assign rfl) rfl rfl ?_
    refine o_nil0 rfl ?_
    obtain ⟨c7, z6, hj2, hm⟩ := bd2 hm
    refine c_joinP (n := 1) (fun sh G => sh = [(7, .int .i64 c7)] ∧ G = [[(b1, .cells (Graph.enc ((.pointer q1)) z6).toArray 179 (0, 0))]]) (s_take (s_take s_nil)) (.s .z) (fun _ _ h => h) ?_ ?_
    · skip
      refine c_block ?_
      refine c_loopP (n := 1) (fun mm sh G => ∃ (c6 : Int), ∃ (z5 : Graph), sh = [(7, .int .i64 c6)] ∧ G = [[(b1, .cells (Graph.enc ((.pointer q1)) z5).toArray 179 (0, 0))]] ∧ m238_w2 n mm c6 z5 = some (c7, z6)) n (s_take (s_take s_nil)) (.s .z) ⟨_, _, ⟨_, _, rfl, rfl, hj2⟩, ⟨rfl, trivial⟩, _, (s_take (s_take s_nil))⟩ ?_
      rintro mm sh G ⟨c6, z5, rfl, rfl, hm⟩
      obtain ⟨mm2, rfl, hm⟩ := it2_s hm
      refine c_seq ?_
      refine c_seq ?_
      refine c_region ?_
      refine o_T (y_move rfl) rfl ?_
      refine o_T (y_move rfl) rfl ?_
      refine o_T (y_nilck rfl) rfl ?_
      refine o_T (y_fa fl_179_3 rfl) rfl ?_
      refine o_ld one_3 rfl m0 (At.got (At.refl.comp Graph.a_n)) rfl ?_
      refine o_T (y_lss rfl rfl) rfl ?_
      refine o_nil1 47 rfl rfl ?_
      refine c_cond rfl (fun h3 => ?_) (fun h3 => ?_)
      · have hm := cd_t h3 hm
        refine c_skip ?_
        refine c_seq ?_
        refine c_block ?_
        refine c_region ?_
        refine o_T (y_move rfl) rfl ?_
        refine o_T (y_move rfl) rfl ?_
        refine o_T (y_nilck rfl) rfl ?_
        refine o_T (y_fa fl_179_2 rfl) rfl ?_
        obtain ⟨_, hx5, hm⟩ := bd hm
        have hx5 := ckA_some hx5
        refine o_T (y_ia ar_174 rfl rfl hx5.1 hx5.2) rfl ?_
        obtain ⟨z7, hn3, hm⟩ := nm_s hm
        refine o_stN one_3 rfl rfl rfl ((Upd.z Graph.u_order).comp (encN_u encI_len _ _ _ hx5.1 _ hx5.2)) r0 (show (Graph.enc ((.pointer q1)) z7) = _ from by subst hn3; rfl) ?_
        refine o_nil0 rfl ?_
        refine c_region ?_
        refine o_T (y_move rfl) rfl ?_
        refine o_T (y_add rfl rfl rfl) rfl ?_
        refine o_L (y_assign rfl) rfl rfl ?_
        refine o_nil0 rfl ?_
        exact ⟨mm2, Nat.lt_succ_self _, _, _, ⟨_, _, rfl, rfl, hm⟩, ⟨rfl, trivial⟩, ⟨rfl, rfl⟩, _, (s_take (s_take s_nil))⟩
      · have hm := cd_f h3 hm
        refine c_exit ?_
        obtain ⟨rfl, rfl⟩ := pr2 hm
        exact ⟨_, _, ⟨rfl, rfl⟩, ⟨rfl, trivial⟩, ⟨rfl, rfl⟩, _, (s_take (s_take s_nil))⟩
    · rintro sh G ⟨rfl, rfl⟩
      refine c_region ?_
      refine o_T (y_move rfl) rfl ?_
      refine o_T (y_move rfl) rfl ?_
      refine o_T (y_nilck rfl) rfl ?_
      refine o_T (y_fa fl_179_3 rfl) rfl ?_
      obtain ⟨z8, hn4, hm⟩ := nm_s hm
      refine o_stN one_3 rfl rfl rfl (Upd.z Graph.u_n) r0 (show (Graph.enc ((.pointer q1)) z8) = _ from by subst hn4; rfl) ?_
      refine o_nil0 rfl ?_
      obtain rfl := p1 hm
      refine fun aX wX heX hsX => ret0 Tryz.results238 (s_take (s_take s_nil)) ?_
      exact ⟨rfl, rfl⟩
end Go.Proofs.Qxb6500350aGreat
