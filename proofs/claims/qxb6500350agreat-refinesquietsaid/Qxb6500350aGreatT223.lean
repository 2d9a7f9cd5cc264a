/- MADE BY PROGRAM (tools350/mir.py): mirror and walk. -/
import Derived.Test.Qxb6500350aGreatF2
import Derived.Test.Qxb6500350aGreatT222
set_option linter.unusedVariables false
set_option linter.unusedSimpArgs false
set_option maxRecDepth 20000
set_option maxHeartbeats 4000000
namespace Go.Proofs.Qxb6500350aGreat
open Go.Eng

/- (*graph.Graph).up -/
def m223_w2 (n : Nat) (g : Graph) (c2 : Int) (mm : Nat) : Int → Int → Option (Int × Int) := it2 (fun lp2 c6 c7 =>
Option.bind (ckA (g.order c2) 49) fun _ =>
cond (decide (c7 < (g.com (g.order c2)).np)) (
Option.bind (ckA (g.order c2) 49) fun _ =>
Option.bind (ckA c7 2) fun _ =>
ob1 (m222 n ((g.com (g.order c2)).par c7)) fun c10 =>
lp2 (bOr .u64 c6 c10) (wi (c7 + 1))) (
some (c6, c7))) mm
def m223_w1 (n : Nat) (g : Graph) (mm : Nat) : Int → Int → Option (Int × Int) := it2 (fun lp1 c1 c2 =>
cond (decide ((0 : Int) ≤ c2)) (
Option.bind (ckA c2 48) fun _ =>
ob1 (m222 n (g.order c2)) fun c5 =>
cond (decide (¬ ((bAnd .u64 c1 c5) = 0))) (
ob2 (m223_w2 n g c2 n c1 0) fun c8 c9 =>
lp1 c8 (wi (c2 - 1))) (
lp1 c1 (wi (c2 - 1)))) (
some (c1, c2))) mm
def m223 (n : Nat) (g : Graph) (set : Int) : Option (Int) :=
ob2 (m223_w1 n g n set (wi (g.n - 1))) fun c3 c4 =>
some c3
theorem t223 {n : Nat} {C : List Chunk} {rc1 : Int} {b1 : Nat} {g : Graph} {q1 : Option Addr} {set : Int}   (hm : m223 n g set = some rc1) : Trip Tryz.prog 223 #[.pointer (some ⟨b1, 0, none⟩), .int .u64 set] ([[(b1, .cells (Graph.enc ((.pointer q1)) g).toArray 179 (0, 0))]] ++ [C]) (fun u S' => .int .u64 rc1 = u ∧ S' = [[(b1, .cells (Graph.enc ((.pointer q1)) g).toArray 179 (0, 0))]] ++ [C]) := by
  refine fn_entry (args := [.pointer (some ⟨b1, 0, none⟩), .int .u64 set]) Tryz.func223 rfl Tryz.ntmps223 rfl (fun w0 => ?_)
  refine c_seq ?_
  refine c_region ?_
  refine o_L (y_assign rfl) rfl rfl ?_
  refine o_nil0 rfl ?_
  refine c_seq ?_
  refine c_seq ?_
  refine c_region ?_
  refine o_T (y_move rfl) rfl ?_
  refine o_T (y_nilck rfl) rfl ?_
  refine o_T (y_fa fl_179_3 rfl) rfl ?_
  refine o_ld one_3 rfl m0 (At.got (At.refl.comp Graph.a_n)) rfl ?_
  refine o_T (y_sub rfl rfl rfl) rfl ?_
  refine o_L (y_assign rfl) rfl rfl ?_
  refine o_nil0 rfl ?_
  obtain ⟨c3, c4, hj1, hm⟩ := bd2 hm
  refine c_joinP (n := 0) (fun sh G => sh = [(1, .int .u64 c3), (5, .int .i64 c4)] ∧ G = []) (s_take (s_take s_nil)) .z (fun _ _ h => h) ?_ ?_
  · skip
    refine c_block ?_
    refine c_loopP (n := 0) (fun mm sh G => ∃ (c1 : Int), ∃ (c2 : Int), sh = [(1, .int .u64 c1), (5, .int .i64 c2)] ∧ G = [] ∧ m223_w1 n g mm c1 c2 = some (c3, c4)) n (s_take (s_take s_nil)) .z ⟨_, _, ⟨_, _, rfl, rfl, hj1⟩, ⟨rfl, rfl, trivial⟩, _, (s_take (s_take s_nil))⟩ ?_
    rintro mm sh G ⟨c1, c2, rfl, rfl, hm⟩
    obtain ⟨mm1, rfl, hm⟩ := it2_s hm
    refine c_seq ?_
    refine c_seq ?_
    refine c_region ?_
    refine o_T (y_move rfl) rfl ?_
    refine o_T (y_geq rfl rfl) rfl ?_
    refine o_nil1 14 rfl rfl ?_
    refine c_cond rfl (fun h1 => ?_) (fun h1 => ?_)
    · have hm := cd_t h1 hm
      refine c_skip ?_
      refine c_seq ?_
      refine c_block ?_
      refine c_seq ?_
      refine c_region ?_
      refine o_T (y_move rfl) rfl ?_
      refine o_T (y_move rfl) rfl ?_
      refine o_T (y_nilck rfl) rfl ?_
      refine o_T (y_fa fl_179_2 rfl) rfl ?_
      obtain ⟨_, hx1, hm⟩ := bd hm
      have hx1 := ckA_some hx1
      refine o_T (y_ia ar_174 rfl rfl hx1.1 hx1.2) rfl ?_
      refine o_ld one_3 rfl m0 (At.got ((At.refl.comp Graph.a_order).comp (encN_a encI_len _ _ hx1.1 _ hx1.2))) rfl ?_
      refine o_L (y_assign rfl) rfl rfl ?_
      refine o_nil0 rfl ?_
      refine c_seq ?_
      refine c_region ?_
      refine o_T (y_move rfl) rfl ?_
      refine o_T (y_move rfl) rfl ?_
      obtain ⟨c5, hx2, hm⟩ := bd1 hm
      refine o_callC en_222 rfl s_nil (t222 hx2) rfl (fun u1 S1 hR1 => ?_)
      obtain ⟨rfl, rfl⟩ := hR1
      refine o_rest ?_
      refine o_T (y_and rfl rfl rfl) rfl ?_
      refine o_T (y_neq rfl rfl) rfl ?_
      refine o_nil1 27 rfl rfl ?_
      refine c_cond rfl (fun h2 => ?_) (fun h2 => ?_)
      · have hm := cd_t h2 hm
        refine c_seq ?_
        refine c_region ?_
        refine o_L (y_assign rfl) rfl rfl ?_
        refine o_nil0 rfl ?_
        obtain ⟨c8, c9, hj2, hm⟩ := bd2 hm
        refine c_joinP (n := 0) (fun sh G => sh = [(1, .int .u64 c8), (7, .int .i64 c9)] ∧ G = []) (s_take (s_take s_nil)) .z (fun _ _ h => h) ?_ ?_
        · skip
          refine c_block ?_
          refine c_loopP (n := 0) (fun mm sh G => ∃ (c6 : Int), ∃ (c7 : Int), sh = [(1, .int .u64 c6), (7, .int .i64 c7)] ∧ G = [] ∧ m223_w2 n g c2 mm c6 c7 = some (c8, c9)) n (s_take (s_take s_nil)) .z ⟨_, _, ⟨_, _, rfl, rfl, hj2⟩, ⟨rfl, rfl, trivial⟩, _, (s_take (s_take s_nil))⟩ ?_
          rintro mm sh G ⟨c6, c7, rfl, rfl, hm⟩
          obtain ⟨mm2, rfl, hm⟩ := it2_s hm
          refine c_seq ?_
          refine c_seq ?_
          refine c_region ?_
          refine o_T (y_move rfl) rfl ?_
          refine o_T (y_move rfl) rfl ?_
          refine o_T (y_move rfl) rfl ?_
          refine o_T (y_nilck rfl) rfl ?_
          refine o_T (y_fa fl_179_1 rfl) rfl ?_
          obtain ⟨_, hx3, hm⟩ := bd hm
          have hx3 := ckA_some hx3
          refine o_T (y_ia ar_173 rfl rfl hx3.1 hx3.2) rfl ?_
          refine o_T (y_fa fl_172_3 rfl) rfl ?_
          refine o_ld one_3 rfl m0 (At.got (((At.refl.comp Graph.a_com).comp (encN_a Com.len _ _ hx3.1 _ hx3.2)).comp Com.a_np)) rfl ?_
          refine o_T (y_lss rfl rfl) rfl ?_
          refine o_nil1 36 rfl rfl ?_
          refine c_cond rfl (fun h3 => ?_) (fun h3 => ?_)
          · have hm := cd_t h3 hm
            refine c_skip ?_
            refine c_seq ?_
            refine c_block ?_
            refine c_region ?_
            refine o_T (y_move rfl) rfl ?_
            refine o_T (y_move rfl) rfl ?_
            refine o_T (y_move rfl) rfl ?_
            refine o_T (y_move rfl) rfl ?_
            refine o_T (y_nilck rfl) rfl ?_
            refine o_T (y_fa fl_179_1 rfl) rfl ?_
            obtain ⟨_, hx4, hm⟩ := bd hm
            have hx4 := ckA_some hx4
            refine o_T (y_ia ar_173 rfl rfl hx4.1 hx4.2) rfl ?_
            refine o_T (y_fa fl_172_4 rfl) rfl ?_
            obtain ⟨_, hx5, hm⟩ := bd hm
            have hx5 := ckA_some hx5
            refine o_T (y_ia ar_170 rfl rfl hx5.1 hx5.2) rfl ?_
            refine o_ld one_3 rfl m0 (At.got ((((At.refl.comp Graph.a_com).comp (encN_a Com.len _ _ hx4.1 _ hx4.2)).comp Com.a_par).comp (encN_a encI_len _ _ hx5.1 _ hx5.2))) rfl ?_
            obtain ⟨c10, hx6, hm⟩ := bd1 hm
            refine o_callC en_222 rfl s_nil (t222 hx6) rfl (fun u2 S2 hR2 => ?_)
            obtain ⟨rfl, rfl⟩ := hR2
            refine o_rest ?_
            refine o_T (y_or rfl rfl rfl) rfl ?_
            refine o_L (y_assign rfl) rfl rfl ?_
            refine o_nil0 rfl ?_
            refine c_region ?_
            refine o_T (y_move rfl) rfl ?_
            refine o_T (y_add rfl rfl rfl) rfl ?_
            refine o_L (y_assign rfl) rfl rfl ?_
            refine o_nil0 rfl ?_
            exact ⟨mm2, Nat.lt_succ_self _, _, _, ⟨_, _, rfl, rfl, hm⟩, ⟨rfl, rfl, trivial⟩, ⟨rfl, rfl⟩, _, (s_take (s_take s_nil))⟩
          · have hm := cd_f h3 hm
            refine c_exit ?_
            obtain ⟨rfl, rfl⟩ := pr2 hm
            exact ⟨_, _, ⟨rfl, rfl⟩, ⟨rfl, rfl, trivial⟩, ⟨rfl, rfl⟩, _, (s_take (s_take s_nil))⟩
        · rintro sh G ⟨rfl, rfl⟩
          refine c_region ?_
          refine o_T (y_move rfl) rfl ?_
          refine o_T (y_sub rfl rfl rfl) rfl ?_
          refine o_L (y_assign rfl) rfl rfl ?_
          refine o_nil0 rfl ?_
          exact ⟨mm1, Nat.lt_succ_self _, _, _, ⟨_, _, rfl, rfl, hm⟩, ⟨rfl, rfl, trivial⟩, ⟨rfl, rfl⟩, _, (s_take (s_take s_nil))⟩
      · have hm := cd_f h2 hm
        refine c_skip ?_
        refine c_region ?_
        refine o_T (y_move rfl) rfl ?_
        refine o_T (y_sub rfl rfl rfl) rfl ?_
        refine o_L (y_assign rfl) rfl rfl ?_
        refine o_nil0 rfl ?_
        exact ⟨mm1, Nat.lt_succ_self _, _, _, ⟨_, _, rfl, rfl, hm⟩, ⟨rfl, rfl, trivial⟩, ⟨rfl, rfl⟩, _, (s_take (s_take s_nil))⟩
    · have hm := cd_f h1 hm
      refine c_exit ?_
      obtain ⟨rfl, rfl⟩ := pr2 hm
      exact ⟨_, _, ⟨rfl, rfl⟩, ⟨rfl, rfl, trivial⟩, ⟨rfl, rfl⟩, _, (s_take (s_take s_nil))⟩
  · rintro sh G ⟨rfl, rfl⟩
    refine c_seq ?_
    refine c_region ?_
    refine o_T (y_move rfl) rfl ?_
    refine o_L (y_assign rfl) rfl rfl ?_
    refine o_nil0 rfl ?_
    refine c_ret ?_
    obtain rfl := p1 hm
    refine fun aX wX heX hsX => ret1 Tryz.results223 heX rfl (s_take (s_take s_nil)) ?_
    exact ⟨rfl, rfl⟩
end Go.Proofs.Qxb6500350aGreat
