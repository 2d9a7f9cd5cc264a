/- MADE BY PROGRAM (tools350/mir.py): mirror and walk. -/
import Derived.Test.Qxb6500350aGreatF2
set_option linter.unusedVariables false
set_option linter.unusedSimpArgs false
set_option maxRecDepth 20000
set_option maxHeartbeats 4000000
namespace Go.Proofs.Qxb6500350aGreat
open Go.Eng

/- api.Itoa -/
def m286_w1 (n : Nat) (mm : Nat) : Int → Int → ((Int → UInt8)) → Option (Int × Int × ((Int → UInt8))) := it3 (fun lp1 c1 c2 z1 =>
cond (decide (¬ (c1 = 0))) (
cond (decide ((Int.tmod c1 10) < 0)) (
Option.bind (ckA (wi (c2 - 1)) 24) fun _ =>
nm ((upI z1 (wi (c2 - 1)) (u8 (wi (48 + (wi (0 - (Int.tmod c1 10))))))) : (Int → UInt8)) fun z3 =>
lp1 (wi (Int.tdiv c1 10)) (wi (c2 - 1)) z3) (
Option.bind (ckA (wi (c2 - 1)) 24) fun _ =>
nm ((upI z1 (wi (c2 - 1)) (u8 (wi (48 + (Int.tmod c1 10))))) : (Int → UInt8)) fun z4 =>
lp1 (wi (Int.tdiv c1 10)) (wi (c2 - 1)) z4)) (
some (c1, c2, z1))) mm
def m286 (n : Nat) (n_ : Int) : Option (Str) :=
cond (decide (n_ = 0)) (
some [48]) (
ob3 (m286_w1 n n n_ 24 (fun _ => 0)) fun c3 c4 z2 =>
cond (decide (n_ < 0)) (
Option.bind (ckA (wi (c4 - 1)) 24) fun _ =>
nm ((upI z2 (wi (c4 - 1)) (45 : UInt8)) : (Int → UInt8)) fun z5 =>
Option.bind (slA z5 24 (wi (c4 - 1))) fun l1 =>
some l1) (
Option.bind (slA z2 24 c4) fun l2 =>
some l2))
theorem t286 {n : Nat} {C : List Chunk} {rc1 : Str} {n_ : Int}   (hm : m286 n n_ = some rc1) : Trip Tryz.prog 286 #[.int .i64 n_] ([] ++ [C]) (fun u S' => .string ⟨(rc1 : Str).toArray⟩ = u ∧ S' = [] ++ [C]) := by
  refine fn_entry (args := [.int .i64 n_]) Tryz.func286 rfl Tryz.ntmps286 rfl (fun w0 => ?_)
  refine c_seq ?_
  refine c_region ?_
  refine o_L (y_assign rfl) rfl rfl ?_
  refine o_nil0 rfl ?_
  refine c_seq ?_
  refine c_seq ?_
  refine c_region ?_
  refine o_T (y_move rfl) rfl ?_
  refine o_T (y_eql rfl rfl) rfl ?_
  refine o_nil1 8 rfl rfl ?_
  refine c_cond rfl (fun h1 => ?_) (fun h1 => ?_)
  · have hm := cd_t h1 hm
    refine c_seq ?_
    refine c_region ?_
    refine o_L (y_assign rfl) rfl rfl ?_
    refine o_nil0 rfl ?_
    refine c_ret ?_
    obtain rfl := p1 hm
    refine fun aX wX heX hsX => ret1 Tryz.results286 heX rfl (s_take s_nil) ?_
    exact ⟨rfl, rfl⟩
  · have hm := cd_f h1 hm
    refine c_skip ?_
    refine c_seq ?_
    refine c_region ?_
    refine o_T (y_move rfl) rfl ?_
    refine o_T (y_lss rfl rfl) rfl ?_
    refine o_L (y_assign rfl) rfl rfl ?_
    refine o_nil0 rfl ?_
    refine c_seq ?_
    refine c_region ?_
    refine o_alloc ze_314 rfl rfl (fun b1 => ?_)
    refine o_nil0 rfl ?_
    refine c_seq ?_
    refine c_region ?_
    refine o_L (y_assign rfl) rfl rfl ?_
    refine o_nil0 rfl ?_
    refine c_seq ?_
    obtain ⟨c3, c4, z2, hj1, hm⟩ := bd3 hm
    refine c_joinP (n := 1) (fun sh G => sh = [(0, .int .i64 c3), (5, .int .i64 c4)] ∧ G = [[(b1, .cells (encN enc8 z2 24).toArray 314 (0, 0))]]) (s_take (s_take s_nil)) (.s .z) (fun _ _ h => h) ?_ ?_
    · skip
      refine c_block ?_
      refine c_loopP (n := 1) (fun mm sh G => ∃ (c1 : Int), ∃ (c2 : Int), ∃ (z1 : (Int → UInt8)), sh = [(0, .int .i64 c1), (5, .int .i64 c2)] ∧ G = [[(b1, .cells (encN enc8 z1 24).toArray 314 (0, 0))]] ∧ m286_w1 n mm c1 c2 z1 = some (c3, c4, z2)) n (s_take (s_take s_nil)) (.s .z) ⟨_, _, ⟨_, _, _, rfl, rfl, hj1⟩, ⟨rfl, rfl, trivial⟩, _, (s_take (s_take s_nil))⟩ ?_
      rintro mm sh G ⟨c1, c2, z1, rfl, rfl, hm⟩
      obtain ⟨mm1, rfl, hm⟩ := it3_s hm
      refine c_seq ?_
      refine c_seq ?_
      refine c_region ?_
      refine o_T (y_move rfl) rfl ?_
      refine o_T (y_neq rfl rfl) rfl ?_
      refine o_nil1 12 rfl rfl ?_
      refine c_cond rfl (fun h2 => ?_) (fun h2 => ?_)
      · have hm := cd_t h2 hm
        refine c_skip ?_
        refine c_block ?_
        refine c_seq ?_
        refine c_region ?_
        refine o_T (y_move rfl) rfl ?_
        refine o_T (y_rem rfl rfl (by decide) rfl) rfl ?_
        refine o_L (y_assign rfl) rfl rfl ?_
        refine o_nil0 rfl ?_
        refine c_seq ?_
        refine c_seq ?_
        refine c_region ?_
        refine o_T (y_move rfl) rfl ?_
        refine o_T (y_lss rfl rfl) rfl ?_
        refine o_nil1 16 rfl rfl ?_
        refine c_cond rfl (fun h3 => ?_) (fun h3 => ?_)
        · have hm := cd_t h3 hm
          refine c_region ?_
          refine o_T (y_move rfl) rfl ?_
          refine o_T (y_neg rfl rfl) rfl ?_
          refine o_L (y_assign rfl) rfl rfl ?_
          refine o_nil0 rfl ?_
          refine c_seq ?_
          refine c_region ?_
          refine o_T (y_move rfl) rfl ?_
          refine o_T (y_sub rfl rfl rfl) rfl ?_
          refine o_L (y_assign rfl) rfl rfl ?_
          refine o_nil0 rfl ?_
          refine c_seq ?_
          refine c_region ?_
          refine o_T (y_move rfl) rfl ?_
          refine o_T (y_move rfl) rfl ?_
          refine o_T (y_add rfl rfl rfl) rfl ?_
          refine o_T (y_conv Tryz.underlying3 Tryz.underlying5 rfl (u8_eq _)) rfl ?_
          obtain ⟨_, hx1, hm⟩ := bd hm
          have hx1 := ckA_some hx1
          refine o_T (y_ia ar_314 rfl rfl hx1.1 hx1.2) rfl ?_
          obtain ⟨z3, hn1, hm⟩ := nm_s hm
          refine o_stN one_5 rfl rfl rfl (Upd.z (encN_u enc8_len _ _ _ hx1.1 _ hx1.2)) r0 (show (encN enc8 z3 24) = _ from by subst hn1; rfl) ?_
          refine o_nil0 rfl ?_
          refine c_region ?_
          refine o_T (y_move rfl) rfl ?_
          refine o_T (y_quo rfl rfl (by decide) rfl) rfl ?_
          refine o_L (y_assign rfl) rfl rfl ?_
          refine o_nil0 rfl ?_
          exact ⟨mm1, Nat.lt_succ_self _, _, _, ⟨_, _, _, rfl, rfl, hm⟩, ⟨rfl, rfl, trivial⟩, ⟨rfl, rfl⟩, _, (s_take (s_take s_nil))⟩
        · have hm := cd_f h3 hm
          refine c_skip ?_
          refine c_seq ?_
          refine c_region ?_
          refine o_T (y_move rfl) rfl ?_
          refine o_T (y_sub rfl rfl rfl) rfl ?_
          refine o_L (y_assign rfl) rfl rfl ?_
          refine o_nil0 rfl ?_
          refine c_seq ?_
          refine c_region ?_
          refine o_T (y_move rfl) rfl ?_
          refine o_T (y_move rfl) rfl ?_
          refine o_T (y_add rfl rfl rfl) rfl ?_
          refine o_T (y_conv Tryz.underlying3 Tryz.underlying5 rfl (u8_eq _)) rfl ?_
          obtain ⟨_, hx2, hm⟩ := bd hm
          have hx2 := ckA_some hx2
          refine o_T (y_ia ar_314 rfl rfl hx2.1 hx2.2) rfl ?_
          obtain ⟨z4, hn2, hm⟩ := nm_s hm
          refine o_stN one_5 rfl rfl rfl (Upd.z (encN_u enc8_len _ _ _ hx2.1 _ hx2.2)) r0 (show (encN enc8 z4 24) = _ from by subst hn2; rfl) ?_
          refine o_nil0 rfl ?_
          refine c_region ?_
          refine o_T (y_move rfl) rfl ?_
          refine o_T (y_quo rfl rfl (by decide) rfl) rfl ?_
          refine o_L (y_assign rfl) rfl rfl ?_
          refine o_nil0 rfl ?_
          exact ⟨mm1, Nat.lt_succ_self _, _, _, ⟨_, _, _, rfl, rfl, hm⟩, ⟨rfl, rfl, trivial⟩, ⟨rfl, rfl⟩, _, (s_take (s_take s_nil))⟩
      · have hm := cd_f h2 hm
        refine c_exit ?_
        obtain ⟨rfl, rfl, rfl⟩ := pr3 hm
        exact ⟨_, _, ⟨rfl, rfl⟩, ⟨rfl, rfl, trivial⟩, ⟨rfl, rfl⟩, _, (s_take (s_take s_nil))⟩
    · rintro sh G ⟨rfl, rfl⟩
      refine c_seq ?_
      refine c_seq ?_
      refine c_region ?_
      refine o_T (y_move rfl) rfl ?_
      refine o_nil1 28 rfl rfl ?_
      refine c_cond rfl (fun h4 => ?_) (fun h4 => ?_)
      · have hm := cd_t h4 hm
        refine c_seq ?_
        refine c_region ?_
        refine o_T (y_move rfl) rfl ?_
        refine o_T (y_sub rfl rfl rfl) rfl ?_
        refine o_L (y_assign rfl) rfl rfl ?_
        refine o_nil0 rfl ?_
        refine c_region ?_
        refine o_T (y_move rfl) rfl ?_
        obtain ⟨_, hx3, hm⟩ := bd hm
        have hx3 := ckA_some hx3
        refine o_T (y_ia ar_314 rfl rfl hx3.1 hx3.2) rfl ?_
        obtain ⟨z5, hn3, hm⟩ := nm_s hm
        refine o_stN one_5 rfl rfl rfl (Upd.z (encN_u enc8_len _ (45 : UInt8) _ hx3.1 _ hx3.2)) r0 (show (encN enc8 z5 24) = _ from by subst hn3; rfl) ?_
        refine o_nil0 rfl ?_
        refine c_seq ?_
        refine c_region ?_
        refine o_T (y_move rfl) rfl ?_
        obtain ⟨l1, hx4, hm⟩ := bd hm
        obtain ⟨v1, hr1, hy1⟩ := arr_sl (b := b1) (t := 314) hx4
        refine o_T (hy1 ar_314 rfl (biS rfl)) rfl ?_
        refine o_b2s Tryz.underlying81 Tryz.underlying5 Tryz.underlying9 rfl hr1 (fun _ hz => (mg hz)) rfl ?_
        refine o_L (y_assign rfl) rfl rfl ?_
        refine o_nil0 rfl ?_
        refine c_ret ?_
        obtain rfl := p1 hm
        refine fun aX wX heX hsX => ret1 Tryz.results286 heX rfl (s_skip (s_take s_nil)) ?_
        exact ⟨rfl, rfl⟩
      · have hm := cd_f h4 hm
        refine c_skip ?_
        refine c_seq ?_
        refine c_region ?_
        refine o_T (y_move rfl) rfl ?_
        obtain ⟨l2, hx5, hm⟩ := bd hm
        obtain ⟨v2, hr2, hy2⟩ := arr_sl (b := b1) (t := 314) hx5
        refine o_T (hy2 ar_314 rfl (biS rfl)) rfl ?_
        refine o_b2s Tryz.underlying81 Tryz.underlying5 Tryz.underlying9 rfl hr2 (fun _ hz => (mg hz)) rfl ?_
        refine o_L (y_assign rfl) rfl rfl ?_
        refine o_nil0 rfl ?_
        refine c_ret ?_
        obtain rfl := p1 hm
        refine fun aX wX heX hsX => ret1 Tryz.results286 heX rfl (s_skip (s_take s_nil)) ?_
        exact ⟨rfl, rfl⟩
end Go.Proofs.Qxb6500350aGreat
