/- MADE BY PROGRAM (tools350/mir.py): mirror and walk. -/
import Derived.Test.Qxb6500350aGreatF2
import Derived.Test.Qxb6500350aGreatT273
set_option linter.unusedVariables false
set_option linter.unusedSimpArgs false
set_option maxRecDepth 20000
set_option maxHeartbeats 4000000
namespace Go.Proofs.Qxb6500350aGreat
open Go.Eng

/- graph.commitBytes -/
def m213_w1 (n : Nat) (c_ : Com) (mm : Nat) : (List UInt8) → Int → Option ((List UInt8) × Int) := it2 (fun lp1 l3 c1 =>
cond (decide (c1 < c_.np)) (
Option.bind (ckA c1 2) fun _ =>
Option.bind (apd l3 (u8 (c_.par c1))) fun l5 =>
lp1 l5 (wi (c1 + 1))) (
some (l3, c1))) mm
def m213_w2 (n : Nat) (msg : Str) (mm : Nat) : (List UInt8) → Int → Option ((List UInt8) × Int) := it2 (fun lp2 l6 c3 =>
cond (decide (c3 < (msg.length : Int))) (
Option.bind (sIx msg c3) fun c5 =>
Option.bind (apd l6 c5) fun l8 =>
lp2 l8 (wi (c3 + 1))) (
some (l6, c3))) mm
def m213 (n : Nat) (c_ : Com) (msg : Str) : Option ((List UInt8)) :=
ob1 (m273 n ([] : List UInt8) c_.seq) fun l1 =>
Option.bind (apds l1 ([(u8 c_.tree), (u8 c_.np)] : List UInt8)) fun l2 =>
ob2 (m213_w1 n c_ n l2 0) fun l4 c2 =>
ob2 (m213_w2 n msg n l4 0) fun l7 c4 =>
some l7
theorem t213 {n : Nat} {C : List Chunk} {rl1 : List UInt8} {c_ : Com} {msg : Str}   (hm : m213 n c_ msg = some rl1) : Trip Tryz.prog 213 #[.agg (Com.enc c_).toArray, .string ⟨(msg : Str).toArray⟩] ([] ++ [C]) (fun u S' => ∃ (ev1 : Value), ∃ (eg1 : List Chunk), ev1 = u ∧ S' = [eg1] ++ [C] ∧ Own rByte ev1 rl1 eg1) := by
  refine fn_entry (args := [.agg (Com.enc c_).toArray, .string ⟨(msg : Str).toArray⟩]) Tryz.func213 rfl Tryz.ntmps213 rfl (fun w0 => ?_)
  refine c_seq ?_
  refine c_region ?_
  refine o_box rfl rfl rfl rfl (fun b1 => ?_)
  have ho1 : Own rByte (.slice none 0 0) [] [] := Own.nil
  refine o_emp ?_
  refine o_L (y_assign rfl) rfl rfl ?_
  refine o_nil0 rfl ?_
  refine c_seq ?_
  refine c_region ?_
  have ho2 : Own rByte (.slice none 0 0) [] [] := Own.nil
  refine o_emp ?_
  refine o_L (y_assign rfl) rfl rfl ?_
  refine o_nil0 rfl ?_
  refine c_seq ?_
  refine c_region ?_
  refine o_T (y_move rfl) rfl ?_
  refine o_T (y_fa fl_172_1 rfl) rfl ?_
  refine o_ld one_3 rfl (ms (ms m0)) (At.got (At.refl.comp Com.a_seq)) rfl ?_
  obtain ⟨l1, hx1, hm⟩ := bd1 hm
  refine o_callC en_273 rfl (s_take s_nil) (t273 ho2 hx1) rfl (fun u1 S1 hR1 => ?_)
  obtain ⟨v1, g1, rfl, rfl, ho3⟩ := hR1
  refine o_rest ?_
  refine o_L (y_assign rfl) rfl rfl ?_
  refine o_nil0 rfl ?_
  refine c_seq ?_
  refine c_region ?_
  refine o_T (y_move rfl) rfl ?_
  refine o_T (y_fa fl_172_2 rfl) rfl ?_
  refine o_ld one_3 rfl (ms (ms m0)) (At.got (At.refl.comp Com.a_tree)) rfl ?_
  refine o_T (y_conv Tryz.underlying3 Tryz.underlying5 rfl (u8_eq _)) rfl ?_
  refine o_T (y_fa fl_172_3 rfl) rfl ?_
  refine o_ld one_3 rfl (ms (ms m0)) (At.got (At.refl.comp Com.a_np)) rfl ?_
  refine o_T (y_conv Tryz.underlying3 Tryz.underlying5 rfl (u8_eq _)) rfl ?_
  refine o_lit2 (R := rByte) sz_81 rfl rfl rfl (show rByte.rd [] [.int .u8 ((u8 c_.tree).toNat : Int)] (u8 c_.tree) from rfl) (show rByte.rd [] [.int .u8 ((u8 c_.np).toNat : Int)] (u8 c_.np) from rfl) rfl (fun b2 => ?_)
  obtain ⟨l2, hx2, hm⟩ := bd hm
  refine o_appRs (R := rByte) (m := [(u8 c_.tree), (u8 c_.np)]) sz_81 rfl rfl rfl rfl ho3 ⟨[_], _, rfl, rfl, ⟨[_], _, rfl, rfl, rfl⟩⟩ rfl (Nat.le_refl _) hx2 (s_get (ks k0) (s_take s_nil)) rfl (fun v2 g2 ho4 => ?_)
  refine o_L (y_assign rfl) rfl rfl ?_
  refine o_nil0 rfl ?_
  refine c_seq ?_
  refine c_seq ?_
  refine c_region ?_
  refine o_L (y_assign rfl) rfl rfl ?_
  refine o_nil0 rfl ?_
  obtain ⟨l4, c2, hj1, hm⟩ := bd2 hm
  refine c_joinP (n := 1) (fun sh G => ∃ (v4 : Value), ∃ (g4 : List Chunk), sh = [(5, v4), (6, .int .i64 c2)] ∧ G = [g4] ∧ Own rByte v4 l4 g4) (s_take (s_skip (s_take (s_take s_nil)))) (.s .z) (fun _ _ h => h) ?_ ?_
  · skip
    refine c_block ?_
    refine c_loopP (n := 1) (fun mm sh G => ∃ (l3 : List UInt8), ∃ (c1 : Int), ∃ (v3 : Value), ∃ (g3 : List Chunk), sh = [(5, v3), (6, .int .i64 c1)] ∧ G = [g3] ∧ m213_w1 n c_ mm l3 c1 = some (l4, c2) ∧ Own rByte v3 l3 g3) n (s_take (s_skip (s_take (s_take s_nil)))) (.s .z) ⟨_, _, ⟨_, _, v2, _, rfl, rfl, hj1, ho4⟩, ⟨rfl, rfl, trivial⟩, _, (s_take (s_skip (s_take (s_take s_nil))))⟩ ?_
    rintro mm sh G ⟨l3, c1, v3, g3, rfl, rfl, hm, ho5⟩
    obtain ⟨mm1, rfl, hm⟩ := it2_s hm
    refine c_seq ?_
    refine c_seq ?_
    refine c_region ?_
    refine o_T (y_move rfl) rfl ?_
    refine o_T (y_fa fl_172_3 rfl) rfl ?_
    refine o_ld one_3 rfl (ms m0) (At.got (At.refl.comp Com.a_np)) rfl ?_
    refine o_T (y_lss rfl rfl) rfl ?_
    refine o_nil1 24 rfl rfl ?_
    refine c_cond rfl (fun h1 => ?_) (fun h1 => ?_)
    · have hm := cd_t h1 hm
      refine c_skip ?_
      refine c_seq ?_
      refine c_block ?_
      refine c_region ?_
      refine o_T (y_move rfl) rfl ?_
      refine o_T (y_move rfl) rfl ?_
      refine o_T (y_fa fl_172_4 rfl) rfl ?_
      obtain ⟨_, hx3, hm⟩ := bd hm
      have hx3 := ckA_some hx3
      refine o_T (y_ia ar_170 rfl rfl hx3.1 hx3.2) rfl ?_
      refine o_ld one_3 rfl (ms m0) (At.got ((At.refl.comp Com.a_par).comp (encN_a encI_len _ _ hx3.1 _ hx3.2))) rfl ?_
      refine o_T (y_conv Tryz.underlying3 Tryz.underlying5 rfl (u8_eq _)) rfl ?_
      refine o_bs1 sz_81 rfl rfl rfl rfl rfl rfl (fun b3 => ?_)
      obtain ⟨l5, hx4, hm⟩ := bd hm
      refine o_appR (R := rByte) (a := (u8 (c_.par c1))) sz_81 rfl rfl rfl rfl ho5 rfl hx4 (Sel.e (s_get (ks k0) (s_take s_nil))) rfl (fun v5 g5 ho7 => ?_)
      refine o_L (y_assign rfl) rfl rfl ?_
      refine o_nil0 rfl ?_
      refine c_region ?_
      refine o_T (y_move rfl) rfl ?_
      refine o_T (y_add rfl rfl rfl) rfl ?_
      refine o_L (y_assign rfl) rfl rfl ?_
      refine o_nil0 rfl ?_
      exact ⟨mm1, Nat.lt_succ_self _, _, _, ⟨_, _, v5, _, rfl, rfl, hm, ho7⟩, ⟨rfl, rfl, trivial⟩, ⟨rfl, rfl⟩, _, (s_take (s_take (s_take s_nil)))⟩
    · have hm := cd_f h1 hm
      refine c_exit ?_
      obtain ⟨rfl, rfl⟩ := pr2 hm
      exact ⟨_, _, ⟨v3, _, rfl, rfl, ho5⟩, ⟨rfl, rfl, trivial⟩, ⟨rfl, rfl⟩, _, (s_take (s_take (s_take s_nil)))⟩
  · rintro sh G ⟨v4, g4, rfl, rfl, ho6⟩
    refine c_seq ?_
    refine c_seq ?_
    refine c_region ?_
    refine o_L (y_assign rfl) rfl rfl ?_
    refine o_nil0 rfl ?_
    obtain ⟨l7, c4, hj2, hm⟩ := bd2 hm
    refine c_joinP (n := 1) (fun sh G => ∃ (v7 : Value), ∃ (g7 : List Chunk), sh = [(5, v7), (7, .int .i64 c4)] ∧ G = [g7] ∧ Own rByte v7 l7 g7) (s_take (s_skip (s_take s_nil))) (.s .z) (fun _ _ h => h) ?_ ?_
    · skip
      refine c_block ?_
      refine c_loopP (n := 1) (fun mm sh G => ∃ (l6 : List UInt8), ∃ (c3 : Int), ∃ (v6 : Value), ∃ (g6 : List Chunk), sh = [(5, v6), (7, .int .i64 c3)] ∧ G = [g6] ∧ m213_w2 n msg mm l6 c3 = some (l7, c4) ∧ Own rByte v6 l6 g6) n (s_take (s_skip (s_take s_nil))) (.s .z) ⟨_, _, ⟨_, _, v4, _, rfl, rfl, hj2, ho6⟩, ⟨rfl, rfl, trivial⟩, _, (s_take (s_skip (s_take s_nil)))⟩ ?_
      rintro mm sh G ⟨l6, c3, v6, g6, rfl, rfl, hm, ho8⟩
      obtain ⟨mm2, rfl, hm⟩ := it2_s hm
      refine c_seq ?_
      refine c_seq ?_
      refine c_region ?_
      refine o_T (y_move rfl) rfl ?_
      refine o_T (y_move rfl) rfl ?_
      refine o_T (y_slen Tryz.underlying9 rfl) rfl ?_
      refine o_T (y_lss rfl rfl) rfl ?_
      refine o_nil1 38 rfl rfl ?_
      refine c_cond rfl (fun h2 => ?_) (fun h2 => ?_)
      · have hm := cd_t h2 hm
        refine c_skip ?_
        refine c_seq ?_
        refine c_block ?_
        refine c_region ?_
        refine o_T (y_move rfl) rfl ?_
        refine o_T (y_move rfl) rfl ?_
        refine o_T (y_move rfl) rfl ?_
        obtain ⟨c5, hx5, hm⟩ := bd hm
        refine o_T (y_sidx Tryz.underlying9 rfl rfl hx5) rfl ?_
        refine o_bs1 sz_81 rfl rfl rfl rfl rfl rfl (fun b4 => ?_)
        obtain ⟨l8, hx6, hm⟩ := bd hm
        refine o_appR (R := rByte) (a := c5) sz_81 rfl rfl rfl rfl ho8 rfl hx6 (Sel.e (s_get (ks k0) (s_take s_nil))) rfl (fun v8 g8 ho10 => ?_)
        refine o_L (y_assign rfl) rfl rfl ?_
        refine o_nil0 rfl ?_
        refine c_region ?_
        refine o_T (y_move rfl) rfl ?_
        refine o_T (y_add rfl rfl rfl) rfl ?_
        refine o_L (y_assign rfl) rfl rfl ?_
        refine o_nil0 rfl ?_
        exact ⟨mm2, Nat.lt_succ_self _, _, _, ⟨_, _, v8, _, rfl, rfl, hm, ho10⟩, ⟨rfl, rfl, trivial⟩, ⟨rfl, rfl⟩, _, (s_take (s_take s_nil))⟩
      · have hm := cd_f h2 hm
        refine c_exit ?_
        obtain ⟨rfl, rfl⟩ := pr2 hm
        exact ⟨_, _, ⟨v6, _, rfl, rfl, ho8⟩, ⟨rfl, rfl, trivial⟩, ⟨rfl, rfl⟩, _, (s_take (s_take s_nil))⟩
    · rintro sh G ⟨v7, g7, rfl, rfl, ho9⟩
      refine c_seq ?_
      refine c_region ?_
      refine o_T (y_move rfl) rfl ?_
      refine o_L (y_assign rfl) rfl rfl ?_
      refine o_nil0 rfl ?_
      refine c_ret ?_
      obtain rfl := p1 hm
      refine fun aX wX heX hsX => ret1 Tryz.results213 heX rfl (s_take (s_take s_nil)) ?_
      exact ⟨v7, _, rfl, rfl, ho9⟩
end Go.Proofs.Qxb6500350aGreat
