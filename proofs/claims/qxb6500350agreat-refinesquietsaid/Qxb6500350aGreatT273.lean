/- MADE BY PROGRAM (tools350/mir.py): mirror and walk. -/
import Derived.Test.Qxb6500350aGreatF2
set_option linter.unusedVariables false
set_option linter.unusedSimpArgs false
set_option maxRecDepth 20000
set_option maxHeartbeats 4000000
namespace Go.Proofs.Qxb6500350aGreat
open Go.Eng

/- graph.putSeq -/
def m273_w1 (n : Nat) (mm : Nat) : (List UInt8) → Int → Int → Option ((List UInt8) × Int × Int) := it3 (fun lp1 l1 c1 c2 =>
cond (decide (c2 < 8)) (
Option.bind (apd l1 (u8 c1)) fun l3 =>
lp1 l3 (Int.fdiv c1 (2 ^ (min (Int.toNat 8) (IntKind.bits .u64)))) (wi (c2 + 1))) (
some (l1, c1, c2))) mm
def m273 (n : Nat) (out : (List UInt8)) (seq : Int) : Option ((List UInt8)) :=
ob3 (m273_w1 n n out (wu seq) 0) fun l2 c3 c4 =>
some l2
theorem t273 {n : Nat} {C : List Chunk} {rl1 : List UInt8} {v1 : Value} {out : (List UInt8)} {g1 : List Chunk} {seq : Int} (ho1 : Own rByte v1 out g1)  (hm : m273 n out seq = some rl1) : Trip Tryz.prog 273 #[v1, .int .i64 seq] ([g1] ++ [C]) (fun u S' => ∃ (ev1 : Value), ∃ (eg1 : List Chunk), ev1 = u ∧ S' = [eg1] ++ [C] ∧ Own rByte ev1 rl1 eg1) := by
  refine fn_entry (args := [v1, .int .i64 seq]) Tryz.func273 rfl Tryz.ntmps273 rfl (fun w0 => ?_)
  refine c_seq ?_
  refine c_region ?_
  have ho2 : Own rByte (.slice none 0 0) [] [] := Own.nil
  refine o_emp ?_
  refine o_L (y_assign rfl) rfl rfl ?_
  refine o_nil0 rfl ?_
  refine c_seq ?_
  refine c_region ?_
  refine o_T (y_move rfl) rfl ?_
  refine o_T (y_conv Tryz.underlying3 Tryz.underlying123 rfl rfl) rfl ?_
  refine o_L (y_assign rfl) rfl rfl ?_
  refine o_nil0 rfl ?_
  refine c_seq ?_
  refine c_seq ?_
  refine c_region ?_
  refine o_L (y_assign rfl) rfl rfl ?_
  refine o_nil0 rfl ?_
  obtain ⟨l2, c3, c4, hj1, hm⟩ := bd3 hm
  refine c_joinP (n := 1) (fun sh G => ∃ (v3 : Value), ∃ (g3 : List Chunk), sh = [(0, v3), (5, .int .u64 c3), (6, .int .i64 c4)] ∧ G = [g3] ∧ Own rByte v3 l2 g3) (s_skip (s_take (s_take s_nil))) (.s .z) (fun _ _ h => h) ?_ ?_
  · skip
    refine c_block ?_
    refine c_loopP (n := 1) (fun mm sh G => ∃ (l1 : List UInt8), ∃ (c1 : Int), ∃ (c2 : Int), ∃ (v2 : Value), ∃ (g2 : List Chunk), sh = [(0, v2), (5, .int .u64 c1), (6, .int .i64 c2)] ∧ G = [g2] ∧ m273_w1 n mm l1 c1 c2 = some (l2, c3, c4) ∧ Own rByte v2 l1 g2) n (s_skip (s_take (s_take s_nil))) (.s .z) ⟨_, _, ⟨_, _, _, v1, _, rfl, rfl, hj1, ho1⟩, ⟨rfl, rfl, rfl, trivial⟩, _, (s_skip (s_take (s_take s_nil)))⟩ ?_
    rintro mm sh G ⟨l1, c1, c2, v2, g2, rfl, rfl, hm, ho3⟩
    obtain ⟨mm1, rfl, hm⟩ := it3_s hm
    refine c_seq ?_
    refine c_seq ?_
    refine c_region ?_
    refine o_T (y_move rfl) rfl ?_
    refine o_T (y_lss rfl rfl) rfl ?_
    refine o_nil1 10 rfl rfl ?_
    refine c_cond rfl (fun h1 => ?_) (fun h1 => ?_)
    · have hm := cd_t h1 hm
      refine c_skip ?_
      refine c_seq ?_
      refine c_block ?_
      refine c_seq ?_
      refine c_region ?_
      refine o_T (y_move rfl) rfl ?_
      refine o_T (y_move rfl) rfl ?_
      refine o_T (y_conv Tryz.underlying123 Tryz.underlying5 rfl (u8_eq _)) rfl ?_
      refine o_bs1 sz_81 rfl rfl rfl rfl rfl rfl (fun b1 => ?_)
      obtain ⟨l3, hx1, hm⟩ := bd hm
      refine o_appR (R := rByte) (a := (u8 c1)) sz_81 rfl rfl rfl rfl ho3 rfl hx1 (Sel.e (s_get (ks k0) (s_take s_nil))) rfl (fun v4 g4 ho5 => ?_)
      refine o_L (y_assign rfl) rfl rfl ?_
      refine o_nil0 rfl ?_
      refine c_region ?_
      refine o_T (y_move rfl) rfl ?_
      refine o_T (y_shr rfl rfl (by decide) rfl) rfl ?_
      refine o_L (y_assign rfl) rfl rfl ?_
      refine o_nil0 rfl ?_
      refine c_region ?_
      refine o_T (y_move rfl) rfl ?_
      refine o_T (y_add rfl rfl rfl) rfl ?_
      refine o_L (y_assign rfl) rfl rfl ?_
      refine o_nil0 rfl ?_
      exact ⟨mm1, Nat.lt_succ_self _, _, _, ⟨_, _, _, v4, _, rfl, rfl, hm, ho5⟩, ⟨rfl, rfl, rfl, trivial⟩, ⟨rfl, rfl⟩, _, (s_take (s_take s_nil))⟩
    · have hm := cd_f h1 hm
      refine c_exit ?_
      obtain ⟨rfl, rfl, rfl⟩ := pr3 hm
      exact ⟨_, _, ⟨v2, _, rfl, rfl, ho3⟩, ⟨rfl, rfl, rfl, trivial⟩, ⟨rfl, rfl⟩, _, (s_take (s_take s_nil))⟩
  · rintro sh G ⟨v3, g3, rfl, rfl, ho4⟩
    refine c_seq ?_
    refine c_region ?_
    refine o_T (y_move rfl) rfl ?_
    refine o_L (y_assign rfl) rfl rfl ?_
    refine o_nil0 rfl ?_
    refine c_ret ?_
    obtain rfl := p1 hm
    refine fun aX wX heX hsX => ret1 Tryz.results273 heX rfl (s_take (s_take s_nil)) ?_
    exact ⟨v3, _, rfl, rfl, ho4⟩
end Go.Proofs.Qxb6500350aGreat
