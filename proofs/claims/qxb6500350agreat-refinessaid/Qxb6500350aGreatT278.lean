/- MADE BY PROGRAM (tools350/mir.py): mirror and walk. -/
import Derived.Test.Qxb6500350aGreatF2
set_option linter.unusedVariables false
set_option linter.unusedSimpArgs false
set_option maxRecDepth 20000
set_option maxHeartbeats 4000000
namespace Go.Proofs.Qxb6500350aGreat
open Go.Eng

/- graph.seqAt -/
def m278_w1 (n : Nat) (d : (List UInt8)) (mm : Nat) : Int → Int → Option (Int × Int) := it2 (fun lp1 c1 c2 =>
cond (decide ((0 : Int) ≤ c2)) (
Option.bind (ixL d c2) fun x1 =>
lp1 (bOr .u64 (wu (c1 * 2 ^ (min (Int.toNat 8) (IntKind.bits .u64)))) (x1.toNat : Int)) (wi (c2 - 1))) (
some (c1, c2))) mm
def m278 (n : Nat) (d : (List UInt8)) : Option (Int) :=
ob2 (m278_w1 n d n 0 7) fun c3 c4 =>
some (wi c3)
theorem t278 {n : Nat} {C : List Chunk} {rc1 : Int} {v1 : Value} {d : (List UInt8)} (hr1 : Rd rByte C v1 d)  (hm : m278 n d = some rc1) : Trip Tryz.prog 278 #[v1] ([] ++ [C]) (fun u S' => .int .i64 rc1 = u ∧ S' = [] ++ [C]) := by
  refine fn_entry (args := [v1]) Tryz.func278 rfl Tryz.ntmps278 rfl (fun w0 => ?_)
  refine c_seq ?_
  refine c_region ?_
  refine o_L (y_assign rfl) rfl rfl ?_
  refine o_nil0 rfl ?_
  refine c_seq ?_
  refine c_region ?_
  refine o_L (y_assign rfl) rfl rfl ?_
  refine o_nil0 rfl ?_
  refine c_seq ?_
  refine c_seq ?_
  refine c_region ?_
  refine o_L (y_assign rfl) rfl rfl ?_
  refine o_nil0 rfl ?_
  obtain ⟨c3, c4, hj1, hm⟩ := bd2 hm
  refine c_joinP (n := 0) (fun sh G => sh = [(3, .int .u64 c3), (4, .int .i64 c4)] ∧ G = []) (s_take s_nil) .z (fun _ _ h => h) ?_ ?_
  · skip
    refine c_block ?_
    refine c_loopP (n := 0) (fun mm sh G => ∃ (c1 : Int), ∃ (c2 : Int), sh = [(3, .int .u64 c1), (4, .int .i64 c2)] ∧ G = [] ∧ m278_w1 n d mm c1 c2 = some (c3, c4)) n (s_take s_nil) .z ⟨_, _, ⟨_, _, rfl, rfl, hj1⟩, ⟨rfl, rfl, trivial⟩, _, (s_take s_nil)⟩ ?_
    rintro mm sh G ⟨c1, c2, rfl, rfl, hm⟩
    obtain ⟨mm1, rfl, hm⟩ := it2_s hm
    refine c_seq ?_
    refine c_seq ?_
    refine c_region ?_
    refine o_T (y_move rfl) rfl ?_
    refine o_T (y_geq rfl rfl) rfl ?_
    refine o_nil1 6 rfl rfl ?_
    refine c_cond rfl (fun h1 => ?_) (fun h1 => ?_)
    · have hm := cd_t h1 hm
      refine c_skip ?_
      refine c_seq ?_
      refine c_block ?_
      refine c_region ?_
      refine o_T (y_move rfl) rfl ?_
      refine o_T (y_shl rfl rfl (by decide) rfl) rfl ?_
      refine o_T (y_move rfl) rfl ?_
      refine o_T (y_move rfl) rfl ?_
      obtain ⟨x1, hx1, hm⟩ := bd hm
      obtain ⟨b1, w1, cs1, y1, z1, vs1, hc1, ha1, hr2, hy1⟩ := hr1.ix hx1
      obtain rfl : vs1 = (enc8 x1) := hr2
      refine o_T (hy1 sl_81 rfl rfl rfl) rfl ?_
      refine o_ld one_5 rfl (mg hc1) (At.getA (ha1)) rfl ?_
      refine o_T (y_conv Tryz.underlying5 Tryz.underlying123 rfl (wbu _)) rfl ?_
      refine o_T (y_or rfl rfl rfl) rfl ?_
      refine o_L (y_assign rfl) rfl rfl ?_
      refine o_nil0 rfl ?_
      refine c_region ?_
      refine o_T (y_move rfl) rfl ?_
      refine o_T (y_sub rfl rfl rfl) rfl ?_
      refine o_L (y_assign rfl) rfl rfl ?_
      refine o_nil0 rfl ?_
      exact ⟨mm1, Nat.lt_succ_self _, _, _, ⟨_, _, rfl, rfl, hm⟩, ⟨rfl, rfl, trivial⟩, ⟨rfl, rfl⟩, _, (s_take s_nil)⟩
    · have hm := cd_f h1 hm
      refine c_exit ?_
      obtain ⟨rfl, rfl⟩ := pr2 hm
      exact ⟨_, _, ⟨rfl, rfl⟩, ⟨rfl, rfl, trivial⟩, ⟨rfl, rfl⟩, _, (s_take s_nil)⟩
  · rintro sh G ⟨rfl, rfl⟩
    refine c_seq ?_
    refine c_region ?_
    refine o_T (y_move rfl) rfl ?_
    refine o_T (y_conv Tryz.underlying123 Tryz.underlying3 rfl rfl) rfl ?_
    refine o_L (y_assign rfl) rfl rfl ?_
    refine o_nil0 rfl ?_
    refine c_ret ?_
    obtain rfl := p1 hm
    refine fun aX wX heX hsX => ret1 Tryz.results278 heX rfl (s_take s_nil) ?_
    exact ⟨rfl, rfl⟩
end Go.Proofs.Qxb6500350aGreat
