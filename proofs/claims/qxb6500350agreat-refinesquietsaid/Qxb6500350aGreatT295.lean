/- MADE BY PROGRAM (tools350/mir.py): mirror and walk. -/
import Derived.Test.Qxb6500350aGreatF2
set_option linter.unusedVariables false
set_option linter.unusedSimpArgs false
set_option maxRecDepth 20000
set_option maxHeartbeats 4000000
namespace Go.Proofs.Qxb6500350aGreat
open Go.Eng

/- objects.countOf -/
def m295 (n : Nat) (blk : (List UInt8)) : Option (Int) :=
Option.bind (ixL blk 2) fun x1 =>
cond (decide ((60 : Int) < (x1.toNat : Int))) (
some 60) (
some (x1.toNat : Int))
theorem t295 {n : Nat} {C : List Chunk} {rc1 : Int} {v1 : Value} {blk : (List UInt8)} (hr1 : Rd rByte C v1 blk)  (hm : m295 n blk = some rc1) : Trip Tryz.prog 295 #[v1] ([] ++ [C]) (fun u S' => .int .i64 rc1 = u ∧ S' = [] ++ [C]) := by
  refine fn_entry (args := [v1]) Tryz.func295 rfl Tryz.ntmps295 rfl (fun w0 => ?_)
  refine c_seq ?_
  refine c_region ?_
  refine o_L (y_assign rfl) rfl rfl ?_
  refine o_nil0 rfl ?_
  refine c_seq ?_
  refine c_region ?_
  refine o_T (y_move rfl) rfl ?_
  obtain ⟨x1, hx1, hm⟩ := bd hm
  obtain ⟨b1, w1, cs1, y1, z1, vs1, hc1, ha1, hr2, hy1⟩ := hr1.ix hx1
  obtain rfl : vs1 = (enc8 x1) := hr2
  refine o_T (hy1 sl_81 rfl rfl rfl) rfl ?_
  refine o_ld one_5 rfl (mg hc1) (At.getA (ha1)) rfl ?_
  refine o_T (y_conv Tryz.underlying5 Tryz.underlying3 rfl (wbi _)) rfl ?_
  refine o_L (y_assign rfl) rfl rfl ?_
  refine o_nil0 rfl ?_
  refine c_seq ?_
  refine c_seq ?_
  refine c_region ?_
  refine o_T (y_move rfl) rfl ?_
  refine o_T (y_gtr rfl rfl) rfl ?_
  refine o_nil1 9 rfl rfl ?_
  refine c_cond rfl (fun h1 => ?_) (fun h1 => ?_)
  · have hm := cd_t h1 hm
    refine c_seq ?_
    refine c_region ?_
    refine o_L (y_assign rfl) rfl rfl ?_
    refine o_nil0 rfl ?_
    refine c_ret ?_
    obtain rfl := p1 hm
    refine fun aX wX heX hsX => ret1 Tryz.results295 heX rfl (s_take s_nil) ?_
    exact ⟨rfl, rfl⟩
  · have hm := cd_f h1 hm
    refine c_skip ?_
    refine c_seq ?_
    refine c_region ?_
    refine o_T (y_move rfl) rfl ?_
    refine o_L (y_assign rfl) rfl rfl ?_
    refine o_nil0 rfl ?_
    refine c_ret ?_
    obtain rfl := p1 hm
    refine fun aX wX heX hsX => ret1 Tryz.results295 heX rfl (s_take s_nil) ?_
    exact ⟨rfl, rfl⟩
end Go.Proofs.Qxb6500350aGreat
