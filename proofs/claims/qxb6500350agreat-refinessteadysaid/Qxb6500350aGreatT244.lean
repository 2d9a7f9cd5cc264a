/- MADE BY PROGRAM (tools350/mir.py): mirror and walk. -/
import Derived.Test.Qxb6500350aGreatF2
set_option linter.unusedVariables false
set_option linter.unusedSimpArgs false
set_option maxRecDepth 20000
set_option maxHeartbeats 4000000
namespace Go.Proofs.Qxb6500350aGreat
open Go.Eng

/- objects.bucketOf -/
def m244 (n : Nat) (h_ : Int) : Option (Int) :=
some (wi (bAnd .u32 h_ 7))
theorem t244 {n : Nat} {C : List Chunk} {rc1 : Int} {h_ : Int}   (hm : m244 n h_ = some rc1) : Trip Tryz.prog 244 #[.int .u32 h_] ([] ++ [C]) (fun u S' => .int .i64 rc1 = u ∧ S' = [] ++ [C]) := by
  refine fn_entry (args := [.int .u32 h_]) Tryz.func244 rfl Tryz.ntmps244 rfl (fun w0 => ?_)
  refine c_seq ?_
  refine c_region ?_
  refine o_L (y_assign rfl) rfl rfl ?_
  refine o_nil0 rfl ?_
  refine c_seq ?_
  refine c_region ?_
  refine o_T (y_move rfl) rfl ?_
  refine o_T (y_and rfl rfl rfl) rfl ?_
  refine o_T (y_conv Tryz.underlying118 Tryz.underlying3 rfl rfl) rfl ?_
  refine o_L (y_assign rfl) rfl rfl ?_
  refine o_nil0 rfl ?_
  refine c_ret ?_
  obtain rfl := p1 hm
  refine fun aX wX heX hsX => ret1 Tryz.results244 heX rfl (s_take s_nil) ?_
  exact ⟨rfl, rfl⟩
end Go.Proofs.Qxb6500350aGreat
