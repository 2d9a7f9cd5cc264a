/- MADE BY PROGRAM (tools350/mir.py): mirror and walk. -/
import Derived.Test.Qxb6500350aGreatF2
set_option linter.unusedVariables false
set_option linter.unusedSimpArgs false
set_option maxRecDepth 20000
set_option maxHeartbeats 4000000
namespace Go.Proofs.Qxb6500350aGreat
open Go.Eng

/- (*diff.Engine).Check -/
def m110 (n : Nat) : Option (Bool) :=
some true
theorem t110 {n : Nat} {C : List Chunk} {rc1 : Bool} {q1 : Option Addr}   (hm : m110 n = some rc1) : Trip Tryz.prog 110 #[(.pointer q1)] ([] ++ [C]) (fun u S' => .bool rc1 = u ∧ S' = [] ++ [C]) := by
  refine fn_entry (args := [(.pointer q1)]) Tryz.func110 rfl Tryz.ntmps110 rfl (fun w0 => ?_)
  refine c_seq ?_
  refine c_region ?_
  refine o_L (y_assign rfl) rfl rfl ?_
  refine o_nil0 rfl ?_
  refine c_seq ?_
  refine c_region ?_
  refine o_L (y_assign rfl) rfl rfl ?_
  refine o_nil0 rfl ?_
  refine c_ret ?_
  obtain rfl := p1 hm
  refine fun aX wX heX hsX => ret1 Tryz.results110 heX rfl (s_take s_nil) ?_
  exact ⟨rfl, rfl⟩
end Go.Proofs.Qxb6500350aGreat
