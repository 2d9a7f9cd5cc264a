/- MADE BY PROGRAM (tools350/mir.py): mirror and walk. -/
import Derived.Test.Qxb6500350aGreatF2
set_option linter.unusedVariables false
set_option linter.unusedSimpArgs false
set_option maxRecDepth 20000
set_option maxHeartbeats 4000000
namespace Go.Proofs.Qxb6500350aGreat
open Go.Eng

/- graph.bit -/
def m222 (n : Nat) (id : Int) : Option (Int) :=
Option.bind (ckN (wu (bAnd .i64 id 63))) fun _ =>
some (wu (1 * 2 ^ (min (Int.toNat (wu (bAnd .i64 id 63))) (IntKind.bits .u64))))
theorem t222 {n : Nat} {C : List Chunk} {rc1 : Int} {id : Int}   (hm : m222 n id = some rc1) : Trip Tryz.prog 222 #[.int .i64 id] ([] ++ [C]) (fun u S' => .int .u64 rc1 = u ∧ S' = [] ++ [C]) := by
  refine fn_entry (args := [.int .i64 id]) Tryz.func222 rfl Tryz.ntmps222 rfl (fun w0 => ?_)
  refine c_seq ?_
  refine c_region ?_
  refine o_L (y_assign rfl) rfl rfl ?_
  refine o_nil0 rfl ?_
  refine c_seq ?_
  refine c_region ?_
  refine o_T (y_move rfl) rfl ?_
  refine o_T (y_and rfl rfl rfl) rfl ?_
  refine o_T (y_conv Tryz.underlying3 Tryz.underlying267 rfl rfl) rfl ?_
  obtain ⟨_, hx1, hm⟩ := bd hm
  refine o_T (y_shl rfl rfl (ckN_some hx1) rfl) rfl ?_
  refine o_L (y_assign rfl) rfl rfl ?_
  refine o_nil0 rfl ?_
  refine c_ret ?_
  obtain rfl := p1 hm
  refine fun aX wX heX hsX => ret1 Tryz.results222 heX rfl (s_take s_nil) ?_
  exact ⟨rfl, rfl⟩
end Go.Proofs.Qxb6500350aGreat
