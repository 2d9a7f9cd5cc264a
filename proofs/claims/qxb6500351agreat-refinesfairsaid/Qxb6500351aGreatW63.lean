/- MADE BY PROGRAM (tools/gen.py over tools/specs351.py): walks. -/
import Derived.Test.Qxb6500351aGreatFacts
import Derived.Test.Qxb6500351aGreatW62
set_option linter.unusedVariables false
set_option linter.unusedSimpArgs false
namespace Go.Proofs.Qxb6500351aGreat
open Go.Eng
set_option maxRecDepth 20000
set_option maxHeartbeats 4000000
/-- e2e/towerlaw.CopyInts -/
theorem t29r (b : Nat) (l : List Int) (hl : l.length ≤ 1073741824) : Trip Tryz.prog 29 #[inV b l] [inG b l 3] (fun u S' => ∃ b2, u = inV b2 l ∧ S' = [inG b l 3, inG b2 l 3]) := by
  refine fn_entry (args := [inV b l]) Tryz.func29 rfl Tryz.ntmps29 rfl (fun w0 => ?_)
  refine c_seq ?_
  refine c_region ?_
  refine o_L (y_assign rfl) rfl rfl ?_
  refine o_nil0 rfl ?_
  refine c_seq ?_
  refine c_region ?_
  refine o_T (y_move rfl) rfl ?_
  refine o_T (y_len Tryz.underlying46 rfl) rfl ?_
  refine o_makeI l.length sz_46 rfl rfl (by first | rfl | omega) (by first | rfl | omega) (by omega) (by omega) rfl (fun b_1 => ?_)
  refine o_L (y_assign rfl) rfl rfl ?_
  refine o_nil0 rfl ?_
  refine c_seq ?_
  refine c_region ?_
  refine o_T (y_move rfl) rfl ?_
  refine o_T (y_move rfl) rfl ?_
  refine o_copy (sz := 1) l.length sz_46 rfl rfl (by simp) r0 (ms m0) (copyI l) (by simp [iV]) (by simp [iV]) (iV_plain l) (.inr ⟨_, rfl, rfl, rfl⟩) ?_
  refine o_nil0 rfl ?_
  refine c_seq ?_
  refine c_region ?_
  refine o_T (y_move rfl) rfl ?_
  refine o_L (y_assign rfl) rfl rfl ?_
  refine o_nil0 rfl ?_
  refine c_ret ?_
  refine fun aX wX heX hsX => ret1 Tryz.results29 heX rfl (s_get (ks k0) (s_get k0 s_nil)) ?_
  exact ⟨_, rfl, rfl⟩

/-- e2e/towerlaw.CopyInts -/
theorem t29z  : Trip Tryz.prog 29 #[.slice none 0 0] [[]] (fun u S' => ∃ b2, u = inV b2 [] ∧ S' = [[], inG b2 [] 3]) := by
  refine fn_entry (args := [.slice none 0 0]) Tryz.func29 rfl Tryz.ntmps29 rfl (fun w0 => ?_)
  refine c_seq ?_
  refine c_region ?_
  refine o_L (y_assign rfl) rfl rfl ?_
  refine o_nil0 rfl ?_
  refine c_seq ?_
  refine c_region ?_
  refine o_T (y_move rfl) rfl ?_
  refine o_T (y_len Tryz.underlying46 rfl) rfl ?_
  refine o_makeI 0 sz_46 rfl rfl (by first | rfl | omega) (by first | rfl | omega) (by omega) (by omega) rfl (fun b_1 => ?_)
  refine o_L (y_assign rfl) rfl rfl ?_
  refine o_nil0 rfl ?_
  refine c_seq ?_
  refine c_region ?_
  refine o_T (y_move rfl) rfl ?_
  refine o_T (y_move rfl) rfl ?_
  refine o_copyN sz_46 rfl rfl rfl ?_
  refine o_nil0 rfl ?_
  refine c_seq ?_
  refine c_region ?_
  refine o_T (y_move rfl) rfl ?_
  refine o_L (y_assign rfl) rfl rfl ?_
  refine o_nil0 rfl ?_
  refine c_ret ?_
  refine fun aX wX heX hsX => ret1 Tryz.results29 heX rfl (s_get (ks k0) (s_get k0 s_nil)) ?_
  exact ⟨_, rfl, rfl⟩

end Go.Proofs.Qxb6500351aGreat
