/- MADE BY PROGRAM (tools/gen.py over tools/specsw.py): walks. -/
import Derived.Test.Qxb6500351aGreatFacts
import Derived.Test.Qxb6500351aGreatW97
set_option linter.unusedVariables false
set_option linter.unusedSimpArgs false
namespace Go.Proofs.Qxb6500351aGreat
open Go.Eng
set_option maxRecDepth 20000
set_option maxHeartbeats 4000000
attribute [local irreducible] Hst.ent Hst.err Hst.infoC
/-- e2e/towerlaw.RefinesSteady -/
theorem t4 (p : Option Addr) (n cap : Nat) (g : List Chunk) (hS : ScrP p n g) (hn : n ≤ 9223372036854775807) : Trip Tryz.prog 4 #[.slice p n cap] [g] (fun u S' => u = .bool true ∧ S' = [g]) := by
  refine fn_entry (args := [.slice p n cap]) Tryz.func4 rfl Tryz.ntmps4 rfl (fun w0 => ?_)
  refine c_seq ?_
  refine c_region ?_
  refine o_L (y_assign rfl) rfl rfl ?_
  refine o_nil0 rfl ?_
  refine c_seq ?_
  refine c_region ?_
  refine o_T (y_move rfl) rfl ?_
  refine o_call en_9 rfl (t9 p n cap g hS hn true false) (s_take s_nil) rfl ?_
  rintro v S' ⟨y_1, rfl, rfl⟩
  refine o_T (y_move rfl) rfl ?_
  refine o_T (y_extract rfl rfl) rfl ?_
  refine o_T (y_extract rfl rfl) rfl ?_
  refine o_L (y_assign rfl) rfl rfl ?_
  refine o_L (y_assign rfl) rfl rfl ?_
  refine o_nil0 rfl ?_
  refine c_seq ?_
  refine c_region ?_
  refine o_T (y_move rfl) rfl ?_
  refine o_T (y_eql rfl rfl) rfl ?_
  refine o_L (y_assign rfl) rfl rfl ?_
  refine o_nil0 rfl ?_
  refine c_ret ?_
  refine fun aX wX heX hsX => ret1 Tryz.results4 heX rfl (s_take s_nil) ?_
  exact ⟨rfl, rfl⟩

/-- e2e/towerlaw.RefinesUpTo -/
theorem t8 (p : Option Addr) (n cap : Nat) (g : List Chunk) (hS : ScrP p n g) (hn : n ≤ 9223372036854775807) : Trip Tryz.prog 8 #[.slice p n cap] [g] (fun u S' => u = .int .i64 (-1) ∧ S' = [g]) := by
  refine fn_entry (args := [.slice p n cap]) Tryz.func8 rfl Tryz.ntmps8 rfl (fun w0 => ?_)
  refine c_seq ?_
  refine c_region ?_
  refine o_L (y_assign rfl) rfl rfl ?_
  refine o_nil0 rfl ?_
  refine c_seq ?_
  refine c_region ?_
  refine o_T (y_move rfl) rfl ?_
  refine o_call en_9 rfl (t9 p n cap g hS hn false false) (s_take s_nil) rfl ?_
  rintro v S' ⟨y_1, rfl, rfl⟩
  refine o_T (y_move rfl) rfl ?_
  refine o_T (y_extract rfl rfl) rfl ?_
  refine o_T (y_extract rfl rfl) rfl ?_
  refine o_L (y_assign rfl) rfl rfl ?_
  refine o_L (y_assign rfl) rfl rfl ?_
  refine o_nil0 rfl ?_
  refine c_seq ?_
  refine c_region ?_
  refine o_T (y_move rfl) rfl ?_
  refine o_L (y_assign rfl) rfl rfl ?_
  refine o_nil0 rfl ?_
  refine c_ret ?_
  refine fun aX wX heX hsX => ret1 Tryz.results8 heX rfl (s_take s_nil) ?_
  exact ⟨rfl, rfl⟩

/-- e2e/towerlaw.Refines -/
theorem t3 (p : Option Addr) (n cap : Nat) (g : List Chunk) (hS : ScrP p n g) (hn : n ≤ 9223372036854775807) : Trip Tryz.prog 3 #[.slice p n cap] [g] (fun u S' => u = .bool true ∧ S' = [g]) := by
  refine fn_entry (args := [.slice p n cap]) Tryz.func3 rfl Tryz.ntmps3 rfl (fun w0 => ?_)
  refine c_seq ?_
  refine c_region ?_
  refine o_L (y_assign rfl) rfl rfl ?_
  refine o_nil0 rfl ?_
  refine c_seq ?_
  refine c_region ?_
  refine o_T (y_move rfl) rfl ?_
  refine o_call en_8 rfl (t8 p n cap g hS hn) (s_take s_nil) rfl ?_
  rintro v S' ⟨rfl, rfl⟩
  refine o_T (y_eql rfl rfl) rfl ?_
  refine o_L (y_assign rfl) rfl rfl ?_
  refine o_nil0 rfl ?_
  refine c_ret ?_
  refine fun aX wX heX hsX => ret1 Tryz.results3 heX rfl (s_take s_nil) ?_
  exact ⟨rfl, rfl⟩

/-- e2e/towerlaw.RefinesQuietUpTo -/
theorem t12 (p : Option Addr) (n cap : Nat) (g : List Chunk) (hS : ScrP p n g) (hn : n ≤ 9223372036854775807) : Trip Tryz.prog 12 #[.slice p n cap] [g] (fun u S' => u = .int .i64 (-1) ∧ S' = [g]) := by
  refine fn_entry (args := [.slice p n cap]) Tryz.func12 rfl Tryz.ntmps12 rfl (fun w0 => ?_)
  refine c_seq ?_
  refine c_region ?_
  refine o_L (y_assign rfl) rfl rfl ?_
  refine o_nil0 rfl ?_
  refine c_seq ?_
  refine c_region ?_
  refine o_T (y_move rfl) rfl ?_
  refine o_call en_9 rfl (t9 p n cap g hS hn false true) (s_take s_nil) rfl ?_
  rintro v S' ⟨y_1, rfl, rfl⟩
  refine o_T (y_move rfl) rfl ?_
  refine o_T (y_extract rfl rfl) rfl ?_
  refine o_T (y_extract rfl rfl) rfl ?_
  refine o_L (y_assign rfl) rfl rfl ?_
  refine o_L (y_assign rfl) rfl rfl ?_
  refine o_nil0 rfl ?_
  refine c_seq ?_
  refine c_region ?_
  refine o_T (y_move rfl) rfl ?_
  refine o_L (y_assign rfl) rfl rfl ?_
  refine o_nil0 rfl ?_
  refine c_ret ?_
  refine fun aX wX heX hsX => ret1 Tryz.results12 heX rfl (s_take s_nil) ?_
  exact ⟨rfl, rfl⟩

/-- e2e/towerlaw.RefinesQuiet -/
theorem t7 (p : Option Addr) (n cap : Nat) (g : List Chunk) (hS : ScrP p n g) (hn : n ≤ 9223372036854775807) : Trip Tryz.prog 7 #[.slice p n cap] [g] (fun u S' => u = .bool true ∧ S' = [g]) := by
  refine fn_entry (args := [.slice p n cap]) Tryz.func7 rfl Tryz.ntmps7 rfl (fun w0 => ?_)
  refine c_seq ?_
  refine c_region ?_
  refine o_L (y_assign rfl) rfl rfl ?_
  refine o_nil0 rfl ?_
  refine c_seq ?_
  refine c_region ?_
  refine o_T (y_move rfl) rfl ?_
  refine o_call en_12 rfl (t12 p n cap g hS hn) (s_take s_nil) rfl ?_
  rintro v S' ⟨rfl, rfl⟩
  refine o_T (y_eql rfl rfl) rfl ?_
  refine o_L (y_assign rfl) rfl rfl ?_
  refine o_nil0 rfl ?_
  refine c_ret ?_
  refine fun aX wX heX hsX => ret1 Tryz.results7 heX rfl (s_take s_nil) ?_
  exact ⟨rfl, rfl⟩

end Go.Proofs.Qxb6500351aGreat
