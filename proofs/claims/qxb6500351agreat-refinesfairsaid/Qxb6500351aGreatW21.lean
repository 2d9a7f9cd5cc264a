/- MADE BY PROGRAM (tools/gen.py over tools/specs351.py): walks. -/
import Derived.Test.Qxb6500351aGreatFacts
import Derived.Test.Qxb6500351aGreatMd9
import Derived.Test.Qxb6500351aGreatW20
set_option linter.unusedVariables false
set_option linter.unusedSimpArgs false
namespace Go.Proofs.Qxb6500351aGreat
open Go.Eng
set_option maxRecDepth 20000
set_option maxHeartbeats 4000000
/-- e2e/sock.hash -/
theorem t156 (a b c : Int) (h1 : 0 ≤ a ∧ a < 256) (h2 : 0 ≤ b ∧ b < 256) (h3 : 0 ≤ c ∧ c < 256) : Trip Tryz.prog 156 #[.int .i64 a, .int .i64 b, .int .i64 c] [] (fun u S' => S' = [] ∧ u = .int .i64 (hashF a b c : Int)) := by
  refine fn_entry (args := [.int .i64 a, .int .i64 b, .int .i64 c]) Tryz.func156 rfl Tryz.ntmps156 rfl (fun w0 => ?_)
  refine c_seq ?_
  refine c_region ?_
  refine o_L (y_assign rfl) rfl rfl ?_
  refine o_nil0 rfl ?_
  refine c_seq ?_
  refine c_region ?_
  refine o_T (y_move rfl) rfl ?_
  refine o_T (y_move rfl) rfl ?_
  refine o_T (y_xor rfl rfl (hash_x1 h1 h2)) rfl ?_
  refine o_T (y_move rfl) rfl ?_
  refine o_T (y_xor rfl rfl (hash_x2 h1 h2 h3)) rfl ?_
  refine o_T (y_and rfl rfl (hash_a h1 h2 h3)) rfl ?_
  refine o_L (y_assign rfl) rfl rfl ?_
  refine o_nil0 rfl ?_
  refine c_ret ?_
  refine fun aX wX heX hsX => ret1 Tryz.results156 heX rfl s_nil ?_
  exact ⟨rfl, rfl⟩

/-- e2e/sock.nextEph -/
theorem t176 (p : Int) (h : 0 ≤ p ∧ p < 256) : Trip Tryz.prog 176 #[.int .i64 p] [] (fun u S' => S' = [] ∧ u = .int .i64 (nextEph p)) := by
  refine fn_entry (args := [.int .i64 p]) Tryz.func176 rfl Tryz.ntmps176 rfl (fun w0 => ?_)
  refine c_seq ?_
  refine c_region ?_
  refine o_L (y_assign rfl) rfl rfl ?_
  refine o_nil0 rfl ?_
  refine c_seq ?_
  refine c_seq ?_
  refine c_region ?_
  refine o_T (y_move rfl) rfl ?_
  refine o_T (y_geq rfl rfl) rfl ?_
  refine o_nil1 4 rfl rfl ?_
  refine c_cond rfl (fun h133 => ?_) (fun h133 => ?_)
  · try simp only [decide_eq_true_eq, decide_eq_false_iff_not, Bool.not_eq_true', Bool.not_eq_false', Int.not_lt, Int.not_le, Decidable.not_not, beq_iff_eq, bne_iff_ne, ne_eq, beq_eq_false_iff_ne] at h133
    refine c_seq ?_
    refine c_region ?_
    refine o_L (y_assign rfl) rfl rfl ?_
    refine o_nil0 rfl ?_
    refine c_ret ?_
    refine fun aX wX heX hsX => ret1 Tryz.results176 heX rfl s_nil ?_
    exact ⟨rfl, congrArg (Value.int .i64) (by unfold nextEph; split <;> omega)⟩
  · try simp only [decide_eq_true_eq, decide_eq_false_iff_not, Bool.not_eq_true', Bool.not_eq_false', Int.not_lt, Int.not_le, Decidable.not_not, beq_iff_eq, bne_iff_ne, ne_eq, beq_eq_false_iff_ne] at h133
    refine c_skip ?_
    refine c_seq ?_
    refine c_region ?_
    refine o_T (y_move rfl) rfl ?_
    refine o_T (y_add rfl rfl (w64 (by omega))) rfl ?_
    refine o_L (y_assign rfl) rfl rfl ?_
    refine o_nil0 rfl ?_
    refine c_ret ?_
    refine fun aX wX heX hsX => ret1 Tryz.results176 heX rfl s_nil ?_
    exact ⟨rfl, congrArg (Value.int .i64) (by unfold nextEph; split <;> omega)⟩

/-- e2e/sock.wrap -/
theorem t208 (k : Int) (h : 0 ≤ k ∧ k < 256) : Trip Tryz.prog 208 #[.int .i64 k] [] (fun u S' => S' = [] ∧ u = .int .i64 (wrapF k)) := by
  refine fn_entry (args := [.int .i64 k]) Tryz.func208 rfl Tryz.ntmps208 rfl (fun w0 => ?_)
  refine c_seq ?_
  refine c_region ?_
  refine o_L (y_assign rfl) rfl rfl ?_
  refine o_nil0 rfl ?_
  refine c_seq ?_
  refine c_seq ?_
  refine c_region ?_
  refine o_T (y_move rfl) rfl ?_
  refine o_T (y_geq rfl rfl) rfl ?_
  refine o_nil1 4 rfl rfl ?_
  refine c_cond rfl (fun h141 => ?_) (fun h141 => ?_)
  · try simp only [decide_eq_true_eq, decide_eq_false_iff_not, Bool.not_eq_true', Bool.not_eq_false', Int.not_lt, Int.not_le, Decidable.not_not, beq_iff_eq, bne_iff_ne, ne_eq, beq_eq_false_iff_ne] at h141
    refine c_seq ?_
    refine c_region ?_
    refine o_T (y_move rfl) rfl ?_
    refine o_T (y_sub rfl rfl (w64 (by omega))) rfl ?_
    refine o_L (y_assign rfl) rfl rfl ?_
    refine o_nil0 rfl ?_
    refine c_ret ?_
    refine fun aX wX heX hsX => ret1 Tryz.results208 heX rfl s_nil ?_
    exact ⟨rfl, congrArg (Value.int .i64) (by unfold wrapF; split <;> omega)⟩
  · try simp only [decide_eq_true_eq, decide_eq_false_iff_not, Bool.not_eq_true', Bool.not_eq_false', Int.not_lt, Int.not_le, Decidable.not_not, beq_iff_eq, bne_iff_ne, ne_eq, beq_eq_false_iff_ne] at h141
    refine c_skip ?_
    refine c_seq ?_
    refine c_region ?_
    refine o_T (y_move rfl) rfl ?_
    refine o_L (y_assign rfl) rfl rfl ?_
    refine o_nil0 rfl ?_
    refine c_ret ?_
    refine fun aX wX heX hsX => ret1 Tryz.results208 heX rfl s_nil ?_
    exact ⟨rfl, congrArg (Value.int .i64) (by unfold wrapF; split <;> omega)⟩

/-- e2e/sock.bitOf -/
theorem t171 (a : Int) (h : 0 ≤ a ∧ a < 8) : Trip Tryz.prog 171 #[.int .i64 a] [] (fun u S' => S' = [] ∧ u = .int .u8 ((2 ^ a.toNat : Nat) : Int)) := by
  refine fn_entry (args := [.int .i64 a]) Tryz.func171 rfl Tryz.ntmps171 rfl (fun w0 => ?_)
  refine c_seq ?_
  refine c_region ?_
  refine o_L (y_assign rfl) rfl rfl ?_
  refine o_nil0 rfl ?_
  refine c_seq ?_
  refine c_region ?_
  refine o_T (y_move rfl) rfl ?_
  refine o_T (y_conv Tryz.underlying3 Tryz.underlying131 rfl (w64ui (by omega))) rfl ?_
  refine o_T (y_shl rfl rfl (by omega) (shl_one (n := a.toNat) (by omega) (by simp [IntKind.bits]; omega) (fun z => nomatch z))) rfl ?_
  refine o_L (y_assign rfl) rfl rfl ?_
  refine o_nil0 rfl ?_
  refine c_ret ?_
  refine fun aX wX heX hsX => ret1 Tryz.results171 heX rfl s_nil ?_
  exact ⟨rfl, rfl⟩

end Go.Proofs.Qxb6500351aGreat
