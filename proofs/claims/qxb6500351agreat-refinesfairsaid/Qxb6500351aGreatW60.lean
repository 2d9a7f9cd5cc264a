/- MADE BY PROGRAM (tools/gen.py over tools/specs351.py): walks. -/
import Derived.Test.Qxb6500351aGreatFacts
import Derived.Test.Qxb6500351aGreatMd18
set_option linter.unusedVariables false
set_option linter.unusedSimpArgs false
namespace Go.Proofs.Qxb6500351aGreat
open Go.Eng
set_option maxRecDepth 20000
set_option maxHeartbeats 4000000
/-- e2e/towerlaw.Stamp -/
theorem t53 (j i : Nat) (hj : j < 9223372036854775808) : Trip Tryz.prog 53 #[.int .i64 (j : Int), .int .i64 (i : Int)] [] (fun u S' => S' = [] ∧ u = .int .u8 (mark j i)) := by
  refine fn_entry (args := [.int .i64 (j : Int), .int .i64 (i : Int)]) Tryz.func53 rfl Tryz.ntmps53 rfl (fun w0 => ?_)
  refine c_seq ?_
  refine c_region ?_
  refine o_L (y_assign rfl) rfl rfl ?_
  refine o_nil0 rfl ?_
  refine c_seq ?_
  refine c_seq ?_
  refine c_region ?_
  refine o_T (y_move rfl) rfl ?_
  refine o_T (y_rem rfl rfl (by decide) (tm (by omega))) rfl ?_
  refine o_nil1 6 rfl rfl ?_
  refine c_block ?_
  refine c_seq ?_
  refine c_region ?_
  refine o_T (y_eql rfl rfl) rfl ?_
  refine o_L (y_assign rfl) rfl rfl ?_
  refine o_nil0 rfl ?_
  refine c_cond rfl (fun h158 => ?_) (fun h158 => ?_)
  · try simp only [decide_eq_true_eq, decide_eq_false_iff_not, Bool.not_eq_true', Bool.not_eq_false', Int.not_lt, Int.not_le, Decidable.not_not, beq_iff_eq, bne_iff_ne, ne_eq, beq_eq_false_iff_ne] at h158
    refine c_region ?_
    refine o_T (y_move rfl) rfl ?_
    refine o_T (y_quo rfl rfl (by decide) (tdN (d := 256) (by omega))) rfl ?_
    refine o_L (y_assign rfl) rfl rfl ?_
    refine o_nil0 rfl ?_
    refine c_seq ?_
    refine c_region ?_
    refine o_T (y_move rfl) rfl ?_
    refine o_T (y_rem rfl rfl (by decide) (tm (by omega))) rfl ?_
    refine o_T (y_conv Tryz.underlying3 Tryz.underlying5 rfl (w8 _)) rfl ?_
    refine o_T (y_xor rfl rfl (bXor_nat (f8 (by omega)) (f8 (by omega)))) rfl ?_
    refine o_L (y_assign rfl) rfl rfl ?_
    refine o_nil0 rfl ?_
    refine c_ret ?_
    refine fun aX wX heX hsX => ret1 Tryz.results53 heX rfl s_nil ?_
    exact ⟨rfl, congrArg (Value.int .u8) (mark_eq (by unfold markQ; (repeat' split) <;> omega))⟩
  · try simp only [decide_eq_true_eq, decide_eq_false_iff_not, Bool.not_eq_true', Bool.not_eq_false', Int.not_lt, Int.not_le, Decidable.not_not, beq_iff_eq, bne_iff_ne, ne_eq, beq_eq_false_iff_ne] at h158
    refine c_seq ?_
    refine c_region ?_
    refine o_T (y_eql rfl rfl) rfl ?_
    refine o_L (y_assign rfl) rfl rfl ?_
    refine o_nil0 rfl ?_
    refine c_cond rfl (fun h160 => ?_) (fun h160 => ?_)
    · try simp only [decide_eq_true_eq, decide_eq_false_iff_not, Bool.not_eq_true', Bool.not_eq_false', Int.not_lt, Int.not_le, Decidable.not_not, beq_iff_eq, bne_iff_ne, ne_eq, beq_eq_false_iff_ne] at h160
      refine c_region ?_
      refine o_T (y_move rfl) rfl ?_
      refine o_T (y_quo rfl rfl (by decide) (tdN (d := 65536) (by omega))) rfl ?_
      refine o_L (y_assign rfl) rfl rfl ?_
      refine o_nil0 rfl ?_
      refine c_seq ?_
      refine c_region ?_
      refine o_T (y_move rfl) rfl ?_
      refine o_T (y_rem rfl rfl (by decide) (tm (by omega))) rfl ?_
      refine o_T (y_conv Tryz.underlying3 Tryz.underlying5 rfl (w8 _)) rfl ?_
      refine o_T (y_xor rfl rfl (bXor_nat (f8 (by omega)) (f8 (by omega)))) rfl ?_
      refine o_L (y_assign rfl) rfl rfl ?_
      refine o_nil0 rfl ?_
      refine c_ret ?_
      refine fun aX wX heX hsX => ret1 Tryz.results53 heX rfl s_nil ?_
      exact ⟨rfl, congrArg (Value.int .u8) (mark_eq (by unfold markQ; (repeat' split) <;> omega))⟩
    · try simp only [decide_eq_true_eq, decide_eq_false_iff_not, Bool.not_eq_true', Bool.not_eq_false', Int.not_lt, Int.not_le, Decidable.not_not, beq_iff_eq, bne_iff_ne, ne_eq, beq_eq_false_iff_ne] at h160
      refine c_seq ?_
      refine c_region ?_
      refine o_T (y_eql rfl rfl) rfl ?_
      refine o_L (y_assign rfl) rfl rfl ?_
      refine o_nil0 rfl ?_
      refine c_cond rfl (fun h162 => ?_) (fun h162 => ?_)
      · try simp only [decide_eq_true_eq, decide_eq_false_iff_not, Bool.not_eq_true', Bool.not_eq_false', Int.not_lt, Int.not_le, Decidable.not_not, beq_iff_eq, bne_iff_ne, ne_eq, beq_eq_false_iff_ne] at h162
        refine c_region ?_
        refine o_T (y_move rfl) rfl ?_
        refine o_T (y_quo rfl rfl (by decide) (tdN (d := 16777216) (by omega))) rfl ?_
        refine o_L (y_assign rfl) rfl rfl ?_
        refine o_nil0 rfl ?_
        refine c_seq ?_
        refine c_region ?_
        refine o_T (y_move rfl) rfl ?_
        refine o_T (y_rem rfl rfl (by decide) (tm (by omega))) rfl ?_
        refine o_T (y_conv Tryz.underlying3 Tryz.underlying5 rfl (w8 _)) rfl ?_
        refine o_T (y_xor rfl rfl (bXor_nat (f8 (by omega)) (f8 (by omega)))) rfl ?_
        refine o_L (y_assign rfl) rfl rfl ?_
        refine o_nil0 rfl ?_
        refine c_ret ?_
        refine fun aX wX heX hsX => ret1 Tryz.results53 heX rfl s_nil ?_
        exact ⟨rfl, congrArg (Value.int .u8) (mark_eq (by unfold markQ; (repeat' split) <;> omega))⟩
      · try simp only [decide_eq_true_eq, decide_eq_false_iff_not, Bool.not_eq_true', Bool.not_eq_false', Int.not_lt, Int.not_le, Decidable.not_not, beq_iff_eq, bne_iff_ne, ne_eq, beq_eq_false_iff_ne] at h162
        refine c_skip ?_
        refine c_seq ?_
        refine c_region ?_
        refine o_T (y_move rfl) rfl ?_
        refine o_T (y_rem rfl rfl (by decide) (tm (by omega))) rfl ?_
        refine o_T (y_conv Tryz.underlying3 Tryz.underlying5 rfl (w8 _)) rfl ?_
        refine o_T (y_xor rfl rfl (bXor_nat (f8 (by omega)) (f8 (by omega)))) rfl ?_
        refine o_L (y_assign rfl) rfl rfl ?_
        refine o_nil0 rfl ?_
        refine c_ret ?_
        refine fun aX wX heX hsX => ret1 Tryz.results53 heX rfl s_nil ?_
        exact ⟨rfl, congrArg (Value.int .u8) (mark_eq (by unfold markQ; (repeat' split) <;> omega))⟩

end Go.Proofs.Qxb6500351aGreat
