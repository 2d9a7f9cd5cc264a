/- MADE BY PROGRAM (tools/gen.py over tools/specs351.py): walks. -/
import Derived.Test.Qxb6500351aGreatFacts
import Derived.Test.Qxb6500351aGreatW61
set_option linter.unusedVariables false
set_option linter.unusedSimpArgs false
namespace Go.Proofs.Qxb6500351aGreat
open Go.Eng
set_option maxRecDepth 20000
set_option maxHeartbeats 4000000
/-- e2e/towerlaw.SameInts -/
theorem t73 (v1 v2 : Value) (l m : List Int) (g1 g2 : List Chunk) (h1 : Inl v1 l g1) (h2 : Inl v2 m g2) : Trip Tryz.prog 73 #[v1, v2] [g1, g2] (fun u S' => u = .bool (decide (l = m)) ∧ S' = [g1, g2]) := by
  have a1 := h1.1
  have a2 := h2.1
  obtain ⟨p1, hv1⟩ := h1.slice
  subst hv1
  obtain ⟨p2, hv2⟩ := h2.slice
  subst hv2
  refine fn_entry (args := [.slice p1 l.length l.length, .slice p2 m.length m.length]) Tryz.func73 rfl Tryz.ntmps73 rfl (fun w0 => ?_)
  refine c_seq ?_
  refine c_region ?_
  refine o_L (y_assign rfl) rfl rfl ?_
  refine o_nil0 rfl ?_
  refine c_seq ?_
  refine c_seq ?_
  refine c_region ?_
  refine o_T (y_move rfl) rfl ?_
  refine o_T (y_len Tryz.underlying46 rfl) rfl ?_
  refine o_T (y_move rfl) rfl ?_
  refine o_T (y_len Tryz.underlying46 rfl) rfl ?_
  refine o_T (y_neq rfl rfl) rfl ?_
  refine o_nil1 10 rfl rfl ?_
  refine c_cond rfl (fun h109 => ?_) (fun h109 => ?_)
  · try simp only [decide_eq_true_eq, decide_eq_false_iff_not, Bool.not_eq_true', Bool.not_eq_false', Int.not_lt, Int.not_le, Decidable.not_not, beq_iff_eq, bne_iff_ne, ne_eq, beq_eq_false_iff_ne] at h109
    refine c_seq ?_
    refine c_region ?_
    refine o_L (y_assign rfl) rfl rfl ?_
    refine o_nil0 rfl ?_
    refine c_ret ?_
    refine fun aX wX heX hsX => ret1 Tryz.results73 heX rfl (s_take (s_take s_nil)) ?_
    exact ⟨congrArg Value.bool (decide_eq_false (fun h => h109 (by rw [h]))).symm, rfl⟩
  · try simp only [decide_eq_true_eq, decide_eq_false_iff_not, Bool.not_eq_true', Bool.not_eq_false', Int.not_lt, Int.not_le, Decidable.not_not, beq_iff_eq, bne_iff_ne, ne_eq, beq_eq_false_iff_ne] at h109
    refine c_skip ?_
    refine c_seq ?_
    refine c_seq ?_
    refine c_region ?_
    refine o_L (y_assign rfl) rfl rfl ?_
    refine o_nil0 rfl ?_
    refine c_block ?_
    refine c_loopG (ι := Nat) (fun i => [(5, .int .i64 (i : Int))]) (fun i => []) (fun i => i ≤ l.length ∧ l.length = m.length ∧ l.take i = m.take i) (fun i => l.length - i) 0 (by exact ⟨by omega, by omega, rfl⟩) ⟨by first | rfl | exact gteI rfl (by omega), trivial⟩ (s_take (s_take s_nil)) ?_
    rintro k ⟨g3, g4, g5⟩
    try dsimp only [List.cons_append, List.nil_append] at *
    refine c_seq ?_
    refine c_seq ?_
    refine c_region ?_
    refine o_T (y_move rfl) rfl ?_
    refine o_T (y_move rfl) rfl ?_
    refine o_T (y_len Tryz.underlying46 rfl) rfl ?_
    refine o_T (y_lss rfl rfl) rfl ?_
    refine o_nil1 14 rfl rfl ?_
    refine c_cond rfl (fun h112 => ?_) (fun h112 => ?_)
    · try simp only [decide_eq_true_eq, decide_eq_false_iff_not, Bool.not_eq_true', Bool.not_eq_false', Int.not_lt, Int.not_le, Decidable.not_not, beq_iff_eq, bne_iff_ne, ne_eq, beq_eq_false_iff_ne] at h112
      refine c_skip ?_
      refine c_seq ?_
      refine c_block ?_
      refine c_seq ?_
      obtain ⟨b1, e1, e2⟩ := h1.pos (by omega)
      injection e1 with e1 e3 e4
      subst e1 e2
      obtain ⟨b2, f1, f2⟩ := h2.pos (by omega)
      injection f1 with f1 f3 f4
      subst f1 f2
      refine c_draw #[true, true, true, true, true, true, true, true, true] rfl (n := 9) rfl ?_
      refine d_T 0 rfl (by kernel_rfl) rfl (y_move rfl) rfl ?_
      refine d_T 1 rfl (by kernel_rfl) rfl (y_move rfl) rfl ?_
      refine d_T 2 rfl (by kernel_rfl) rfl (y_is sl_46 rfl rfl (by omega) (by omega)) rfl ?_
      refine d_ld 3 rfl (by kernel_rfl) one_3 rfl (fun x hx => hx) m0 (iV_get k (by omega) (by omega)) rfl ?_
      refine d_T 4 rfl (by kernel_rfl) rfl (y_move rfl) rfl ?_
      refine d_T 5 rfl (by kernel_rfl) rfl (y_move rfl) rfl ?_
      refine d_T 6 rfl (by kernel_rfl) rfl (y_is sl_46 rfl rfl (by omega) (by omega)) rfl ?_
      refine d_ld 7 rfl (by kernel_rfl) one_3 rfl (fun x hx => hx) (ms m0) (iV_get k (by omega) (by omega)) rfl ?_
      refine d_T 8 rfl (by kernel_rfl) rfl (y_neq rfl rfl) rfl ?_
      refine d_nil1 25 (by kernel_rfl) rfl rfl ?_
      refine c_cond rfl (fun h113 => ?_) (fun h113 => ?_)
      · try simp only [decide_eq_true_eq, decide_eq_false_iff_not, Bool.not_eq_true', Bool.not_eq_false', Int.not_lt, Int.not_le, Decidable.not_not, beq_iff_eq, bne_iff_ne, ne_eq, beq_eq_false_iff_ne] at h113
        refine c_seq ?_
        refine c_region ?_
        refine o_L (y_assign rfl) rfl rfl ?_
        refine o_nil0 rfl ?_
        refine c_ret ?_
        refine fun aX wX heX hsX => ret1 Tryz.results73 heX rfl (s_take (s_take s_nil)) ?_
        exact ⟨congrArg Value.bool (decide_eq_false (fun h => h113 (by rw [h]))).symm, rfl⟩
      · try simp only [decide_eq_true_eq, decide_eq_false_iff_not, Bool.not_eq_true', Bool.not_eq_false', Int.not_lt, Int.not_le, Decidable.not_not, beq_iff_eq, bne_iff_ne, ne_eq, beq_eq_false_iff_ne] at h113
        refine c_skip ?_
        refine c_region ?_
        refine o_T (y_move rfl) rfl ?_
        refine o_T (y_add rfl rfl (w64 (by omega))) rfl ?_
        refine o_L (y_assign rfl) rfl rfl ?_
        refine o_nil0 rfl ?_
        refine ⟨(k + 1), ⟨⟨by omega, by omega, take_getD g5 (by omega) (by omega) h113⟩, by first | omega | (dsimp only; omega)⟩, ⟨by first | rfl | exact gteI rfl (by omega), trivial⟩, ⟨rfl, rfl⟩, _, ((s_take (s_take s_nil)))⟩
    · try simp only [decide_eq_true_eq, decide_eq_false_iff_not, Bool.not_eq_true', Bool.not_eq_false', Int.not_lt, Int.not_le, Decidable.not_not, beq_iff_eq, bne_iff_ne, ne_eq, beq_eq_false_iff_ne] at h112
      refine c_exit ?_
      refine c_seq ?_
      refine c_region ?_
      refine o_L (y_assign rfl) rfl rfl ?_
      refine o_nil0 rfl ?_
      refine c_ret ?_
      refine fun aX wX heX hsX => ret1 Tryz.results73 heX rfl (s_take (s_take s_nil)) ?_
      exact ⟨congrArg Value.bool (decide_eq_true (by rw [List.take_of_length_le (by omega), List.take_of_length_le (by omega)] at g5; exact g5)).symm, rfl⟩

end Go.Proofs.Qxb6500351aGreat
