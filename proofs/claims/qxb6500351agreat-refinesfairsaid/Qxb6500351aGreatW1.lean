/- MADE BY PROGRAM (tools/gen.py over tools/specs351.py): walks. -/
import Derived.Test.Qxb6500351aGreatFacts
import Derived.Test.Qxb6500351aGreatMd1
import Derived.Test.Qxb6500351aGreatEngX
import Derived.Test.Qxb6500351aGreatEngD
set_option linter.unusedVariables false
set_option linter.unusedSimpArgs false
namespace Go.Proofs.Qxb6500351aGreat
open Go.Eng
set_option maxRecDepth 20000
/-- e2e/api.SeqAdd -/
theorem t143 (a n : Int) : Trip Tryz.prog 143 #[.int .i64 a, .int .i64 n] [] (fun u S' => S' = [] ∧ u = .int .i64 (seqAdd a n)) := by
  have q1 := tmB a
  have q2 := tmB n
  have q3 := tmB (a.tmod 256 + n.tmod 256)
  refine fn_entry (args := [.int .i64 a, .int .i64 n]) Tryz.func143 rfl Tryz.ntmps143 rfl (fun w0 => ?_)
  refine c_seq ?_
  refine c_region ?_
  refine o_L (y_assign rfl) rfl rfl ?_
  refine o_nil0 rfl ?_
  refine c_seq ?_
  refine c_region ?_
  refine o_T (y_move rfl) rfl ?_
  refine o_T (y_rem rfl rfl (by decide) rfl) rfl ?_
  refine o_T (y_move rfl) rfl ?_
  refine o_T (y_rem rfl rfl (by decide) rfl) rfl ?_
  refine o_T (y_add rfl rfl (w64 (by omega))) rfl ?_
  refine o_T (y_rem rfl rfl (by decide) rfl) rfl ?_
  refine o_T (y_add rfl rfl (w64 (by omega))) rfl ?_
  refine o_T (y_rem rfl rfl (by decide) rfl) rfl ?_
  refine o_L (y_assign rfl) rfl rfl ?_
  refine o_nil0 rfl ?_
  refine c_ret ?_
  refine fun aX wX heX hsX => ret1 Tryz.results143 heX rfl s_nil ?_
  refine ⟨rfl, congrArg (Value.int .i64) ?_⟩
  rw [Int.tmod_eq_emod_of_nonneg (by omega : (0:Int) ≤ (a.tmod 256 + n.tmod 256).tmod 256 + 256)]
  exact seqAdd_eq a n

/-- e2e/api.SeqDiff -/
theorem t212 (a n : Int) : Trip Tryz.prog 212 #[.int .i64 a, .int .i64 n] [] (fun u S' => S' = [] ∧ u = .int .i64 (seqDiff a n)) := by
  have q1 := tmB n
  have q2 := seqAdd_b a (-n.tmod 256)
  refine fn_entry (args := [.int .i64 a, .int .i64 n]) Tryz.func212 rfl Tryz.ntmps212 rfl (fun w0 => ?_)
  refine c_seq ?_
  refine c_region ?_
  refine o_L (y_assign rfl) rfl rfl ?_
  refine o_nil0 rfl ?_
  refine c_seq ?_
  refine c_region ?_
  refine o_T (y_move rfl) rfl ?_
  refine o_T (y_move rfl) rfl ?_
  refine o_T (y_rem rfl rfl (by decide) rfl) rfl ?_
  refine o_T (y_neg rfl ((w64 (by omega)).trans (Int.zero_sub _))) rfl ?_
  refine o_callv en_143 rfl (t143 _ _) rfl ?_
  refine o_L (y_assign rfl) rfl rfl ?_
  refine o_nil0 rfl ?_
  refine c_seq ?_
  refine c_seq ?_
  refine c_region ?_
  refine o_T (y_move rfl) rfl ?_
  refine o_T (y_geq rfl rfl) rfl ?_
  refine o_nil1 12 rfl rfl ?_
  refine c_cond rfl (fun h103 => ?_) (fun h103 => ?_)
  · try simp only [decide_eq_true_eq, decide_eq_false_iff_not, Bool.not_eq_true', Bool.not_eq_false', Int.not_lt, Int.not_le, Decidable.not_not, beq_iff_eq, bne_iff_ne, ne_eq, beq_eq_false_iff_ne] at h103
    refine c_region ?_
    refine o_T (y_move rfl) rfl ?_
    refine o_T (y_sub rfl rfl (w64 (by omega))) rfl ?_
    refine o_L (y_assign rfl) rfl rfl ?_
    refine o_nil0 rfl ?_
    refine c_seq ?_
    refine c_region ?_
    refine o_T (y_move rfl) rfl ?_
    refine o_L (y_assign rfl) rfl rfl ?_
    refine o_nil0 rfl ?_
    refine c_ret ?_
    refine fun aX wX heX hsX => ret1 Tryz.results212 heX rfl s_nil ?_
    exact ⟨rfl, congrArg (Value.int .i64) (seqDiff_ge h103)⟩
  · try simp only [decide_eq_true_eq, decide_eq_false_iff_not, Bool.not_eq_true', Bool.not_eq_false', Int.not_lt, Int.not_le, Decidable.not_not, beq_iff_eq, bne_iff_ne, ne_eq, beq_eq_false_iff_ne] at h103
    refine c_skip ?_
    refine c_seq ?_
    refine c_region ?_
    refine o_T (y_move rfl) rfl ?_
    refine o_L (y_assign rfl) rfl rfl ?_
    refine o_nil0 rfl ?_
    refine c_ret ?_
    refine fun aX wX heX hsX => ret1 Tryz.results212 heX rfl s_nil ?_
    exact ⟨rfl, congrArg (Value.int .i64) (seqDiff_lt h103)⟩

/-- e2e/conn.window -/
theorem t198 (w : Int) : Trip Tryz.prog 198 #[.int .i64 w] [] (fun u S' => S' = [] ∧ u = .int .i64 (window w)) := by
  refine fn_entry (args := [.int .i64 w]) Tryz.func198 rfl Tryz.ntmps198 rfl (fun w0 => ?_)
  refine c_seq ?_
  refine c_region ?_
  refine o_L (y_assign rfl) rfl rfl ?_
  refine o_nil0 rfl ?_
  refine c_seq ?_
  refine c_seq ?_
  refine c_region ?_
  refine o_T (y_move rfl) rfl ?_
  refine o_T (y_lss rfl rfl) rfl ?_
  refine o_nil1 4 rfl rfl ?_
  refine c_cond rfl (fun h35 => ?_) (fun h35 => ?_)
  · try simp only [decide_eq_true_eq, decide_eq_false_iff_not, Bool.not_eq_true', Bool.not_eq_false', Int.not_lt, Int.not_le, Decidable.not_not, beq_iff_eq, bne_iff_ne, ne_eq, beq_eq_false_iff_ne] at h35
    refine c_seq ?_
    refine c_region ?_
    refine o_L (y_assign rfl) rfl rfl ?_
    refine o_nil0 rfl ?_
    refine c_ret ?_
    refine fun aX wX heX hsX => ret1 Tryz.results198 heX rfl s_nil ?_
    exact ⟨rfl, congrArg (Value.int .i64) (by unfold window; (repeat split) <;> omega)⟩
  · try simp only [decide_eq_true_eq, decide_eq_false_iff_not, Bool.not_eq_true', Bool.not_eq_false', Int.not_lt, Int.not_le, Decidable.not_not, beq_iff_eq, bne_iff_ne, ne_eq, beq_eq_false_iff_ne] at h35
    refine c_skip ?_
    refine c_seq ?_
    refine c_seq ?_
    refine c_region ?_
    refine o_T (y_move rfl) rfl ?_
    refine o_T (y_gtr rfl rfl) rfl ?_
    refine o_nil1 6 rfl rfl ?_
    refine c_cond rfl (fun h38 => ?_) (fun h38 => ?_)
    · try simp only [decide_eq_true_eq, decide_eq_false_iff_not, Bool.not_eq_true', Bool.not_eq_false', Int.not_lt, Int.not_le, Decidable.not_not, beq_iff_eq, bne_iff_ne, ne_eq, beq_eq_false_iff_ne] at h38
      refine c_seq ?_
      refine c_region ?_
      refine o_L (y_assign rfl) rfl rfl ?_
      refine o_nil0 rfl ?_
      refine c_ret ?_
      refine fun aX wX heX hsX => ret1 Tryz.results198 heX rfl s_nil ?_
      exact ⟨rfl, congrArg (Value.int .i64) (by unfold window; (repeat split) <;> omega)⟩
    · try simp only [decide_eq_true_eq, decide_eq_false_iff_not, Bool.not_eq_true', Bool.not_eq_false', Int.not_lt, Int.not_le, Decidable.not_not, beq_iff_eq, bne_iff_ne, ne_eq, beq_eq_false_iff_ne] at h38
      refine c_skip ?_
      refine c_seq ?_
      refine c_region ?_
      refine o_T (y_move rfl) rfl ?_
      refine o_L (y_assign rfl) rfl rfl ?_
      refine o_nil0 rfl ?_
      refine c_ret ?_
      refine fun aX wX heX hsX => ret1 Tryz.results198 heX rfl s_nil ?_
      exact ⟨rfl, congrArg (Value.int .i64) (by unfold window; (repeat split) <;> omega)⟩

/-- e2e/seg.least -/
theorem t209 (m h : Int) : Trip Tryz.prog 209 #[.int .i64 m, .int .i64 h] [] (fun u S' => S' = [] ∧ u = .int .i64 (least m h)) := by
  refine fn_entry (args := [.int .i64 m, .int .i64 h]) Tryz.func209 rfl Tryz.ntmps209 rfl (fun w0 => ?_)
  refine c_seq ?_
  refine c_region ?_
  refine o_L (y_assign rfl) rfl rfl ?_
  refine o_nil0 rfl ?_
  refine c_seq ?_
  refine c_seq ?_
  refine c_region ?_
  refine o_T (y_move rfl) rfl ?_
  refine o_T (y_move rfl) rfl ?_
  refine o_T (y_gtr rfl rfl) rfl ?_
  refine o_nil1 7 rfl rfl ?_
  refine c_cond rfl (fun h51 => ?_) (fun h51 => ?_)
  · try simp only [decide_eq_true_eq, decide_eq_false_iff_not, Bool.not_eq_true', Bool.not_eq_false', Int.not_lt, Int.not_le, Decidable.not_not, beq_iff_eq, bne_iff_ne, ne_eq, beq_eq_false_iff_ne] at h51
    refine c_region ?_
    refine o_T (y_move rfl) rfl ?_
    refine o_L (y_assign rfl) rfl rfl ?_
    refine o_nil0 rfl ?_
    refine c_seq ?_
    refine c_seq ?_
    refine c_region ?_
    refine o_T (y_move rfl) rfl ?_
    refine o_T (y_lss rfl rfl) rfl ?_
    refine o_nil1 10 rfl rfl ?_
    refine c_cond rfl (fun h54 => ?_) (fun h54 => ?_)
    · try simp only [decide_eq_true_eq, decide_eq_false_iff_not, Bool.not_eq_true', Bool.not_eq_false', Int.not_lt, Int.not_le, Decidable.not_not, beq_iff_eq, bne_iff_ne, ne_eq, beq_eq_false_iff_ne] at h54
      refine c_region ?_
      refine o_L (y_assign rfl) rfl rfl ?_
      refine o_nil0 rfl ?_
      refine c_seq ?_
      refine c_region ?_
      refine o_T (y_move rfl) rfl ?_
      refine o_L (y_assign rfl) rfl rfl ?_
      refine o_nil0 rfl ?_
      refine c_ret ?_
      refine fun aX wX heX hsX => ret1 Tryz.results209 heX rfl s_nil ?_
      exact ⟨rfl, congrArg (Value.int .i64) (by unfold least; omega)⟩
    · try simp only [decide_eq_true_eq, decide_eq_false_iff_not, Bool.not_eq_true', Bool.not_eq_false', Int.not_lt, Int.not_le, Decidable.not_not, beq_iff_eq, bne_iff_ne, ne_eq, beq_eq_false_iff_ne] at h54
      refine c_skip ?_
      refine c_seq ?_
      refine c_region ?_
      refine o_T (y_move rfl) rfl ?_
      refine o_L (y_assign rfl) rfl rfl ?_
      refine o_nil0 rfl ?_
      refine c_ret ?_
      refine fun aX wX heX hsX => ret1 Tryz.results209 heX rfl s_nil ?_
      exact ⟨rfl, congrArg (Value.int .i64) (by unfold least; omega)⟩
  · try simp only [decide_eq_true_eq, decide_eq_false_iff_not, Bool.not_eq_true', Bool.not_eq_false', Int.not_lt, Int.not_le, Decidable.not_not, beq_iff_eq, bne_iff_ne, ne_eq, beq_eq_false_iff_ne] at h51
    refine c_skip ?_
    refine c_seq ?_
    refine c_seq ?_
    refine c_region ?_
    refine o_T (y_move rfl) rfl ?_
    refine o_T (y_lss rfl rfl) rfl ?_
    refine o_nil1 10 rfl rfl ?_
    refine c_cond rfl (fun h54 => ?_) (fun h54 => ?_)
    · try simp only [decide_eq_true_eq, decide_eq_false_iff_not, Bool.not_eq_true', Bool.not_eq_false', Int.not_lt, Int.not_le, Decidable.not_not, beq_iff_eq, bne_iff_ne, ne_eq, beq_eq_false_iff_ne] at h54
      refine c_region ?_
      refine o_L (y_assign rfl) rfl rfl ?_
      refine o_nil0 rfl ?_
      refine c_seq ?_
      refine c_region ?_
      refine o_T (y_move rfl) rfl ?_
      refine o_L (y_assign rfl) rfl rfl ?_
      refine o_nil0 rfl ?_
      refine c_ret ?_
      refine fun aX wX heX hsX => ret1 Tryz.results209 heX rfl s_nil ?_
      exact ⟨rfl, congrArg (Value.int .i64) (by unfold least; omega)⟩
    · try simp only [decide_eq_true_eq, decide_eq_false_iff_not, Bool.not_eq_true', Bool.not_eq_false', Int.not_lt, Int.not_le, Decidable.not_not, beq_iff_eq, bne_iff_ne, ne_eq, beq_eq_false_iff_ne] at h54
      refine c_skip ?_
      refine c_seq ?_
      refine c_region ?_
      refine o_T (y_move rfl) rfl ?_
      refine o_L (y_assign rfl) rfl rfl ?_
      refine o_nil0 rfl ?_
      refine c_ret ?_
      refine fun aX wX heX hsX => ret1 Tryz.results209 heX rfl s_nil ?_
      exact ⟨rfl, congrArg (Value.int .i64) (by unfold least; omega)⟩

/-- (*e2e/seg.SendBuf).Len -/
theorem t110 (b : Nat) (s : Sb) (ok : s.Ok) : Trip Tryz.prog 110 #[.pointer (some ⟨b, 0, none⟩)] [[(b, .cells s.enc 162 (0, 0))]] (fun u S' => u = .int .i64 s.count ∧ S' = [[(b, .cells s.enc 162 (0, 0))]]) := by
  have ok0 := ok
  obtain ⟨k1, k2, k3, k4, k5, k6, k7, k8⟩ := ok
  refine fn_entry (args := [.pointer (some ⟨b, 0, none⟩)]) Tryz.func110 rfl Tryz.ntmps110 rfl (fun w0 => ?_)
  refine c_seq ?_
  refine c_region ?_
  refine o_L (y_assign rfl) rfl rfl ?_
  refine o_nil0 rfl ?_
  refine c_seq ?_
  refine c_region ?_
  refine o_T (y_move rfl) rfl ?_
  refine o_T (y_nilck rfl) rfl ?_
  refine o_T (y_fa fl_162_2 rfl) rfl ?_
  refine o_ld one_3 rfl m0 Sb.g17 rfl ?_
  refine o_L (y_assign rfl) rfl rfl ?_
  refine o_nil0 rfl ?_
  refine c_ret ?_
  refine fun aX wX heX hsX => ret1 Tryz.results110 heX rfl (s_take s_nil) ?_
  exact ⟨rfl, rfl⟩

/-- (*e2e/seg.SendBuf).Unsent -/
theorem t111 (b : Nat) (s : Sb) (ok : s.Ok) : Trip Tryz.prog 111 #[.pointer (some ⟨b, 0, none⟩)] [[(b, .cells s.enc 162 (0, 0))]] (fun u S' => u = .int .i64 s.unsent ∧ S' = [[(b, .cells s.enc 162 (0, 0))]]) := by
  have ok0 := ok
  obtain ⟨k1, k2, k3, k4, k5, k6, k7, k8⟩ := ok
  refine fn_entry (args := [.pointer (some ⟨b, 0, none⟩)]) Tryz.func111 rfl Tryz.ntmps111 rfl (fun w0 => ?_)
  refine c_seq ?_
  refine c_region ?_
  refine o_L (y_assign rfl) rfl rfl ?_
  refine o_nil0 rfl ?_
  refine c_seq ?_
  refine c_draw #[true, true, true, true, true, true, true, true, true, true] rfl (n := 10) rfl ?_
  refine d_T 0 rfl (by kernel_rfl) rfl (y_move rfl) rfl ?_
  refine d_T 1 rfl (by kernel_rfl) rfl (y_nilck rfl) rfl ?_
  refine d_T 2 rfl (by kernel_rfl) rfl (y_fa fl_162_2 rfl) rfl ?_
  refine d_ld 3 rfl (by kernel_rfl) one_3 rfl (fun x hx => hx) m0 Sb.g17 rfl ?_
  refine d_T 4 rfl (by kernel_rfl) rfl (y_move rfl) rfl ?_
  refine d_T 5 rfl (by kernel_rfl) rfl (y_nilck rfl) rfl ?_
  refine d_T 6 rfl (by kernel_rfl) rfl (y_fa fl_162_3 rfl) rfl ?_
  refine d_ld 7 rfl (by kernel_rfl) one_3 rfl (fun x hx => hx) m0 Sb.g18 rfl ?_
  refine d_T 8 rfl (by kernel_rfl) rfl (y_sub rfl rfl (w64 (by omega))) rfl ?_
  refine d_L 9 rfl (by kernel_rfl) rfl (y_assign rfl) rfl rfl ?_
  refine d_nil0 (by kernel_rfl) rfl ?_
  refine c_ret ?_
  refine fun aX wX heX hsX => ret1 Tryz.results111 heX rfl (s_take s_nil) ?_
  exact ⟨rfl, rfl⟩

/-- (*e2e/seg.SendBuf).Una -/
theorem t142 (b : Nat) (s : Sb) (ok : s.Ok) : Trip Tryz.prog 142 #[.pointer (some ⟨b, 0, none⟩)] [[(b, .cells s.enc 162 (0, 0))]] (fun u S' => u = .int .i64 s.una ∧ S' = [[(b, .cells s.enc 162 (0, 0))]]) := by
  have ok0 := ok
  obtain ⟨k1, k2, k3, k4, k5, k6, k7, k8⟩ := ok
  refine fn_entry (args := [.pointer (some ⟨b, 0, none⟩)]) Tryz.func142 rfl Tryz.ntmps142 rfl (fun w0 => ?_)
  refine c_seq ?_
  refine c_region ?_
  refine o_L (y_assign rfl) rfl rfl ?_
  refine o_nil0 rfl ?_
  refine c_seq ?_
  refine c_region ?_
  refine o_T (y_move rfl) rfl ?_
  refine o_T (y_nilck rfl) rfl ?_
  refine o_T (y_fa fl_162_4 rfl) rfl ?_
  refine o_ld one_5 rfl m0 Sb.g19 rfl ?_
  refine o_T (y_conv Tryz.underlying5 Tryz.underlying3 rfl (w64 (by omega))) rfl ?_
  refine o_L (y_assign rfl) rfl rfl ?_
  refine o_nil0 rfl ?_
  refine c_ret ?_
  refine fun aX wX heX hsX => ret1 Tryz.results142 heX rfl (s_take s_nil) ?_
  exact ⟨rfl, rfl⟩

/-- (*e2e/seg.SendBuf).Nxt -/
theorem t205 (b : Nat) (s : Sb) (ok : s.Ok) : Trip Tryz.prog 205 #[.pointer (some ⟨b, 0, none⟩)] [[(b, .cells s.enc 162 (0, 0))]] (fun u S' => u = .int .i64 s.nxt ∧ S' = [[(b, .cells s.enc 162 (0, 0))]]) := by
  have ok0 := ok
  obtain ⟨k1, k2, k3, k4, k5, k6, k7, k8⟩ := ok
  refine fn_entry (args := [.pointer (some ⟨b, 0, none⟩)]) Tryz.func205 rfl Tryz.ntmps205 rfl (fun w0 => ?_)
  refine c_seq ?_
  refine c_region ?_
  refine o_L (y_assign rfl) rfl rfl ?_
  refine o_nil0 rfl ?_
  refine c_seq ?_
  refine c_draw #[true, true, true, true, true, true, true, true, true, true, true, true] rfl (n := 12) rfl ?_
  refine d_T 0 rfl (by kernel_rfl) rfl (y_move rfl) rfl ?_
  refine d_T 1 rfl (by kernel_rfl) rfl (y_nilck rfl) rfl ?_
  refine d_T 2 rfl (by kernel_rfl) rfl (y_fa fl_162_4 rfl) rfl ?_
  refine d_ld 3 rfl (by kernel_rfl) one_5 rfl (fun x hx => hx) m0 Sb.g19 rfl ?_
  refine d_T 4 rfl (by kernel_rfl) rfl (y_move rfl) rfl ?_
  refine d_T 5 rfl (by kernel_rfl) rfl (y_nilck rfl) rfl ?_
  refine d_T 6 rfl (by kernel_rfl) rfl (y_fa fl_162_3 rfl) rfl ?_
  refine d_ld 7 rfl (by kernel_rfl) one_3 rfl (fun x hx => hx) m0 Sb.g18 rfl ?_
  refine d_T 8 rfl (by kernel_rfl) rfl (y_conv Tryz.underlying3 Tryz.underlying5 rfl (w8 _)) rfl ?_
  refine d_T 9 rfl (by kernel_rfl) rfl (y_add rfl rfl (w8 _)) rfl ?_
  refine d_T 10 rfl (by kernel_rfl) rfl (y_conv Tryz.underlying5 Tryz.underlying3 rfl (w64 (by omega))) rfl ?_
  refine d_L 11 rfl (by kernel_rfl) rfl (y_assign rfl) rfl rfl ?_
  refine d_nil0 (by kernel_rfl) rfl ?_
  refine c_ret ?_
  refine fun aX wX heX hsX => ret1 Tryz.results205 heX rfl (s_take s_nil) ?_
  exact ⟨congrArg (Value.int .i64) (by unfold Sb.nxt; omega), rfl⟩

/-- (*e2e/seg.SendBuf).Reset -/
theorem t201 (b : Nat) (s : Sb) (q : Int) (ok : s.Ok) : Trip Tryz.prog 201 #[.pointer (some ⟨b, 0, none⟩), .int .i64 q] [[(b, .cells s.enc 162 (0, 0))]] (fun u S' => u = .tuple #[] ∧ S' = [[(b, .cells (s.reset q).enc 162 (0, 0))]] ∧ (s.reset q).Ok) := by
  have q0 := seqAdd_b q 0
  refine fn_entry (args := [.pointer (some ⟨b, 0, none⟩), .int .i64 q]) Tryz.func201 rfl Tryz.ntmps201 rfl (fun w0 => ?_)
  refine c_seq ?_
  refine c_region ?_
  refine o_T (y_move rfl) rfl ?_
  refine o_callv en_143 rfl (t143 _ _) rfl ?_
  refine o_L (y_assign rfl) rfl rfl ?_
  refine o_nil0 rfl ?_
  refine c_seq ?_
  refine c_region ?_
  refine o_T (y_move rfl) rfl ?_
  refine o_T (y_move rfl) rfl ?_
  refine o_T (y_conv Tryz.underlying3 Tryz.underlying5 rfl (w8 _)) rfl ?_
  refine o_T (y_nilck rfl) rfl ?_
  refine o_T (y_fa fl_162_4 rfl) rfl ?_
  refine o_st one_5 rfl rfl rfl r0 Sb.s19 (of_blt rfl) ?_
  refine o_nil0 rfl ?_
  refine c_seq ?_
  refine c_region ?_
  refine o_T (y_move rfl) rfl ?_
  refine o_T (y_nilck rfl) rfl ?_
  refine o_T (y_fa fl_162_1 rfl) rfl ?_
  refine o_st one_3 rfl rfl rfl r0 Sb.s16 (of_blt rfl) ?_
  refine o_nil0 rfl ?_
  refine c_seq ?_
  refine c_region ?_
  refine o_T (y_move rfl) rfl ?_
  refine o_T (y_nilck rfl) rfl ?_
  refine o_T (y_fa fl_162_2 rfl) rfl ?_
  refine o_st one_3 rfl rfl rfl r0 Sb.s17 (of_blt rfl) ?_
  refine o_nil0 rfl ?_
  refine c_region ?_
  refine o_T (y_move rfl) rfl ?_
  refine o_T (y_nilck rfl) rfl ?_
  refine o_T (y_fa fl_162_3 rfl) rfl ?_
  refine o_st one_3 rfl rfl rfl r0 Sb.s18 (of_blt rfl) ?_
  refine o_nil0 rfl ?_
  refine fun aX wX heX hsX => ret0 Tryz.results201 (s_take s_nil) ?_
  refine ⟨rfl, by simp [Sb.reset, Int.emod_eq_of_lt q0.1 q0.2], Sb.ok_reset ok _⟩

/-- (*e2e/seg.SendBuf).Ack -/
theorem t217 (b : Nat) (s : Sb) (a : Int) (ok : s.Ok) : Trip Tryz.prog 217 #[.pointer (some ⟨b, 0, none⟩), .int .i64 a] [[(b, .cells s.enc 162 (0, 0))]] (fun u S' => u = .int .i64 (s.ackN a) ∧ S' = [[(b, .cells (s.ack a).enc 162 (0, 0))]] ∧ (s.ack a).Ok) := by
  have ok0 := ok
  obtain ⟨k1, k2, k3, k4, k5, k6, k7, k8⟩ := ok
  have q0 := seqDiff_b a s.una
  refine fn_entry (args := [.pointer (some ⟨b, 0, none⟩), .int .i64 a]) Tryz.func217 rfl Tryz.ntmps217 rfl (fun w0 => ?_)
  refine c_seq ?_
  refine c_region ?_
  refine o_L (y_assign rfl) rfl rfl ?_
  refine o_nil0 rfl ?_
  refine c_seq ?_
  refine c_region ?_
  refine o_T (y_move rfl) rfl ?_
  refine o_T (y_move rfl) rfl ?_
  refine o_T (y_nilck rfl) rfl ?_
  refine o_T (y_fa fl_162_4 rfl) rfl ?_
  refine o_ld one_5 rfl m0 Sb.g19 rfl ?_
  refine o_T (y_conv Tryz.underlying5 Tryz.underlying3 rfl (w64 (by omega))) rfl ?_
  refine o_callv en_212 rfl (t212 _ _) rfl ?_
  refine o_L (y_assign rfl) rfl rfl ?_
  refine o_nil0 rfl ?_
  refine c_seq ?_
  refine c_seq ?_
  refine c_region ?_
  refine o_T (y_move rfl) rfl ?_
  refine o_T (y_leq rfl rfl) rfl ?_
  refine o_T (y_move rfl) rfl ?_
  refine o_split 15 rfl (fun h96 => ?_) (fun h96 => ?_)
  · try simp only [decide_eq_true_eq, decide_eq_false_iff_not, Bool.not_eq_true', Bool.not_eq_false', Int.not_lt, Int.not_le, Decidable.not_not, beq_iff_eq, bne_iff_ne, ne_eq, beq_eq_false_iff_ne] at h96
    refine o_pass rfl rfl rfl rfl rfl ?_
    refine o_pass rfl rfl rfl rfl rfl ?_
    refine o_pass rfl rfl rfl rfl rfl ?_
    refine o_pass rfl rfl rfl rfl rfl ?_
    refine o_pass rfl rfl rfl rfl rfl ?_
    refine o_pass rfl rfl rfl rfl rfl ?_
    refine o_T (y_pickT rfl rfl) rfl ?_
    refine o_nil1 22 rfl rfl ?_
    refine c_condT rfl ?_
    refine c_seq ?_
    refine c_region ?_
    refine o_L (y_assign rfl) rfl rfl ?_
    refine o_nil0 rfl ?_
    refine c_ret ?_
    refine fun aX wX heX hsX => ret1 Tryz.results217 heX rfl (s_take s_nil) ?_
    refine ⟨by first | rfl | ((unfold Sb.ackN; repeat' split) <;> first | rfl | (exfalso; omega) | (simp_all; done)), by first | rfl | ((unfold Sb.ack; repeat' split) <;> first | rfl | (exfalso; omega) | (simp_all; done)), Sb.ok_ack ok0 a⟩
  · try simp only [decide_eq_true_eq, decide_eq_false_iff_not, Bool.not_eq_true', Bool.not_eq_false', Int.not_lt, Int.not_le, Decidable.not_not, beq_iff_eq, bne_iff_ne, ne_eq, beq_eq_false_iff_ne] at h96
    refine o_take rfl rfl rfl ?_
    refine o_T (y_move rfl) rfl ?_
    refine o_take rfl rfl rfl ?_
    refine o_T (y_move rfl) rfl ?_
    refine o_take rfl rfl rfl ?_
    refine o_T (y_nilck rfl) rfl ?_
    refine o_take rfl rfl rfl ?_
    refine o_T (y_fa fl_162_3 rfl) rfl ?_
    refine o_take rfl rfl rfl ?_
    refine o_ld one_3 rfl m0 Sb.g18 rfl ?_
    refine o_take rfl rfl rfl ?_
    refine o_T (y_gtr rfl rfl) rfl ?_
    refine o_T (y_pickF rfl rfl) rfl ?_
    refine o_nil1 22 rfl rfl ?_
    refine c_cond rfl (fun h96_1 => ?_) (fun h96_1 => ?_)
    · try simp only [decide_eq_true_eq, decide_eq_false_iff_not, Bool.not_eq_true', Bool.not_eq_false', Int.not_lt, Int.not_le, Decidable.not_not, beq_iff_eq, bne_iff_ne, ne_eq, beq_eq_false_iff_ne] at h96_1
      refine c_seq ?_
      refine c_region ?_
      refine o_L (y_assign rfl) rfl rfl ?_
      refine o_nil0 rfl ?_
      refine c_ret ?_
      refine fun aX wX heX hsX => ret1 Tryz.results217 heX rfl (s_take s_nil) ?_
      refine ⟨by first | rfl | ((unfold Sb.ackN; repeat' split) <;> first | rfl | (exfalso; omega) | (simp_all; done)), by first | rfl | ((unfold Sb.ack; repeat' split) <;> first | rfl | (exfalso; omega) | (simp_all; done)), Sb.ok_ack ok0 a⟩
    · try simp only [decide_eq_true_eq, decide_eq_false_iff_not, Bool.not_eq_true', Bool.not_eq_false', Int.not_lt, Int.not_le, Decidable.not_not, beq_iff_eq, bne_iff_ne, ne_eq, beq_eq_false_iff_ne] at h96_1
      refine c_skip ?_
      refine c_seq ?_
      refine c_region ?_
      refine o_T (y_move rfl) rfl ?_
      refine o_T (y_move rfl) rfl ?_
      refine o_T (y_nilck rfl) rfl ?_
      refine o_T (y_fa fl_162_1 rfl) rfl ?_
      refine o_ld one_3 rfl m0 Sb.g16 rfl ?_
      refine o_T (y_move rfl) rfl ?_
      refine o_T (y_add rfl rfl (w64 (by omega))) rfl ?_
      refine o_T (y_rem rfl rfl (by decide) (tm (by omega))) rfl ?_
      refine o_T (y_nilck rfl) rfl ?_
      refine o_T (y_fa fl_162_1 rfl) rfl ?_
      refine o_st one_3 rfl rfl rfl r0 Sb.s16 (of_blt rfl) ?_
      refine o_nil0 rfl ?_
      refine c_seq ?_
      refine c_region ?_
      refine o_T (y_move rfl) rfl ?_
      refine o_T (y_nilck rfl) rfl ?_
      refine o_T (y_fa fl_162_2 rfl) rfl ?_
      refine o_ld one_3 rfl m0 Sb.g17 rfl ?_
      refine o_T (y_move rfl) rfl ?_
      refine o_T (y_sub rfl rfl (w64 (by omega))) rfl ?_
      refine o_T (y_nilck rfl) rfl ?_
      refine o_T (y_fa fl_162_2 rfl) rfl ?_
      refine o_st one_3 rfl rfl rfl r0 Sb.s17 (of_blt rfl) ?_
      refine o_nil0 rfl ?_
      refine c_seq ?_
      refine c_region ?_
      refine o_T (y_move rfl) rfl ?_
      refine o_T (y_nilck rfl) rfl ?_
      refine o_T (y_fa fl_162_3 rfl) rfl ?_
      refine o_ld one_3 rfl m0 Sb.g18 rfl ?_
      refine o_T (y_move rfl) rfl ?_
      refine o_T (y_sub rfl rfl (w64 (by omega))) rfl ?_
      refine o_T (y_nilck rfl) rfl ?_
      refine o_T (y_fa fl_162_3 rfl) rfl ?_
      refine o_st one_3 rfl rfl rfl r0 Sb.s18 (of_blt rfl) ?_
      refine o_nil0 rfl ?_
      refine c_seq ?_
      refine c_region ?_
      refine o_T (y_move rfl) rfl ?_
      refine o_T (y_nilck rfl) rfl ?_
      refine o_T (y_fa fl_162_4 rfl) rfl ?_
      refine o_ld one_5 rfl m0 Sb.g19 rfl ?_
      refine o_T (y_move rfl) rfl ?_
      refine o_T (y_conv Tryz.underlying3 Tryz.underlying5 rfl (w8 _)) rfl ?_
      refine o_T (y_add rfl rfl (w8 _)) rfl ?_
      refine o_T (y_nilck rfl) rfl ?_
      refine o_T (y_fa fl_162_4 rfl) rfl ?_
      refine o_st one_5 rfl rfl rfl r0 Sb.s19 (of_blt rfl) ?_
      refine o_nil0 rfl ?_
      refine c_seq ?_
      refine c_region ?_
      refine o_T (y_move rfl) rfl ?_
      refine o_L (y_assign rfl) rfl rfl ?_
      refine o_nil0 rfl ?_
      refine c_ret ?_
      refine fun aX wX heX hsX => ret1 Tryz.results217 heX rfl (s_take s_nil) ?_
      refine ⟨by first | rfl | ((unfold Sb.ackN; repeat' split) <;> first | rfl | (exfalso; omega) | (simp_all; done)), by first | rfl | ((unfold Sb.ack; repeat' split) <;> first | rfl | (exfalso; omega) | (simp_all; done)), Sb.ok_ack ok0 a⟩

end Go.Proofs.Qxb6500351aGreat
