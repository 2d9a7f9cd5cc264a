/- MADE BY PROGRAM (tools/gen.py over tools/specs351.py): walks. -/
import Derived.Test.Qxb6500351aGreatFacts
import Derived.Test.Qxb6500351aGreatW51
set_option linter.unusedVariables false
set_option linter.unusedSimpArgs false
namespace Go.Proofs.Qxb6500351aGreat
open Go.Eng
set_option maxRecDepth 20000
set_option maxHeartbeats 4000000
/-- e2e/hostm.ended -/
theorem t133 (b : Nat) (ci : Ci) : Trip Tryz.prog 133 #[.pointer (some ⟨b, 0, none⟩)] [[(b, .cells ci.enc 95 (0, 0))]] (fun u S' => u = .int .i64 (ciEnded ci) ∧ S' = [[(b, .cells ci.enc 95 (0, 0))]]) := by
  refine fn_entry (args := [.pointer (some ⟨b, 0, none⟩)]) Tryz.func133 rfl Tryz.ntmps133 rfl (fun w0 => ?_)
  refine c_seq ?_
  refine c_region ?_
  refine o_L (y_assign rfl) rfl rfl ?_
  refine o_nil0 rfl ?_
  refine c_seq ?_
  refine c_seq ?_
  refine c_region ?_
  refine o_T (y_move rfl) rfl ?_
  refine o_T (y_nilck rfl) rfl ?_
  refine o_T (y_fa fl_95_1 rfl) rfl ?_
  refine o_ld one_70 rfl m0 Ci.g1 rfl ?_
  refine o_T (y_neq rfl rfl) rfl ?_
  refine o_nil1 7 rfl rfl ?_
  refine c_cond rfl (fun h240 => ?_) (fun h240 => ?_)
  · try simp only [decide_eq_true_eq, decide_eq_false_iff_not, Bool.not_eq_true', Bool.not_eq_false', Int.not_lt, Int.not_le, Decidable.not_not, beq_iff_eq, bne_iff_ne, ne_eq, beq_eq_false_iff_ne] at h240
    refine c_seq ?_
    refine c_region ?_
    refine o_T (y_move rfl) rfl ?_
    refine o_T (y_nilck rfl) rfl ?_
    refine o_T (y_fa fl_95_1 rfl) rfl ?_
    refine o_ld one_70 rfl m0 Ci.g1 rfl ?_
    refine o_L (y_assign rfl) rfl rfl ?_
    refine o_nil0 rfl ?_
    refine c_ret ?_
    refine fun aX wX heX hsX => ret1 Tryz.results133 heX rfl (s_take s_nil) ?_
    refine ⟨?_, rfl⟩
    unfold ciEnded
    repeat' split
    all_goals first | rfl | (exfalso; omega) | (exfalso; simp_all; done) | (simp_all; done)
  · try simp only [decide_eq_true_eq, decide_eq_false_iff_not, Bool.not_eq_true', Bool.not_eq_false', Int.not_lt, Int.not_le, Decidable.not_not, beq_iff_eq, bne_iff_ne, ne_eq, beq_eq_false_iff_ne] at h240
    refine c_skip ?_
    refine c_seq ?_
    refine c_region ?_
    refine o_L (y_assign rfl) rfl rfl ?_
    refine o_nil0 rfl ?_
    refine c_ret ?_
    refine fun aX wX heX hsX => ret1 Tryz.results133 heX rfl (s_take s_nil) ?_
    refine ⟨?_, rfl⟩
    unfold ciEnded
    repeat' split
    all_goals first | rfl | (exfalso; omega) | (exfalso; simp_all; done) | (simp_all; done)

/-- e2e/hostm.WantSend -/
theorem t94 (b : Nat) (ci : Ci) (n : Int) (hq : 0 ≤ ci.queued ∧ ci.queued ≤ 1000) : Trip Tryz.prog 94 #[.pointer (some ⟨b, 0, none⟩), .int .i64 n] [[(b, .cells ci.enc 95 (0, 0))]] (fun u S' => u = .tuple #[.int .i64 (wantSend ci n).1, .int .i64 (wantSend ci n).2] ∧ S' = [[(b, .cells ci.enc 95 (0, 0))]]) := by
  refine fn_entry (args := [.pointer (some ⟨b, 0, none⟩), .int .i64 n]) Tryz.func94 rfl Tryz.ntmps94 rfl (fun w0 => ?_)
  refine c_seq ?_
  refine c_region ?_
  refine o_L (y_assign rfl) rfl rfl ?_
  refine o_L (y_assign rfl) rfl rfl ?_
  refine o_nil0 rfl ?_
  refine c_seq ?_
  refine c_seq ?_
  refine c_region ?_
  refine o_T (y_move rfl) rfl ?_
  refine o_T (y_nilck rfl) rfl ?_
  refine o_T (y_fa fl_95_0 rfl) rfl ?_
  refine o_ld one_3 rfl m0 Ci.g0 rfl ?_
  refine o_nil1 9 rfl rfl ?_
  refine c_block ?_
  refine c_seq ?_
  refine c_seq ?_
  refine c_region ?_
  refine o_T (y_eql rfl rfl) rfl ?_
  refine o_L (y_assign rfl) rfl rfl ?_
  refine o_nil0 rfl ?_
  refine c_cond rfl (fun h249 => ?_) (fun h249 => ?_)
  · try simp only [decide_eq_true_eq, decide_eq_false_iff_not, Bool.not_eq_true', Bool.not_eq_false', Int.not_lt, Int.not_le, Decidable.not_not, beq_iff_eq, bne_iff_ne, ne_eq, beq_eq_false_iff_ne] at h249
    refine c_skip ?_
    refine c_cond rfl (fun h249_1 => ?_) (fun h249_1 => ?_)
    · try simp only [decide_eq_true_eq, decide_eq_false_iff_not, Bool.not_eq_true', Bool.not_eq_false', Int.not_lt, Int.not_le, Decidable.not_not, beq_iff_eq, bne_iff_ne, ne_eq, beq_eq_false_iff_ne] at h249_1
      refine c_seq ?_
      refine c_region ?_
      refine o_L (y_assign rfl) rfl rfl ?_
      refine o_L (y_assign rfl) rfl rfl ?_
      refine o_nil0 rfl ?_
      refine c_ret ?_
      refine fun aX wX heX hsX => ret2 Tryz.results94 heX rfl rfl (s_take s_nil) ?_
      refine ⟨?_, rfl⟩
      unfold wantSend
      repeat' split
      all_goals first | rfl | (exfalso; omega) | (exfalso; simp_all; done) | (simp_all; done)
    · try simp only [decide_eq_true_eq, decide_eq_false_iff_not, Bool.not_eq_true', Bool.not_eq_false', Int.not_lt, Int.not_le, Decidable.not_not, beq_iff_eq, bne_iff_ne, ne_eq, beq_eq_false_iff_ne] at h249_1
      refine c_seq ?_
      refine c_region ?_
      refine o_T (y_eql rfl rfl) rfl ?_
      refine o_L (y_assign rfl) rfl rfl ?_
      refine o_nil0 rfl ?_
      refine c_cond rfl (fun h251 => ?_) (fun h251 => ?_)
      · try simp only [decide_eq_true_eq, decide_eq_false_iff_not, Bool.not_eq_true', Bool.not_eq_false', Int.not_lt, Int.not_le, Decidable.not_not, beq_iff_eq, bne_iff_ne, ne_eq, beq_eq_false_iff_ne] at h251
        refine c_seq ?_
        refine c_region ?_
        refine o_T (y_move rfl) rfl ?_
        refine o_callrv en_133 rfl (t133 _ _) (s_take s_nil) rfl ?_
        refine o_L (y_assign rfl) rfl rfl ?_
        refine o_L (y_assign rfl) rfl rfl ?_
        refine o_nil0 rfl ?_
        refine c_ret ?_
        refine fun aX wX heX hsX => ret2 Tryz.results94 heX rfl rfl (s_take s_nil) ?_
        refine ⟨?_, rfl⟩
        unfold wantSend
        repeat' split
        all_goals first | rfl | (exfalso; omega) | (exfalso; simp_all; done) | (simp_all; done)
      · try simp only [decide_eq_true_eq, decide_eq_false_iff_not, Bool.not_eq_true', Bool.not_eq_false', Int.not_lt, Int.not_le, Decidable.not_not, beq_iff_eq, bne_iff_ne, ne_eq, beq_eq_false_iff_ne] at h251
        refine c_skip ?_
        refine c_seq ?_
        refine c_seq ?_
        refine c_region ?_
        refine o_T (y_move rfl) rfl ?_
        refine o_T (y_nilck rfl) rfl ?_
        refine o_T (y_fa fl_95_2 rfl) rfl ?_
        refine o_ld one_4 rfl m0 Ci.g2 rfl ?_
        refine o_nil1 20 rfl rfl ?_
        refine c_cond rfl (fun h254 => ?_) (fun h254 => ?_)
        · try simp only [decide_eq_true_eq, decide_eq_false_iff_not, Bool.not_eq_true', Bool.not_eq_false', Int.not_lt, Int.not_le, Decidable.not_not, beq_iff_eq, bne_iff_ne, ne_eq, beq_eq_false_iff_ne] at h254
          refine c_seq ?_
          refine c_region ?_
          refine o_L (y_assign rfl) rfl rfl ?_
          refine o_L (y_assign rfl) rfl rfl ?_
          refine o_nil0 rfl ?_
          refine c_ret ?_
          refine fun aX wX heX hsX => ret2 Tryz.results94 heX rfl rfl (s_take s_nil) ?_
          refine ⟨?_, rfl⟩
          unfold wantSend
          repeat' split
          all_goals first | rfl | (exfalso; omega) | (exfalso; simp_all; done) | (simp_all; done)
        · try simp only [decide_eq_true_eq, decide_eq_false_iff_not, Bool.not_eq_true', Bool.not_eq_false', Int.not_lt, Int.not_le, Decidable.not_not, beq_iff_eq, bne_iff_ne, ne_eq, beq_eq_false_iff_ne] at h254
          refine c_skip ?_
          refine c_seq ?_
          refine c_seq ?_
          refine c_region ?_
          refine o_T (y_move rfl) rfl ?_
          refine o_T (y_move rfl) rfl ?_
          refine o_T (y_nilck rfl) rfl ?_
          refine o_T (y_fa fl_95_9 rfl) rfl ?_
          refine o_ld one_3 rfl m0 Ci.g9 rfl ?_
          refine o_T (y_sub rfl rfl (w64 (by omega))) rfl ?_
          refine o_T (y_gtr rfl rfl) rfl ?_
          refine o_nil1 27 rfl rfl ?_
          refine c_cond rfl (fun h257 => ?_) (fun h257 => ?_)
          · try simp only [decide_eq_true_eq, decide_eq_false_iff_not, Bool.not_eq_true', Bool.not_eq_false', Int.not_lt, Int.not_le, Decidable.not_not, beq_iff_eq, bne_iff_ne, ne_eq, beq_eq_false_iff_ne] at h257
            refine c_seq ?_
            refine c_region ?_
            refine o_T (y_move rfl) rfl ?_
            refine o_T (y_nilck rfl) rfl ?_
            refine o_T (y_fa fl_95_9 rfl) rfl ?_
            refine o_ld one_3 rfl m0 Ci.g9 rfl ?_
            refine o_T (y_sub rfl rfl (w64 (by omega))) rfl ?_
            refine o_L (y_assign rfl) rfl rfl ?_
            refine o_nil0 rfl ?_
            refine c_seq ?_
            refine c_region ?_
            refine o_T (y_move rfl) rfl ?_
            refine o_T (y_eql rfl rfl) rfl ?_
            refine o_nil1 34 rfl rfl ?_
            refine c_cond rfl (fun h259 => ?_) (fun h259 => ?_)
            · try simp only [decide_eq_true_eq, decide_eq_false_iff_not, Bool.not_eq_true', Bool.not_eq_false', Int.not_lt, Int.not_le, Decidable.not_not, beq_iff_eq, bne_iff_ne, ne_eq, beq_eq_false_iff_ne] at h259
              refine c_seq ?_
              refine c_region ?_
              refine o_L (y_assign rfl) rfl rfl ?_
              refine o_L (y_assign rfl) rfl rfl ?_
              refine o_nil0 rfl ?_
              refine c_ret ?_
              refine fun aX wX heX hsX => ret2 Tryz.results94 heX rfl rfl (s_take s_nil) ?_
              refine ⟨?_, rfl⟩
              unfold wantSend
              repeat' split
              all_goals first | rfl | (exfalso; omega) | (exfalso; simp_all; done) | (simp_all; done)
            · try simp only [decide_eq_true_eq, decide_eq_false_iff_not, Bool.not_eq_true', Bool.not_eq_false', Int.not_lt, Int.not_le, Decidable.not_not, beq_iff_eq, bne_iff_ne, ne_eq, beq_eq_false_iff_ne] at h259
              refine c_skip ?_
              refine c_seq ?_
              refine c_region ?_
              refine o_T (y_move rfl) rfl ?_
              refine o_L (y_assign rfl) rfl rfl ?_
              refine o_L (y_assign rfl) rfl rfl ?_
              refine o_nil0 rfl ?_
              refine c_ret ?_
              refine fun aX wX heX hsX => ret2 Tryz.results94 heX rfl rfl (s_take s_nil) ?_
              refine ⟨?_, rfl⟩
              unfold wantSend
              repeat' split
              all_goals first | rfl | (exfalso; omega) | (exfalso; simp_all; done) | (simp_all; done)
          · try simp only [decide_eq_true_eq, decide_eq_false_iff_not, Bool.not_eq_true', Bool.not_eq_false', Int.not_lt, Int.not_le, Decidable.not_not, beq_iff_eq, bne_iff_ne, ne_eq, beq_eq_false_iff_ne] at h257
            refine c_skip ?_
            refine c_seq ?_
            refine c_region ?_
            refine o_T (y_move rfl) rfl ?_
            refine o_L (y_assign rfl) rfl rfl ?_
            refine o_L (y_assign rfl) rfl rfl ?_
            refine o_nil0 rfl ?_
            refine c_ret ?_
            refine fun aX wX heX hsX => ret2 Tryz.results94 heX rfl rfl (s_take s_nil) ?_
            refine ⟨?_, rfl⟩
            unfold wantSend
            repeat' split
            all_goals first | rfl | (exfalso; omega) | (exfalso; simp_all; done) | (simp_all; done)
  · try simp only [decide_eq_true_eq, decide_eq_false_iff_not, Bool.not_eq_true', Bool.not_eq_false', Int.not_lt, Int.not_le, Decidable.not_not, beq_iff_eq, bne_iff_ne, ne_eq, beq_eq_false_iff_ne] at h249
    refine c_region ?_
    refine o_T (y_eql rfl rfl) rfl ?_
    refine o_L (y_assign rfl) rfl rfl ?_
    refine o_nil0 rfl ?_
    refine c_cond rfl (fun h249_1 => ?_) (fun h249_1 => ?_)
    · try simp only [decide_eq_true_eq, decide_eq_false_iff_not, Bool.not_eq_true', Bool.not_eq_false', Int.not_lt, Int.not_le, Decidable.not_not, beq_iff_eq, bne_iff_ne, ne_eq, beq_eq_false_iff_ne] at h249_1
      refine c_seq ?_
      refine c_region ?_
      refine o_L (y_assign rfl) rfl rfl ?_
      refine o_L (y_assign rfl) rfl rfl ?_
      refine o_nil0 rfl ?_
      refine c_ret ?_
      refine fun aX wX heX hsX => ret2 Tryz.results94 heX rfl rfl (s_take s_nil) ?_
      refine ⟨?_, rfl⟩
      unfold wantSend
      repeat' split
      all_goals first | rfl | (exfalso; omega) | (exfalso; simp_all; done) | (simp_all; done)
    · try simp only [decide_eq_true_eq, decide_eq_false_iff_not, Bool.not_eq_true', Bool.not_eq_false', Int.not_lt, Int.not_le, Decidable.not_not, beq_iff_eq, bne_iff_ne, ne_eq, beq_eq_false_iff_ne] at h249_1
      refine c_seq ?_
      refine c_region ?_
      refine o_T (y_eql rfl rfl) rfl ?_
      refine o_L (y_assign rfl) rfl rfl ?_
      refine o_nil0 rfl ?_
      refine c_cond rfl (fun h251 => ?_) (fun h251 => ?_)
      · try simp only [decide_eq_true_eq, decide_eq_false_iff_not, Bool.not_eq_true', Bool.not_eq_false', Int.not_lt, Int.not_le, Decidable.not_not, beq_iff_eq, bne_iff_ne, ne_eq, beq_eq_false_iff_ne] at h251
        refine c_seq ?_
        refine c_region ?_
        refine o_T (y_move rfl) rfl ?_
        refine o_callrv en_133 rfl (t133 _ _) (s_take s_nil) rfl ?_
        refine o_L (y_assign rfl) rfl rfl ?_
        refine o_L (y_assign rfl) rfl rfl ?_
        refine o_nil0 rfl ?_
        refine c_ret ?_
        refine fun aX wX heX hsX => ret2 Tryz.results94 heX rfl rfl (s_take s_nil) ?_
        refine ⟨?_, rfl⟩
        unfold wantSend
        repeat' split
        all_goals first | rfl | (exfalso; omega) | (exfalso; simp_all; done) | (simp_all; done)
      · try simp only [decide_eq_true_eq, decide_eq_false_iff_not, Bool.not_eq_true', Bool.not_eq_false', Int.not_lt, Int.not_le, Decidable.not_not, beq_iff_eq, bne_iff_ne, ne_eq, beq_eq_false_iff_ne] at h251
        refine c_skip ?_
        refine c_seq ?_
        refine c_seq ?_
        refine c_region ?_
        refine o_T (y_move rfl) rfl ?_
        refine o_T (y_nilck rfl) rfl ?_
        refine o_T (y_fa fl_95_2 rfl) rfl ?_
        refine o_ld one_4 rfl m0 Ci.g2 rfl ?_
        refine o_nil1 20 rfl rfl ?_
        refine c_cond rfl (fun h254 => ?_) (fun h254 => ?_)
        · try simp only [decide_eq_true_eq, decide_eq_false_iff_not, Bool.not_eq_true', Bool.not_eq_false', Int.not_lt, Int.not_le, Decidable.not_not, beq_iff_eq, bne_iff_ne, ne_eq, beq_eq_false_iff_ne] at h254
          refine c_seq ?_
          refine c_region ?_
          refine o_L (y_assign rfl) rfl rfl ?_
          refine o_L (y_assign rfl) rfl rfl ?_
          refine o_nil0 rfl ?_
          refine c_ret ?_
          refine fun aX wX heX hsX => ret2 Tryz.results94 heX rfl rfl (s_take s_nil) ?_
          refine ⟨?_, rfl⟩
          unfold wantSend
          repeat' split
          all_goals first | rfl | (exfalso; omega) | (exfalso; simp_all; done) | (simp_all; done)
        · try simp only [decide_eq_true_eq, decide_eq_false_iff_not, Bool.not_eq_true', Bool.not_eq_false', Int.not_lt, Int.not_le, Decidable.not_not, beq_iff_eq, bne_iff_ne, ne_eq, beq_eq_false_iff_ne] at h254
          refine c_skip ?_
          refine c_seq ?_
          refine c_seq ?_
          refine c_region ?_
          refine o_T (y_move rfl) rfl ?_
          refine o_T (y_move rfl) rfl ?_
          refine o_T (y_nilck rfl) rfl ?_
          refine o_T (y_fa fl_95_9 rfl) rfl ?_
          refine o_ld one_3 rfl m0 Ci.g9 rfl ?_
          refine o_T (y_sub rfl rfl (w64 (by omega))) rfl ?_
          refine o_T (y_gtr rfl rfl) rfl ?_
          refine o_nil1 27 rfl rfl ?_
          refine c_cond rfl (fun h257 => ?_) (fun h257 => ?_)
          · try simp only [decide_eq_true_eq, decide_eq_false_iff_not, Bool.not_eq_true', Bool.not_eq_false', Int.not_lt, Int.not_le, Decidable.not_not, beq_iff_eq, bne_iff_ne, ne_eq, beq_eq_false_iff_ne] at h257
            refine c_seq ?_
            refine c_region ?_
            refine o_T (y_move rfl) rfl ?_
            refine o_T (y_nilck rfl) rfl ?_
            refine o_T (y_fa fl_95_9 rfl) rfl ?_
            refine o_ld one_3 rfl m0 Ci.g9 rfl ?_
            refine o_T (y_sub rfl rfl (w64 (by omega))) rfl ?_
            refine o_L (y_assign rfl) rfl rfl ?_
            refine o_nil0 rfl ?_
            refine c_seq ?_
            refine c_region ?_
            refine o_T (y_move rfl) rfl ?_
            refine o_T (y_eql rfl rfl) rfl ?_
            refine o_nil1 34 rfl rfl ?_
            refine c_cond rfl (fun h259 => ?_) (fun h259 => ?_)
            · try simp only [decide_eq_true_eq, decide_eq_false_iff_not, Bool.not_eq_true', Bool.not_eq_false', Int.not_lt, Int.not_le, Decidable.not_not, beq_iff_eq, bne_iff_ne, ne_eq, beq_eq_false_iff_ne] at h259
              refine c_seq ?_
              refine c_region ?_
              refine o_L (y_assign rfl) rfl rfl ?_
              refine o_L (y_assign rfl) rfl rfl ?_
              refine o_nil0 rfl ?_
              refine c_ret ?_
              refine fun aX wX heX hsX => ret2 Tryz.results94 heX rfl rfl (s_take s_nil) ?_
              refine ⟨?_, rfl⟩
              unfold wantSend
              repeat' split
              all_goals first | rfl | (exfalso; omega) | (exfalso; simp_all; done) | (simp_all; done)
            · try simp only [decide_eq_true_eq, decide_eq_false_iff_not, Bool.not_eq_true', Bool.not_eq_false', Int.not_lt, Int.not_le, Decidable.not_not, beq_iff_eq, bne_iff_ne, ne_eq, beq_eq_false_iff_ne] at h259
              refine c_skip ?_
              refine c_seq ?_
              refine c_region ?_
              refine o_T (y_move rfl) rfl ?_
              refine o_L (y_assign rfl) rfl rfl ?_
              refine o_L (y_assign rfl) rfl rfl ?_
              refine o_nil0 rfl ?_
              refine c_ret ?_
              refine fun aX wX heX hsX => ret2 Tryz.results94 heX rfl rfl (s_take s_nil) ?_
              refine ⟨?_, rfl⟩
              unfold wantSend
              repeat' split
              all_goals first | rfl | (exfalso; omega) | (exfalso; simp_all; done) | (simp_all; done)
          · try simp only [decide_eq_true_eq, decide_eq_false_iff_not, Bool.not_eq_true', Bool.not_eq_false', Int.not_lt, Int.not_le, Decidable.not_not, beq_iff_eq, bne_iff_ne, ne_eq, beq_eq_false_iff_ne] at h257
            refine c_skip ?_
            refine c_seq ?_
            refine c_region ?_
            refine o_T (y_move rfl) rfl ?_
            refine o_L (y_assign rfl) rfl rfl ?_
            refine o_L (y_assign rfl) rfl rfl ?_
            refine o_nil0 rfl ?_
            refine c_ret ?_
            refine fun aX wX heX hsX => ret2 Tryz.results94 heX rfl rfl (s_take s_nil) ?_
            refine ⟨?_, rfl⟩
            unfold wantSend
            repeat' split
            all_goals first | rfl | (exfalso; omega) | (exfalso; simp_all; done) | (simp_all; done)

/-- e2e/hostm.WantRecv -/
theorem t97 (b : Nat) (ci : Ci) (n : Int) : Trip Tryz.prog 97 #[.pointer (some ⟨b, 0, none⟩), .int .i64 n] [[(b, .cells ci.enc 95 (0, 0))]] (fun u S' => u = .tuple #[.int .i64 (wantRecv ci n).1, .int .i64 (wantRecv ci n).2] ∧ S' = [[(b, .cells ci.enc 95 (0, 0))]]) := by
  refine fn_entry (args := [.pointer (some ⟨b, 0, none⟩), .int .i64 n]) Tryz.func97 rfl Tryz.ntmps97 rfl (fun w0 => ?_)
  refine c_seq ?_
  refine c_region ?_
  refine o_L (y_assign rfl) rfl rfl ?_
  refine o_L (y_assign rfl) rfl rfl ?_
  refine o_nil0 rfl ?_
  refine c_seq ?_
  refine c_seq ?_
  refine c_region ?_
  refine o_T (y_move rfl) rfl ?_
  refine o_T (y_leq rfl rfl) rfl ?_
  refine o_nil1 7 rfl rfl ?_
  refine c_cond rfl (fun h268 => ?_) (fun h268 => ?_)
  · try simp only [decide_eq_true_eq, decide_eq_false_iff_not, Bool.not_eq_true', Bool.not_eq_false', Int.not_lt, Int.not_le, Decidable.not_not, beq_iff_eq, bne_iff_ne, ne_eq, beq_eq_false_iff_ne] at h268
    refine c_seq ?_
    refine c_region ?_
    refine o_L (y_assign rfl) rfl rfl ?_
    refine o_L (y_assign rfl) rfl rfl ?_
    refine o_nil0 rfl ?_
    refine c_ret ?_
    refine fun aX wX heX hsX => ret2 Tryz.results97 heX rfl rfl (s_take s_nil) ?_
    refine ⟨?_, rfl⟩
    unfold wantRecv
    repeat' split
    all_goals first | rfl | (exfalso; omega) | (exfalso; simp_all; done) | (simp_all; done)
  · try simp only [decide_eq_true_eq, decide_eq_false_iff_not, Bool.not_eq_true', Bool.not_eq_false', Int.not_lt, Int.not_le, Decidable.not_not, beq_iff_eq, bne_iff_ne, ne_eq, beq_eq_false_iff_ne] at h268
    refine c_skip ?_
    refine c_seq ?_
    refine c_seq ?_
    refine c_region ?_
    refine o_T (y_move rfl) rfl ?_
    refine o_T (y_nilck rfl) rfl ?_
    refine o_T (y_fa fl_95_11 rfl) rfl ?_
    refine o_ld one_3 rfl m0 Ci.g11 rfl ?_
    refine o_T (y_eql rfl rfl) rfl ?_
    refine o_nil1 12 rfl rfl ?_
    refine c_cond rfl (fun h271 => ?_) (fun h271 => ?_)
    · try simp only [decide_eq_true_eq, decide_eq_false_iff_not, Bool.not_eq_true', Bool.not_eq_false', Int.not_lt, Int.not_le, Decidable.not_not, beq_iff_eq, bne_iff_ne, ne_eq, beq_eq_false_iff_ne] at h271
      refine c_seq ?_
      refine c_seq ?_
      refine c_region ?_
      refine o_T (y_move rfl) rfl ?_
      refine o_T (y_nilck rfl) rfl ?_
      refine o_T (y_fa fl_95_5 rfl) rfl ?_
      refine o_ld one_4 rfl m0 Ci.g5 rfl ?_
      refine o_nil1 16 rfl rfl ?_
      refine c_cond rfl (fun h272 => ?_) (fun h272 => ?_)
      · try simp only [decide_eq_true_eq, decide_eq_false_iff_not, Bool.not_eq_true', Bool.not_eq_false', Int.not_lt, Int.not_le, Decidable.not_not, beq_iff_eq, bne_iff_ne, ne_eq, beq_eq_false_iff_ne] at h272
        refine c_seq ?_
        refine c_region ?_
        refine o_L (y_assign rfl) rfl rfl ?_
        refine o_L (y_assign rfl) rfl rfl ?_
        refine o_nil0 rfl ?_
        refine c_ret ?_
        refine fun aX wX heX hsX => ret2 Tryz.results97 heX rfl rfl (s_take s_nil) ?_
        refine ⟨?_, rfl⟩
        unfold wantRecv
        repeat' split
        all_goals first | rfl | (exfalso; omega) | (exfalso; simp_all; done) | (simp_all; done)
      · try simp only [decide_eq_true_eq, decide_eq_false_iff_not, Bool.not_eq_true', Bool.not_eq_false', Int.not_lt, Int.not_le, Decidable.not_not, beq_iff_eq, bne_iff_ne, ne_eq, beq_eq_false_iff_ne] at h272
        refine c_skip ?_
        refine c_seq ?_
        refine c_seq ?_
        refine c_region ?_
        refine o_T (y_move rfl) rfl ?_
        refine o_T (y_nilck rfl) rfl ?_
        refine o_T (y_fa fl_95_0 rfl) rfl ?_
        refine o_ld one_3 rfl m0 Ci.g0 rfl ?_
        refine o_T (y_eql rfl rfl) rfl ?_
        refine o_nil1 21 rfl rfl ?_
        refine c_cond rfl (fun h275 => ?_) (fun h275 => ?_)
        · try simp only [decide_eq_true_eq, decide_eq_false_iff_not, Bool.not_eq_true', Bool.not_eq_false', Int.not_lt, Int.not_le, Decidable.not_not, beq_iff_eq, bne_iff_ne, ne_eq, beq_eq_false_iff_ne] at h275
          refine c_seq ?_
          refine c_draw #[true, true, true, true, true, true] rfl (n := 6) rfl ?_
          refine d_T 0 rfl (by kernel_rfl) rfl (y_move rfl) rfl ?_
          refine d_T 1 rfl (by kernel_rfl) rfl (y_nilck rfl) rfl ?_
          refine d_T 2 rfl (by kernel_rfl) rfl (y_fa fl_95_1 rfl) rfl ?_
          refine d_ld 3 rfl (by kernel_rfl) one_70 rfl (fun x hx => hx) m0 Ci.g1 rfl ?_
          refine d_L 4 rfl (by kernel_rfl) rfl (y_assign rfl) rfl rfl ?_
          refine d_L 5 rfl (by kernel_rfl) rfl (y_assign rfl) rfl rfl ?_
          refine d_nil0 (by kernel_rfl) rfl ?_
          refine c_ret ?_
          refine fun aX wX heX hsX => ret2 Tryz.results97 heX rfl rfl (s_take s_nil) ?_
          refine ⟨?_, rfl⟩
          unfold wantRecv
          repeat' split
          all_goals first | rfl | (exfalso; omega) | (exfalso; simp_all; done) | (simp_all; done)
        · try simp only [decide_eq_true_eq, decide_eq_false_iff_not, Bool.not_eq_true', Bool.not_eq_false', Int.not_lt, Int.not_le, Decidable.not_not, beq_iff_eq, bne_iff_ne, ne_eq, beq_eq_false_iff_ne] at h275
          refine c_skip ?_
          refine c_seq ?_
          refine c_region ?_
          refine o_L (y_assign rfl) rfl rfl ?_
          refine o_L (y_assign rfl) rfl rfl ?_
          refine o_nil0 rfl ?_
          refine c_ret ?_
          refine fun aX wX heX hsX => ret2 Tryz.results97 heX rfl rfl (s_take s_nil) ?_
          refine ⟨?_, rfl⟩
          unfold wantRecv
          repeat' split
          all_goals first | rfl | (exfalso; omega) | (exfalso; simp_all; done) | (simp_all; done)
    · try simp only [decide_eq_true_eq, decide_eq_false_iff_not, Bool.not_eq_true', Bool.not_eq_false', Int.not_lt, Int.not_le, Decidable.not_not, beq_iff_eq, bne_iff_ne, ne_eq, beq_eq_false_iff_ne] at h271
      refine c_skip ?_
      refine c_seq ?_
      refine c_seq ?_
      refine c_region ?_
      refine o_T (y_move rfl) rfl ?_
      refine o_T (y_move rfl) rfl ?_
      refine o_T (y_nilck rfl) rfl ?_
      refine o_T (y_fa fl_95_11 rfl) rfl ?_
      refine o_ld one_3 rfl m0 Ci.g11 rfl ?_
      refine o_T (y_gtr rfl rfl) rfl ?_
      refine o_nil1 31 rfl rfl ?_
      refine c_cond rfl (fun h280 => ?_) (fun h280 => ?_)
      · try simp only [decide_eq_true_eq, decide_eq_false_iff_not, Bool.not_eq_true', Bool.not_eq_false', Int.not_lt, Int.not_le, Decidable.not_not, beq_iff_eq, bne_iff_ne, ne_eq, beq_eq_false_iff_ne] at h280
        refine c_region ?_
        refine o_T (y_move rfl) rfl ?_
        refine o_T (y_nilck rfl) rfl ?_
        refine o_T (y_fa fl_95_11 rfl) rfl ?_
        refine o_ld one_3 rfl m0 Ci.g11 rfl ?_
        refine o_L (y_assign rfl) rfl rfl ?_
        refine o_nil0 rfl ?_
        refine c_seq ?_
        refine c_region ?_
        refine o_T (y_move rfl) rfl ?_
        refine o_L (y_assign rfl) rfl rfl ?_
        refine o_L (y_assign rfl) rfl rfl ?_
        refine o_nil0 rfl ?_
        refine c_ret ?_
        refine fun aX wX heX hsX => ret2 Tryz.results97 heX rfl rfl (s_take s_nil) ?_
        refine ⟨?_, rfl⟩
        unfold wantRecv
        repeat' split
        all_goals first | rfl | (exfalso; omega) | (exfalso; simp_all; done) | (simp_all; done)
      · try simp only [decide_eq_true_eq, decide_eq_false_iff_not, Bool.not_eq_true', Bool.not_eq_false', Int.not_lt, Int.not_le, Decidable.not_not, beq_iff_eq, bne_iff_ne, ne_eq, beq_eq_false_iff_ne] at h280
        refine c_skip ?_
        refine c_seq ?_
        refine c_region ?_
        refine o_T (y_move rfl) rfl ?_
        refine o_L (y_assign rfl) rfl rfl ?_
        refine o_L (y_assign rfl) rfl rfl ?_
        refine o_nil0 rfl ?_
        refine c_ret ?_
        refine fun aX wX heX hsX => ret2 Tryz.results97 heX rfl rfl (s_take s_nil) ?_
        refine ⟨?_, rfl⟩
        unfold wantRecv
        repeat' split
        all_goals first | rfl | (exfalso; omega) | (exfalso; simp_all; done) | (simp_all; done)

/-- e2e/hostm.WantClose -/
theorem t102 (b : Nat) (ci : Ci) : Trip Tryz.prog 102 #[.pointer (some ⟨b, 0, none⟩)] [[(b, .cells ci.enc 95 (0, 0))]] (fun u S' => u = .int .i64 (wantClose ci) ∧ S' = [[(b, .cells ci.enc 95 (0, 0))]]) := by
  refine fn_entry (args := [.pointer (some ⟨b, 0, none⟩)]) Tryz.func102 rfl Tryz.ntmps102 rfl (fun w0 => ?_)
  refine c_seq ?_
  refine c_region ?_
  refine o_L (y_assign rfl) rfl rfl ?_
  refine o_nil0 rfl ?_
  refine c_seq ?_
  refine c_seq ?_
  refine c_region ?_
  refine o_T (y_move rfl) rfl ?_
  refine o_T (y_nilck rfl) rfl ?_
  refine o_T (y_fa fl_95_0 rfl) rfl ?_
  refine o_ld one_3 rfl m0 Ci.g0 rfl ?_
  refine o_T (y_eql rfl rfl) rfl ?_
  refine o_nil1 7 rfl rfl ?_
  refine c_cond rfl (fun h288 => ?_) (fun h288 => ?_)
  · try simp only [decide_eq_true_eq, decide_eq_false_iff_not, Bool.not_eq_true', Bool.not_eq_false', Int.not_lt, Int.not_le, Decidable.not_not, beq_iff_eq, bne_iff_ne, ne_eq, beq_eq_false_iff_ne] at h288
    refine c_seq ?_
    refine c_region ?_
    refine o_T (y_move rfl) rfl ?_
    refine o_callrv en_133 rfl (t133 _ _) (s_take s_nil) rfl ?_
    refine o_L (y_assign rfl) rfl rfl ?_
    refine o_nil0 rfl ?_
    refine c_ret ?_
    refine fun aX wX heX hsX => ret1 Tryz.results102 heX rfl (s_take s_nil) ?_
    refine ⟨?_, rfl⟩
    unfold wantClose
    repeat' split
    all_goals first | rfl | (exfalso; omega) | (exfalso; simp_all; done) | (simp_all; done)
  · try simp only [decide_eq_true_eq, decide_eq_false_iff_not, Bool.not_eq_true', Bool.not_eq_false', Int.not_lt, Int.not_le, Decidable.not_not, beq_iff_eq, bne_iff_ne, ne_eq, beq_eq_false_iff_ne] at h288
    refine c_skip ?_
    refine c_seq ?_
    refine c_seq ?_
    refine c_region ?_
    refine o_T (y_move rfl) rfl ?_
    refine o_T (y_nilck rfl) rfl ?_
    refine o_T (y_fa fl_95_0 rfl) rfl ?_
    refine o_ld one_3 rfl m0 Ci.g0 rfl ?_
    refine o_T (y_neq rfl rfl) rfl ?_
    refine o_T (y_move rfl) rfl ?_
    refine o_split 15 rfl (fun h291 => ?_) (fun h291 => ?_)
    · try simp only [decide_eq_true_eq, decide_eq_false_iff_not, Bool.not_eq_true', Bool.not_eq_false', Int.not_lt, Int.not_le, Decidable.not_not, beq_iff_eq, bne_iff_ne, ne_eq, beq_eq_false_iff_ne] at h291
      refine o_take rfl rfl rfl ?_
      refine o_T (y_move rfl) rfl ?_
      refine o_take rfl rfl rfl ?_
      refine o_T (y_nilck rfl) rfl ?_
      refine o_take rfl rfl rfl ?_
      refine o_T (y_fa fl_95_2 rfl) rfl ?_
      refine o_take rfl rfl rfl ?_
      refine o_ld one_4 rfl m0 Ci.g2 rfl ?_
      refine o_T (y_pickT rfl rfl) rfl ?_
      refine o_nil1 20 rfl rfl ?_
      refine c_cond rfl (fun h291_1 => ?_) (fun h291_1 => ?_)
      · try simp only [decide_eq_true_eq, decide_eq_false_iff_not, Bool.not_eq_true', Bool.not_eq_false', Int.not_lt, Int.not_le, Decidable.not_not, beq_iff_eq, bne_iff_ne, ne_eq, beq_eq_false_iff_ne] at h291_1
        refine c_seq ?_
        refine c_region ?_
        refine o_L (y_assign rfl) rfl rfl ?_
        refine o_nil0 rfl ?_
        refine c_ret ?_
        refine fun aX wX heX hsX => ret1 Tryz.results102 heX rfl (s_take s_nil) ?_
        refine ⟨?_, rfl⟩
        unfold wantClose
        repeat' split
        all_goals first | rfl | (exfalso; omega) | (exfalso; simp_all; done) | (simp_all; done)
      · try simp only [decide_eq_true_eq, decide_eq_false_iff_not, Bool.not_eq_true', Bool.not_eq_false', Int.not_lt, Int.not_le, Decidable.not_not, beq_iff_eq, bne_iff_ne, ne_eq, beq_eq_false_iff_ne] at h291_1
        refine c_skip ?_
        refine c_seq ?_
        refine c_region ?_
        refine o_L (y_assign rfl) rfl rfl ?_
        refine o_nil0 rfl ?_
        refine c_ret ?_
        refine fun aX wX heX hsX => ret1 Tryz.results102 heX rfl (s_take s_nil) ?_
        refine ⟨?_, rfl⟩
        unfold wantClose
        repeat' split
        all_goals first | rfl | (exfalso; omega) | (exfalso; simp_all; done) | (simp_all; done)
    · try simp only [decide_eq_true_eq, decide_eq_false_iff_not, Bool.not_eq_true', Bool.not_eq_false', Int.not_lt, Int.not_le, Decidable.not_not, beq_iff_eq, bne_iff_ne, ne_eq, beq_eq_false_iff_ne] at h291
      refine o_pass rfl rfl rfl rfl rfl ?_
      refine o_pass rfl rfl rfl rfl rfl ?_
      refine o_pass rfl rfl rfl rfl rfl ?_
      refine o_pass rfl rfl rfl rfl rfl ?_
      refine o_T (y_pickF rfl rfl) rfl ?_
      refine o_nil1 20 rfl rfl ?_
      refine c_condF rfl ?_
      refine c_skip ?_
      refine c_seq ?_
      refine c_region ?_
      refine o_L (y_assign rfl) rfl rfl ?_
      refine o_nil0 rfl ?_
      refine c_ret ?_
      refine fun aX wX heX hsX => ret1 Tryz.results102 heX rfl (s_take s_nil) ?_
      refine ⟨?_, rfl⟩
      unfold wantClose
      repeat' split
      all_goals first | rfl | (exfalso; omega) | (exfalso; simp_all; done) | (simp_all; done)

/-- e2e/hostm.FirstFragment -/
theorem t123 (b o n cap e : Nat) (cs : Array Value) (l : List Int) (hy : BytAt o n cap cs l) : Trip Tryz.prog 123 #[.slice (some ⟨b, o, none⟩) n cap] [[(b, .cells cs e (0, 0))]] (fun u S' => u = .bool (firstFrag l) ∧ S' = [[(b, .cells cs e (0, 0))]]) := by
  have hn := hy.n_eq
  have hl := hy.len
  have hr := hy.rng 9
  refine fn_entry (args := [.slice (some ⟨b, o, none⟩) n cap]) Tryz.func123 rfl Tryz.ntmps123 rfl (fun w0 => ?_)
  refine c_seq ?_
  refine c_region ?_
  refine o_L (y_assign rfl) rfl rfl ?_
  refine o_nil0 rfl ?_
  refine c_seq ?_
  refine c_region ?_
  refine o_T (y_move rfl) rfl ?_
  refine o_T (y_len Tryz.underlying81 rfl) rfl ?_
  refine o_T (y_gtr rfl rfl) rfl ?_
  refine o_T (y_move rfl) rfl ?_
  refine o_split 6 rfl (fun h234 => ?_) (fun h234 => ?_)
  · try simp only [decide_eq_true_eq, decide_eq_false_iff_not, Bool.not_eq_true', Bool.not_eq_false', Int.not_lt, Int.not_le, Decidable.not_not, beq_iff_eq, bne_iff_ne, ne_eq, beq_eq_false_iff_ne] at h234
    refine o_take rfl rfl rfl ?_
    refine o_T (y_move rfl) rfl ?_
    refine o_take rfl rfl rfl ?_
    refine o_T (y_is sl_81 rfl rfl (by omega) (by omega)) rfl ?_
    refine o_take rfl rfl rfl ?_
    refine o_ld one_5 rfl m0 (hy.getD (i := 9) (by omega) rfl) rfl ?_
    refine o_take rfl rfl rfl ?_
    refine o_T (y_and rfl rfl (and127 (by first | exact hr | omega))) rfl ?_
    refine o_take rfl rfl rfl ?_
    refine o_T (y_eql rfl rfl) rfl ?_
    refine o_T (y_pickT rfl rfl) rfl ?_
    refine o_L (y_assign rfl) rfl rfl ?_
    refine o_nil0 rfl ?_
    refine c_ret ?_
    refine fun aX wX heX hsX => ret1 Tryz.results123 heX rfl (s_take s_nil) ?_
    exact ⟨congrArg Value.bool (by unfold firstFrag; (repeat' split) <;> rw [Bool.eq_iff_iff] <;> (try simp only [decide_eq_true_eq, Bool.and_eq_true, Bool.or_eq_true, Bool.false_eq_true, false_iff, true_iff, or_false, and_false, decide_eq_false_iff_not]) <;> omega), rfl⟩
  · try simp only [decide_eq_true_eq, decide_eq_false_iff_not, Bool.not_eq_true', Bool.not_eq_false', Int.not_lt, Int.not_le, Decidable.not_not, beq_iff_eq, bne_iff_ne, ne_eq, beq_eq_false_iff_ne] at h234
    refine o_pass rfl rfl rfl rfl rfl ?_
    refine o_pass rfl rfl rfl rfl rfl ?_
    refine o_pass rfl rfl rfl rfl rfl ?_
    refine o_pass rfl rfl rfl rfl rfl ?_
    refine o_pass rfl rfl rfl rfl rfl ?_
    refine o_T (y_pickF rfl rfl) rfl ?_
    refine o_L (y_assign rfl) rfl rfl ?_
    refine o_nil0 rfl ?_
    refine c_ret ?_
    refine fun aX wX heX hsX => ret1 Tryz.results123 heX rfl (s_take s_nil) ?_
    exact ⟨congrArg Value.bool (by unfold firstFrag; (repeat' split) <;> rw [Bool.eq_iff_iff] <;> (try simp only [decide_eq_true_eq, Bool.and_eq_true, Bool.or_eq_true, Bool.false_eq_true, false_iff, true_iff, or_false, and_false, decide_eq_false_iff_not]) <;> omega), rfl⟩

end Go.Proofs.Qxb6500351aGreat
