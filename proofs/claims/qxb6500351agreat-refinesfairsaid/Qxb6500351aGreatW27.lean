/- MADE BY PROGRAM (tools/gen.py over tools/specs351.py): walks. -/
import Derived.Test.Qxb6500351aGreatFacts
import Derived.Test.Qxb6500351aGreatW26
set_option linter.unusedVariables false
set_option linter.unusedSimpArgs false
namespace Go.Proofs.Qxb6500351aGreat
open Go.Eng
set_option maxRecDepth 20000
set_option maxHeartbeats 4000000
/-- (*e2e/sock.Table).unlink -/
theorem t170 (b : Nat) (t : Tb) (i : Int) (ok : t.Ok) (hi : 0 ≤ i ∧ i < 6) : Trip Tryz.prog 170 #[.pointer (some ⟨b, 0, none⟩), .int .i64 i] [[(b, .cells t.enc 159 (0, 0))]] (fun u S' => ∃ t' : Tb, t' = t.unlink i ∧ t'.Ok ∧ u = .tuple #[] ∧ S' = [[(b, .cells (t').enc 159 (0, 0))]]) := by
  have ok0 := ok
  obtain ⟨q1, q2, q3, q4, q5, q6, q7, q8, q9, q10, q11, q12⟩ := ok
  have v1 := (q6 i.toNat).lp
  have v2 := (q6 i.toNat).rh
  have v3 := (q6 i.toNat).rp
  have hh := hashF_lt (t.rows i.toNat).e.lPort (t.rows i.toNat).e.rHost (t.rows i.toNat).e.rPort
  have hbk := q3 (t.hash i)
  refine fn_entry (args := [.pointer (some ⟨b, 0, none⟩), .int .i64 i]) Tryz.func170 rfl Tryz.ntmps170 rfl (fun w0 => ?_)
  refine c_seq ?_
  refine c_draw #[true, true, true, true, true, true, true, true, true, true, true, true, true, true, true, true, true, true, true, true, true, true, true, true, true, true] rfl (n := 26) rfl ?_
  refine d_T 0 rfl (by kernel_rfl) rfl (y_move rfl) rfl ?_
  refine d_T 1 rfl (by kernel_rfl) rfl (y_move rfl) rfl ?_
  refine d_T 2 rfl (by kernel_rfl) rfl (y_nilck rfl) rfl ?_
  refine d_T 3 rfl (by kernel_rfl) rfl (y_fa fl_159_0 rfl) rfl ?_
  refine d_T 4 rfl (by kernel_rfl) rfl (y_ia ar_157 rfl rfl (by omega) (by omega)) rfl ?_
  refine d_T 5 rfl (by kernel_rfl) rfl (y_fa fl_156_1 rfl) rfl ?_
  refine d_T 6 rfl (by kernel_rfl) rfl (y_fa fl_66_2 rfl) rfl ?_
  refine d_ld 7 rfl (by kernel_rfl) one_3 rfl (fun x hx => hx) m0 (Tb.gr_rows_e_lPort _ (by omega) rfl) rfl ?_
  refine d_T 8 rfl (by kernel_rfl) rfl (y_move rfl) rfl ?_
  refine d_T 9 rfl (by kernel_rfl) rfl (y_move rfl) rfl ?_
  refine d_T 10 rfl (by kernel_rfl) rfl (y_nilck rfl) rfl ?_
  refine d_T 11 rfl (by kernel_rfl) rfl (y_fa fl_159_0 rfl) rfl ?_
  refine d_T 12 rfl (by kernel_rfl) rfl (y_ia ar_157 rfl rfl (by omega) (by omega)) rfl ?_
  refine d_T 13 rfl (by kernel_rfl) rfl (y_fa fl_156_1 rfl) rfl ?_
  refine d_T 14 rfl (by kernel_rfl) rfl (y_fa fl_66_3 rfl) rfl ?_
  refine d_ld 15 rfl (by kernel_rfl) one_3 rfl (fun x hx => hx) m0 (Tb.gr_rows_e_rHost _ (by omega) rfl) rfl ?_
  refine d_T 16 rfl (by kernel_rfl) rfl (y_move rfl) rfl ?_
  refine d_T 17 rfl (by kernel_rfl) rfl (y_move rfl) rfl ?_
  refine d_T 18 rfl (by kernel_rfl) rfl (y_nilck rfl) rfl ?_
  refine d_T 19 rfl (by kernel_rfl) rfl (y_fa fl_159_0 rfl) rfl ?_
  refine d_T 20 rfl (by kernel_rfl) rfl (y_ia ar_157 rfl rfl (by omega) (by omega)) rfl ?_
  refine d_T 21 rfl (by kernel_rfl) rfl (y_fa fl_156_1 rfl) rfl ?_
  refine d_T 22 rfl (by kernel_rfl) rfl (y_fa fl_66_4 rfl) rfl ?_
  refine d_ld 23 rfl (by kernel_rfl) one_3 rfl (fun x hx => hx) m0 (Tb.gr_rows_e_rPort _ (by omega) rfl) rfl ?_
  refine d_hard 24 rfl (by kernel_rfl) ?_
  refine o_callv en_156 rfl (t156 _ _ _ (by omega) (by omega) (by omega)) rfl ?_
  refine o_stop (fun _ => (fun x hx => hx)) ?_
  refine d_L 25 rfl (by kernel_rfl) rfl (y_assign rfl) rfl rfl ?_
  refine d_nil0 (by kernel_rfl) rfl ?_
  refine c_seq ?_
  refine c_region ?_
  refine o_T (y_move rfl) rfl ?_
  refine o_T (y_move rfl) rfl ?_
  refine o_T (y_nilck rfl) rfl ?_
  refine o_T (y_fa fl_159_2 rfl) rfl ?_
  refine o_T (y_ia ar_144 rfl rfl (by omega) (by omega)) rfl ?_
  refine o_ld one_3 rfl m0 (Tb.gr_bucket _ (by omega) rfl) rfl ?_
  refine o_L (y_assign rfl) rfl rfl ?_
  refine o_nil0 rfl ?_
  refine c_seq ?_
  refine c_seq ?_
  refine c_region ?_
  refine o_T (y_move rfl) rfl ?_
  refine o_T (y_move rfl) rfl ?_
  refine o_T (y_eql rfl rfl) rfl ?_
  refine o_nil1 40 rfl rfl ?_
  refine c_cond rfl (fun h97 => ?_) (fun h97 => ?_)
  · try simp only [decide_eq_true_eq, decide_eq_false_iff_not, Bool.not_eq_true', Bool.not_eq_false', Int.not_lt, Int.not_le, Decidable.not_not, beq_iff_eq, bne_iff_ne, ne_eq, beq_eq_false_iff_ne] at h97
    refine c_seq ?_
    refine c_draw #[true, true, true, true, true, true, true, true, true, true, true, true, false] rfl (n := 13) rfl ?_
    refine d_T 0 rfl (by kernel_rfl) rfl (y_move rfl) rfl ?_
    refine d_T 1 rfl (by kernel_rfl) rfl (y_move rfl) rfl ?_
    refine d_T 2 rfl (by kernel_rfl) rfl (y_move rfl) rfl ?_
    refine d_T 3 rfl (by kernel_rfl) rfl (y_move rfl) rfl ?_
    refine d_T 4 rfl (by kernel_rfl) rfl (y_nilck rfl) rfl ?_
    refine d_T 5 rfl (by kernel_rfl) rfl (y_fa fl_159_0 rfl) rfl ?_
    refine d_T 6 rfl (by kernel_rfl) rfl (y_ia ar_157 rfl rfl (by omega) (by omega)) rfl ?_
    refine d_T 7 rfl (by kernel_rfl) rfl (y_fa fl_156_2 rfl) rfl ?_
    refine d_ld 8 rfl (by kernel_rfl) one_3 rfl (fun x hx => hx) m0 (Tb.gr_rows_nxt_ _ (by omega) rfl) rfl ?_
    refine d_T 9 rfl (by kernel_rfl) rfl (y_nilck rfl) rfl ?_
    refine d_T 10 rfl (by kernel_rfl) rfl (y_fa fl_159_2 rfl) rfl ?_
    refine d_T 11 rfl (by kernel_rfl) rfl (y_ia ar_144 rfl rfl (by omega) (by omega)) rfl ?_
    refine d_hard 12 rfl (by kernel_rfl) ?_
    refine o_st one_3 rfl rfl rfl r0 (Tb.sr_bucket _ (by omega) rfl) (by simp only [Tb.size]; omega) ?_
    refine o_stop (fun h => nomatch h) ?_
    refine d_nil0 (by kernel_rfl) rfl ?_
    refine c_ret ?_
    refine fun aX wX heX hsX => ret0 Tryz.results170 (s_take s_nil) ?_
    have e1 : t.unlink i = { t with bucket := upA t.bucket (t.hash i) (t.rows i.toNat).nxt_ } := by unfold Tb.unlink; rw [if_pos (show t.bucket (t.hash i) = i from h97)]
    rw [e1]
    exact ⟨_, rfl, by rw [← e1]; exact Tb.ok_unlink ok0 i, rfl, rfl⟩
  · try simp only [decide_eq_true_eq, decide_eq_false_iff_not, Bool.not_eq_true', Bool.not_eq_false', Int.not_lt, Int.not_le, Decidable.not_not, beq_iff_eq, bne_iff_ne, ne_eq, beq_eq_false_iff_ne] at h97
    refine c_skip ?_
    refine c_seq ?_
    refine c_region ?_
    refine o_L (y_assign rfl) rfl rfl ?_
    refine o_nil0 rfl ?_
    refine c_block ?_
    refine c_loopG (ι := Nat × Int) (fun i_ => [(6, .int .i64 (i_.1 : Int)), (5, .int .i64 i_.2)]) (fun i_ => []) (fun i_ => i_.1 ≤ 6 ∧ t.unl i 6 (t.bucket (t.hash i)) = t.unl i (6 - i_.1) i_.2 ∧ (-1 ≤ i_.2 ∧ i_.2 < 6)) (fun i_ => 6 - i_.1) (0, t.bucket (t.hash i)) (by exact ⟨Nat.zero_le _, rfl, hbk⟩) ⟨by first | rfl | exact gteI rfl (by omega), by first | rfl | exact gteI rfl (by omega), trivial⟩ (s_take s_nil) ?_
    rintro ⟨k, j⟩ ⟨g1, g2, g3⟩
    try dsimp only [List.cons_append, List.nil_append] at *
    have hnx := q2 j.toNat
    refine c_seq ?_
    refine c_seq ?_
    refine c_region ?_
    refine o_T (y_move rfl) rfl ?_
    refine o_T (y_neq rfl rfl) rfl ?_
    refine o_T (y_move rfl) rfl ?_
    refine o_split 55 rfl (fun h101 => ?_) (fun h101 => ?_)
    · try simp only [decide_eq_true_eq, decide_eq_false_iff_not, Bool.not_eq_true', Bool.not_eq_false', Int.not_lt, Int.not_le, Decidable.not_not, beq_iff_eq, bne_iff_ne, ne_eq, beq_eq_false_iff_ne] at h101
      refine o_take rfl rfl rfl ?_
      refine o_T (y_move rfl) rfl ?_
      refine o_take rfl rfl rfl ?_
      refine o_T (y_lss rfl rfl) rfl ?_
      refine o_T (y_pickT rfl rfl) rfl ?_
      refine o_nil1 58 rfl rfl ?_
      refine c_cond rfl (fun h101_1 => ?_) (fun h101_1 => ?_)
      · try simp only [decide_eq_true_eq, decide_eq_false_iff_not, Bool.not_eq_true', Bool.not_eq_false', Int.not_lt, Int.not_le, Decidable.not_not, beq_iff_eq, bne_iff_ne, ne_eq, beq_eq_false_iff_ne] at h101_1
        refine c_skip ?_
        refine c_seq ?_
        refine c_block ?_
        refine c_seq ?_
        refine c_seq ?_
        refine c_region ?_
        refine o_T (y_move rfl) rfl ?_
        refine o_T (y_move rfl) rfl ?_
        refine o_T (y_nilck rfl) rfl ?_
        refine o_T (y_fa fl_159_0 rfl) rfl ?_
        refine o_T (y_ia ar_157 rfl rfl (by omega) (by omega)) rfl ?_
        refine o_T (y_fa fl_156_2 rfl) rfl ?_
        refine o_ld one_3 rfl m0 (Tb.gr_rows_nxt_ _ (by omega) rfl) rfl ?_
        refine o_T (y_move rfl) rfl ?_
        refine o_T (y_eql rfl rfl) rfl ?_
        refine o_nil1 69 rfl rfl ?_
        refine c_cond rfl (fun h102 => ?_) (fun h102 => ?_)
        · try simp only [decide_eq_true_eq, decide_eq_false_iff_not, Bool.not_eq_true', Bool.not_eq_false', Int.not_lt, Int.not_le, Decidable.not_not, beq_iff_eq, bne_iff_ne, ne_eq, beq_eq_false_iff_ne] at h102
          refine c_seq ?_
          refine c_draw #[true, true, true, true, true, true, true, true, true, true, true, true, true, false] rfl (n := 14) rfl ?_
          refine d_T 0 rfl (by kernel_rfl) rfl (y_move rfl) rfl ?_
          refine d_T 1 rfl (by kernel_rfl) rfl (y_move rfl) rfl ?_
          refine d_T 2 rfl (by kernel_rfl) rfl (y_move rfl) rfl ?_
          refine d_T 3 rfl (by kernel_rfl) rfl (y_move rfl) rfl ?_
          refine d_T 4 rfl (by kernel_rfl) rfl (y_nilck rfl) rfl ?_
          refine d_T 5 rfl (by kernel_rfl) rfl (y_fa fl_159_0 rfl) rfl ?_
          refine d_T 6 rfl (by kernel_rfl) rfl (y_ia ar_157 rfl rfl (by omega) (by omega)) rfl ?_
          refine d_T 7 rfl (by kernel_rfl) rfl (y_fa fl_156_2 rfl) rfl ?_
          refine d_ld 8 rfl (by kernel_rfl) one_3 rfl (fun x hx => hx) m0 (Tb.gr_rows_nxt_ _ (by omega) rfl) rfl ?_
          refine d_T 9 rfl (by kernel_rfl) rfl (y_nilck rfl) rfl ?_
          refine d_T 10 rfl (by kernel_rfl) rfl (y_fa fl_159_0 rfl) rfl ?_
          refine d_T 11 rfl (by kernel_rfl) rfl (y_ia ar_157 rfl rfl (by omega) (by omega)) rfl ?_
          refine d_T 12 rfl (by kernel_rfl) rfl (y_fa fl_156_2 rfl) rfl ?_
          refine d_hard 13 rfl (by kernel_rfl) ?_
          refine o_st one_3 rfl rfl rfl r0 (Tb.sr_rows_nxt_ _ (by omega) rfl) (by simp only [Tb.size]; omega) ?_
          refine o_stop (fun h => nomatch h) ?_
          refine d_nil0 (by kernel_rfl) rfl ?_
          refine c_ret ?_
          refine fun aX wX heX hsX => ret0 Tryz.results170 (s_take s_nil) ?_
          have e0 : t.unlink i = t.unl i 6 (t.bucket (t.hash i)) := by unfold Tb.unlink; rw [if_neg (show ¬ t.bucket (t.hash i) = i from h97)]
          have e1 := e0.trans (g2.trans (Tb.unl_hit (by omega) (by omega) h102))
          rw [e1]
          exact ⟨_, rfl, by rw [← e1]; exact Tb.ok_unlink ok0 i, rfl, rfl⟩
        · try simp only [decide_eq_true_eq, decide_eq_false_iff_not, Bool.not_eq_true', Bool.not_eq_false', Int.not_lt, Int.not_le, Decidable.not_not, beq_iff_eq, bne_iff_ne, ne_eq, beq_eq_false_iff_ne] at h102
          refine c_skip ?_
          refine c_region ?_
          refine o_T (y_move rfl) rfl ?_
          refine o_T (y_move rfl) rfl ?_
          refine o_T (y_nilck rfl) rfl ?_
          refine o_T (y_fa fl_159_0 rfl) rfl ?_
          refine o_T (y_ia ar_157 rfl rfl (by omega) (by omega)) rfl ?_
          refine o_T (y_fa fl_156_2 rfl) rfl ?_
          refine o_ld one_3 rfl m0 (Tb.gr_rows_nxt_ _ (by omega) rfl) rfl ?_
          refine o_L (y_assign rfl) rfl rfl ?_
          refine o_nil0 rfl ?_
          refine c_region ?_
          refine o_T (y_move rfl) rfl ?_
          refine o_T (y_add rfl rfl (w64 (by omega))) rfl ?_
          refine o_L (y_assign rfl) rfl rfl ?_
          refine o_nil0 rfl ?_
          refine ⟨(k + 1, (t.rows j.toNat).nxt_), ⟨⟨by omega, g2.trans (Tb.unl_next (by omega) (by omega) h102), hnx⟩, by dsimp only; omega⟩, ⟨by first | rfl | exact gteI rfl (by omega), rfl, trivial⟩, ⟨rfl, rfl⟩, _, ((s_take s_nil))⟩
      · try simp only [decide_eq_true_eq, decide_eq_false_iff_not, Bool.not_eq_true', Bool.not_eq_false', Int.not_lt, Int.not_le, Decidable.not_not, beq_iff_eq, bne_iff_ne, ne_eq, beq_eq_false_iff_ne] at h101_1
        refine c_exit ?_
        refine fun aX wX heX hsX => ret0 Tryz.results170 (s_take s_nil) ?_
        have e0 : t.unlink i = t.unl i 6 (t.bucket (t.hash i)) := by unfold Tb.unlink; rw [if_neg (show ¬ t.bucket (t.hash i) = i from h97)]
        have e1 := e0.trans (g2.trans (Tb.unl_end (by omega)))
        rw [e1]
        exact ⟨_, rfl, by rw [← e1]; exact Tb.ok_unlink ok0 i, rfl, rfl⟩
    · try simp only [decide_eq_true_eq, decide_eq_false_iff_not, Bool.not_eq_true', Bool.not_eq_false', Int.not_lt, Int.not_le, Decidable.not_not, beq_iff_eq, bne_iff_ne, ne_eq, beq_eq_false_iff_ne] at h101
      refine o_pass rfl rfl rfl rfl rfl ?_
      refine o_pass rfl rfl rfl rfl rfl ?_
      refine o_T (y_pickF rfl rfl) rfl ?_
      refine o_nil1 58 rfl rfl ?_
      refine c_condF rfl ?_
      refine c_exit ?_
      refine fun aX wX heX hsX => ret0 Tryz.results170 (s_take s_nil) ?_
      have e0 : t.unlink i = t.unl i 6 (t.bucket (t.hash i)) := by unfold Tb.unlink; rw [if_neg (show ¬ t.bucket (t.hash i) = i from h97)]
      have e1 := e0.trans (g2.trans (Tb.unl_end (by omega)))
      rw [e1]
      exact ⟨_, rfl, by rw [← e1]; exact Tb.ok_unlink ok0 i, rfl, rfl⟩

/-- (*e2e/sock.Table).Lookup -/
theorem t117 (b : Nat) (t : Tb) (a c d : Int) (ok : t.Ok) (h1 : 0 ≤ a ∧ a < 256) (h2 : 0 ≤ c ∧ c < 256) (h3 : 0 ≤ d ∧ d < 256) : Trip Tryz.prog 117 #[.pointer (some ⟨b, 0, none⟩), .int .i64 a, .int .i64 c, .int .i64 d] [[(b, .cells t.enc 159 (0, 0))]] (fun u S' => u = .int .i64 (t.lookup a c d) ∧ S' = [[(b, .cells t.enc 159 (0, 0))]]) := by
  have ok0 := ok
  obtain ⟨q1, q2, q3, q4, q5, q6, q7, q8, q9, q10, q11, q12⟩ := ok
  have hh := hashF_lt a c d
  have hbk := q3 (hashF a c d)
  refine fn_entry (args := [.pointer (some ⟨b, 0, none⟩), .int .i64 a, .int .i64 c, .int .i64 d]) Tryz.func117 rfl Tryz.ntmps117 rfl (fun w0 => ?_)
  refine c_seq ?_
  refine c_region ?_
  refine o_L (y_assign rfl) rfl rfl ?_
  refine o_nil0 rfl ?_
  refine c_seq ?_
  refine c_draw #[true, true, true, true, true, true, true, true, true, true] rfl (n := 10) rfl ?_
  refine d_T 0 rfl (by kernel_rfl) rfl (y_move rfl) rfl ?_
  refine d_T 1 rfl (by kernel_rfl) rfl (y_move rfl) rfl ?_
  refine d_T 2 rfl (by kernel_rfl) rfl (y_move rfl) rfl ?_
  refine d_T 3 rfl (by kernel_rfl) rfl (y_move rfl) rfl ?_
  refine d_T 5 rfl (by kernel_rfl) rfl (y_nilck rfl) rfl ?_
  refine d_T 6 rfl (by kernel_rfl) rfl (y_fa fl_159_2 rfl) rfl ?_
  refine d_hard 4 rfl (by kernel_rfl) ?_
  refine o_callv en_156 rfl (t156 _ _ _ (by omega) (by omega) (by omega)) rfl ?_
  refine o_stop (fun _ => (fun x hx => hx)) ?_
  refine d_T 7 rfl (by kernel_rfl) rfl (y_ia ar_144 rfl rfl (by omega) (by omega)) rfl ?_
  refine d_ld 8 rfl (by kernel_rfl) one_3 rfl (fun x hx => hx) m0 (Tb.gr_bucket _ (by omega) rfl) rfl ?_
  refine d_L 9 rfl (by kernel_rfl) rfl (y_assign rfl) rfl rfl ?_
  refine d_nil0 (by kernel_rfl) rfl ?_
  refine c_seq ?_
  refine c_seq ?_
  refine c_region ?_
  refine o_L (y_assign rfl) rfl rfl ?_
  refine o_nil0 rfl ?_
  refine c_block ?_
  refine c_loopG (ι := Nat × Int) (fun i_ => [(10, .int .i64 (i_.1 : Int)), (9, .int .i64 i_.2)]) (fun i_ => []) (fun i_ => i_.1 ≤ 6 ∧ t.lookup a c d = t.chain a c d (6 - i_.1) i_.2 ∧ (-1 ≤ i_.2 ∧ i_.2 < 6)) (fun i_ => 6 - i_.1) (0, t.bucket (hashF a c d)) (by exact ⟨Nat.zero_le _, rfl, hbk⟩) ⟨by first | rfl | exact gteI rfl (by omega), by first | rfl | exact gteI rfl (by omega), trivial⟩ (s_take s_nil) ?_
  rintro ⟨k, j⟩ ⟨g1, g2, g3⟩
  try dsimp only [List.cons_append, List.nil_append] at *
  have hnx := q2 j.toNat
  refine c_seq ?_
  refine c_seq ?_
  refine c_region ?_
  refine o_T (y_move rfl) rfl ?_
  refine o_T (y_neq rfl rfl) rfl ?_
  refine o_T (y_move rfl) rfl ?_
  refine o_split 23 rfl (fun h163 => ?_) (fun h163 => ?_)
  · try simp only [decide_eq_true_eq, decide_eq_false_iff_not, Bool.not_eq_true', Bool.not_eq_false', Int.not_lt, Int.not_le, Decidable.not_not, beq_iff_eq, bne_iff_ne, ne_eq, beq_eq_false_iff_ne] at h163
    refine o_take rfl rfl rfl ?_
    refine o_T (y_move rfl) rfl ?_
    refine o_take rfl rfl rfl ?_
    refine o_T (y_lss rfl rfl) rfl ?_
    refine o_T (y_pickT rfl rfl) rfl ?_
    refine o_nil1 26 rfl rfl ?_
    refine c_cond rfl (fun h163_1 => ?_) (fun h163_1 => ?_)
    · try simp only [decide_eq_true_eq, decide_eq_false_iff_not, Bool.not_eq_true', Bool.not_eq_false', Int.not_lt, Int.not_le, Decidable.not_not, beq_iff_eq, bne_iff_ne, ne_eq, beq_eq_false_iff_ne] at h163_1
      refine c_skip ?_
      refine c_seq ?_
      refine c_block ?_
      refine c_seq ?_
      refine c_region ?_
      refine o_T (y_move rfl) rfl ?_
      refine o_T (y_move rfl) rfl ?_
      refine o_T (y_nilck rfl) rfl ?_
      refine o_T (y_fa fl_159_0 rfl) rfl ?_
      refine o_T (y_ia ar_157 rfl rfl (by omega) (by omega)) rfl ?_
      refine o_T (y_fa fl_156_1 rfl) rfl ?_
      refine o_lda ag_66 rfl m0 (Tb.Er_rows_e _ (by omega) rfl) (by simp only [Tb.size]; omega) rfl ?_
      refine o_alloc ze_66 rfl rfl (fun b_1 => ?_)
      refine o_sta ag_66 rfl rfl rfl rfl r0 (setAll_full _ _ rfl) (of_ble rfl) ?_
      refine o_nil0 rfl ?_
      refine c_seq ?_
      refine c_seq ?_
      refine c_region ?_
      refine o_T (y_fa fl_66_2 rfl) rfl ?_
      refine o_ld one_3 rfl m0 En.g2 rfl ?_
      refine o_T (y_move rfl) rfl ?_
      refine o_T (y_eql rfl rfl) rfl ?_
      refine o_T (y_move rfl) rfl ?_
      refine o_split 40 rfl (fun h165 => ?_) (fun h165 => ?_)
      · try simp only [decide_eq_true_eq, decide_eq_false_iff_not, Bool.not_eq_true', Bool.not_eq_false', Int.not_lt, Int.not_le, Decidable.not_not, beq_iff_eq, bne_iff_ne, ne_eq, beq_eq_false_iff_ne] at h165
        refine o_take rfl rfl rfl ?_
        refine o_T (y_fa fl_66_3 rfl) rfl ?_
        refine o_take rfl rfl rfl ?_
        refine o_ld one_3 rfl m0 En.g3 rfl ?_
        refine o_take rfl rfl rfl ?_
        refine o_T (y_move rfl) rfl ?_
        refine o_take rfl rfl rfl ?_
        refine o_T (y_eql rfl rfl) rfl ?_
        refine o_T (y_pickT rfl rfl) rfl ?_
        refine o_T (y_move rfl) rfl ?_
        refine o_split 46 rfl (fun h165_1 => ?_) (fun h165_1 => ?_)
        · try simp only [decide_eq_true_eq, decide_eq_false_iff_not, Bool.not_eq_true', Bool.not_eq_false', Int.not_lt, Int.not_le, Decidable.not_not, beq_iff_eq, bne_iff_ne, ne_eq, beq_eq_false_iff_ne] at h165_1
          refine o_take rfl rfl rfl ?_
          refine o_T (y_fa fl_66_4 rfl) rfl ?_
          refine o_take rfl rfl rfl ?_
          refine o_ld one_3 rfl m0 En.g4 rfl ?_
          refine o_take rfl rfl rfl ?_
          refine o_T (y_move rfl) rfl ?_
          refine o_take rfl rfl rfl ?_
          refine o_T (y_eql rfl rfl) rfl ?_
          refine o_T (y_pickT rfl rfl) rfl ?_
          refine o_nil1 51 rfl rfl ?_
          refine c_cond rfl (fun h165_2 => ?_) (fun h165_2 => ?_)
          · try simp only [decide_eq_true_eq, decide_eq_false_iff_not, Bool.not_eq_true', Bool.not_eq_false', Int.not_lt, Int.not_le, Decidable.not_not, beq_iff_eq, bne_iff_ne, ne_eq, beq_eq_false_iff_ne] at h165_2
            refine c_seq ?_
            refine c_region ?_
            refine o_T (y_fa fl_66_0 rfl) rfl ?_
            refine o_ld one_3 rfl m0 En.g0 rfl ?_
            refine o_L (y_assign rfl) rfl rfl ?_
            refine o_nil0 rfl ?_
            refine c_ret ?_
            refine fun aX wX heX hsX => ret1 Tryz.results117 heX rfl (s_skip (s_take s_nil)) ?_
            have e1 : t.lookup a c d = _ := g2.trans (Tb.chain_hit (by omega) (by omega) ⟨h165, h165_1, h165_2⟩)
            rw [e1]
            exact ⟨rfl, rfl⟩
          · try simp only [decide_eq_true_eq, decide_eq_false_iff_not, Bool.not_eq_true', Bool.not_eq_false', Int.not_lt, Int.not_le, Decidable.not_not, beq_iff_eq, bne_iff_ne, ne_eq, beq_eq_false_iff_ne] at h165_2
            refine c_skip ?_
            refine c_region ?_
            refine o_T (y_move rfl) rfl ?_
            refine o_T (y_move rfl) rfl ?_
            refine o_T (y_nilck rfl) rfl ?_
            refine o_T (y_fa fl_159_0 rfl) rfl ?_
            refine o_T (y_ia ar_157 rfl rfl (by omega) (by omega)) rfl ?_
            refine o_T (y_fa fl_156_2 rfl) rfl ?_
            refine o_ld one_3 rfl (ms m0) (Tb.gr_rows_nxt_ _ (by omega) rfl) rfl ?_
            refine o_L (y_assign rfl) rfl rfl ?_
            refine o_nil0 rfl ?_
            refine c_region ?_
            refine o_T (y_move rfl) rfl ?_
            refine o_T (y_add rfl rfl (w64 (by omega))) rfl ?_
            refine o_L (y_assign rfl) rfl rfl ?_
            refine o_nil0 rfl ?_
            refine ⟨(k + 1, (t.rows j.toNat).nxt_), ⟨⟨by omega, g2.trans (Tb.chain_next (by omega) (by omega) (fun z => h165_2 z.2.2)), hnx⟩, by dsimp only; omega⟩, ⟨by first | rfl | exact gteI rfl (by omega), rfl, trivial⟩, ⟨rfl, rfl⟩, _, ((s_skip (s_take s_nil)))⟩
        · try simp only [decide_eq_true_eq, decide_eq_false_iff_not, Bool.not_eq_true', Bool.not_eq_false', Int.not_lt, Int.not_le, Decidable.not_not, beq_iff_eq, bne_iff_ne, ne_eq, beq_eq_false_iff_ne] at h165_1
          refine o_pass rfl rfl rfl rfl rfl ?_
          refine o_pass rfl rfl rfl rfl rfl ?_
          refine o_pass rfl rfl rfl rfl rfl ?_
          refine o_pass rfl rfl rfl rfl rfl ?_
          refine o_T (y_pickF rfl rfl) rfl ?_
          refine o_nil1 51 rfl rfl ?_
          refine c_condF rfl ?_
          refine c_skip ?_
          refine c_region ?_
          refine o_T (y_move rfl) rfl ?_
          refine o_T (y_move rfl) rfl ?_
          refine o_T (y_nilck rfl) rfl ?_
          refine o_T (y_fa fl_159_0 rfl) rfl ?_
          refine o_T (y_ia ar_157 rfl rfl (by omega) (by omega)) rfl ?_
          refine o_T (y_fa fl_156_2 rfl) rfl ?_
          refine o_ld one_3 rfl (ms m0) (Tb.gr_rows_nxt_ _ (by omega) rfl) rfl ?_
          refine o_L (y_assign rfl) rfl rfl ?_
          refine o_nil0 rfl ?_
          refine c_region ?_
          refine o_T (y_move rfl) rfl ?_
          refine o_T (y_add rfl rfl (w64 (by omega))) rfl ?_
          refine o_L (y_assign rfl) rfl rfl ?_
          refine o_nil0 rfl ?_
          refine ⟨(k + 1, (t.rows j.toNat).nxt_), ⟨⟨by omega, g2.trans (Tb.chain_next (by omega) (by omega) (fun z => h165_1 z.2.1)), hnx⟩, by dsimp only; omega⟩, ⟨by first | rfl | exact gteI rfl (by omega), rfl, trivial⟩, ⟨rfl, rfl⟩, _, ((s_skip (s_take s_nil)))⟩
      · try simp only [decide_eq_true_eq, decide_eq_false_iff_not, Bool.not_eq_true', Bool.not_eq_false', Int.not_lt, Int.not_le, Decidable.not_not, beq_iff_eq, bne_iff_ne, ne_eq, beq_eq_false_iff_ne] at h165
        refine o_pass rfl rfl rfl rfl rfl ?_
        refine o_pass rfl rfl rfl rfl rfl ?_
        refine o_pass rfl rfl rfl rfl rfl ?_
        refine o_pass rfl rfl rfl rfl rfl ?_
        refine o_T (y_pickF rfl rfl) rfl ?_
        refine o_T (y_move rfl) rfl ?_
        refine o_pass rfl rfl rfl rfl rfl ?_
        refine o_pass rfl rfl rfl rfl rfl ?_
        refine o_pass rfl rfl rfl rfl rfl ?_
        refine o_pass rfl rfl rfl rfl rfl ?_
        refine o_T (y_pickF rfl rfl) rfl ?_
        refine o_nil1 51 rfl rfl ?_
        refine c_condF rfl ?_
        refine c_skip ?_
        refine c_region ?_
        refine o_T (y_move rfl) rfl ?_
        refine o_T (y_move rfl) rfl ?_
        refine o_T (y_nilck rfl) rfl ?_
        refine o_T (y_fa fl_159_0 rfl) rfl ?_
        refine o_T (y_ia ar_157 rfl rfl (by omega) (by omega)) rfl ?_
        refine o_T (y_fa fl_156_2 rfl) rfl ?_
        refine o_ld one_3 rfl (ms m0) (Tb.gr_rows_nxt_ _ (by omega) rfl) rfl ?_
        refine o_L (y_assign rfl) rfl rfl ?_
        refine o_nil0 rfl ?_
        refine c_region ?_
        refine o_T (y_move rfl) rfl ?_
        refine o_T (y_add rfl rfl (w64 (by omega))) rfl ?_
        refine o_L (y_assign rfl) rfl rfl ?_
        refine o_nil0 rfl ?_
        refine ⟨(k + 1, (t.rows j.toNat).nxt_), ⟨⟨by omega, g2.trans (Tb.chain_next (by omega) (by omega) (fun z => h165 z.1)), hnx⟩, by dsimp only; omega⟩, ⟨by first | rfl | exact gteI rfl (by omega), rfl, trivial⟩, ⟨rfl, rfl⟩, _, ((s_skip (s_take s_nil)))⟩
    · try simp only [decide_eq_true_eq, decide_eq_false_iff_not, Bool.not_eq_true', Bool.not_eq_false', Int.not_lt, Int.not_le, Decidable.not_not, beq_iff_eq, bne_iff_ne, ne_eq, beq_eq_false_iff_ne] at h163_1
      refine c_exit ?_
      refine c_seq ?_
      refine c_region ?_
      refine o_L (y_assign rfl) rfl rfl ?_
      refine o_nil0 rfl ?_
      refine c_ret ?_
      refine fun aX wX heX hsX => ret1 Tryz.results117 heX rfl (s_take s_nil) ?_
      have e1 : t.lookup a c d = _ := g2.trans (Tb.chain_end (by omega))
      rw [e1]
      exact ⟨rfl, rfl⟩
  · try simp only [decide_eq_true_eq, decide_eq_false_iff_not, Bool.not_eq_true', Bool.not_eq_false', Int.not_lt, Int.not_le, Decidable.not_not, beq_iff_eq, bne_iff_ne, ne_eq, beq_eq_false_iff_ne] at h163
    refine o_pass rfl rfl rfl rfl rfl ?_
    refine o_pass rfl rfl rfl rfl rfl ?_
    refine o_T (y_pickF rfl rfl) rfl ?_
    refine o_nil1 26 rfl rfl ?_
    refine c_condF rfl ?_
    refine c_exit ?_
    refine c_seq ?_
    refine c_region ?_
    refine o_L (y_assign rfl) rfl rfl ?_
    refine o_nil0 rfl ?_
    refine c_ret ?_
    refine fun aX wX heX hsX => ret1 Tryz.results117 heX rfl (s_take s_nil) ?_
    have e1 : t.lookup a c d = _ := g2.trans (Tb.chain_end (by omega))
    rw [e1]
    exact ⟨rfl, rfl⟩

/-- (*e2e/sock.Table).leave -/
theorem t206 (b : Nat) (t : Tb) (i sd : Int) (ok : t.Ok) (hi : 0 ≤ i ∧ i < 6) : Trip Tryz.prog 206 #[.pointer (some ⟨b, 0, none⟩), .int .i64 i, .int .i64 sd] [[(b, .cells t.enc 159 (0, 0))]] (fun u S' => ∃ t' : Tb, t' = t.leave i sd ∧ t'.Ok ∧ u = .tuple #[] ∧ S' = [[(b, .cells (t').enc 159 (0, 0))]]) := by
  have ok0 := ok
  obtain ⟨q1, q2, q3, q4, q5, q6, q7, q8, q9, q10, q11, q12⟩ := ok
  have v1 := q8 i.toNat
  have v2 := q9 i.toNat
  have w0 := wrapF_b (k := (t.rows i.toNat).head + 0) (by omega)
  have w1 := wrapF_b (k := (t.rows i.toNat).head + (0 + 1)) (by omega)
  have w2 := wrapF_b (k := (t.rows i.toNat).head + 0 + 1) (by omega)
  refine fn_entry (args := [.pointer (some ⟨b, 0, none⟩), .int .i64 i, .int .i64 sd]) Tryz.func206 rfl Tryz.ntmps206 rfl (fun w0 => ?_)
  refine c_seq ?_
  refine c_draw #[true, true, true, true, true, true, true, true, true, true, true, true, true, true, true, true] rfl (n := 16) rfl ?_
  refine d_T 0 rfl (by kernel_rfl) rfl (y_move rfl) rfl ?_
  refine d_T 1 rfl (by kernel_rfl) rfl (y_move rfl) rfl ?_
  refine d_T 2 rfl (by kernel_rfl) rfl (y_nilck rfl) rfl ?_
  refine d_T 3 rfl (by kernel_rfl) rfl (y_fa fl_159_0 rfl) rfl ?_
  refine d_T 4 rfl (by kernel_rfl) rfl (y_ia ar_157 rfl rfl (by omega) (by omega)) rfl ?_
  refine d_T 5 rfl (by kernel_rfl) rfl (y_fa fl_156_5 rfl) rfl ?_
  refine d_ld 6 rfl (by kernel_rfl) one_3 rfl (fun x hx => hx) m0 (Tb.gr_rows_head _ (by omega) rfl) rfl ?_
  refine d_T 7 rfl (by kernel_rfl) rfl (y_move rfl) rfl ?_
  refine d_T 8 rfl (by kernel_rfl) rfl (y_move rfl) rfl ?_
  refine d_T 9 rfl (by kernel_rfl) rfl (y_nilck rfl) rfl ?_
  refine d_T 10 rfl (by kernel_rfl) rfl (y_fa fl_159_0 rfl) rfl ?_
  refine d_T 11 rfl (by kernel_rfl) rfl (y_ia ar_157 rfl rfl (by omega) (by omega)) rfl ?_
  refine d_T 12 rfl (by kernel_rfl) rfl (y_fa fl_156_6 rfl) rfl ?_
  refine d_ld 13 rfl (by kernel_rfl) one_3 rfl (fun x hx => hx) m0 (Tb.gr_rows_n _ (by omega) rfl) rfl ?_
  refine d_L 14 rfl (by kernel_rfl) rfl (y_assign rfl) rfl rfl ?_
  refine d_L 15 rfl (by kernel_rfl) rfl (y_assign rfl) rfl rfl ?_
  refine d_nil0 (by kernel_rfl) rfl ?_
  refine c_seq ?_
  refine c_region ?_
  refine o_L (y_assign rfl) rfl rfl ?_
  refine o_nil0 rfl ?_
  refine c_seq ?_
  refine c_block ?_
  refine c_unroll 3 ?_
  refine l_one ?_
  refine c_seq ?_
  refine c_seq ?_
  refine c_draw #[true, true, true, true, true, true, true, true, true, true, true, true, true, true, true, true, true, true, true] rfl (n := 19) rfl ?_
  refine d_T 0 rfl (by kernel_rfl) rfl (y_move rfl) rfl ?_
  refine d_T 1 rfl (by kernel_rfl) rfl (y_move rfl) rfl ?_
  refine d_T 2 rfl (by kernel_rfl) rfl (y_lss rfl rfl) rfl ?_
  refine d_T 3 rfl (by kernel_rfl) rfl (y_move rfl) rfl ?_
  refine d_split 28 rfl (fun h167 => ?_) (fun h167 => ?_)
  · try simp only [decide_eq_true_eq, decide_eq_false_iff_not, Bool.not_eq_true', Bool.not_eq_false', Int.not_lt, Int.not_le, Decidable.not_not, beq_iff_eq, bne_iff_ne, ne_eq, beq_eq_false_iff_ne] at h167
    refine d_Tg 4 rfl rfl rfl rfl (by kernel_rfl) rfl (y_move rfl) rfl ?_
    refine d_Tg 5 rfl rfl rfl rfl (by kernel_rfl) rfl (y_move rfl) rfl ?_
    refine d_Tg 6 rfl rfl rfl rfl (by kernel_rfl) rfl (y_move rfl) rfl ?_
    refine d_Tg 7 rfl rfl rfl rfl (by kernel_rfl) rfl (y_move rfl) rfl ?_
    refine d_Tg 8 rfl rfl rfl rfl (by kernel_rfl) rfl (y_add rfl rfl (w64 (by omega))) rfl ?_
    refine d_Tg 10 rfl rfl rfl rfl (by kernel_rfl) rfl (y_nilck rfl) rfl ?_
    refine d_Tg 11 rfl rfl rfl rfl (by kernel_rfl) rfl (y_fa fl_159_0 rfl) rfl ?_
    refine d_Tg 12 rfl rfl rfl rfl (by kernel_rfl) rfl (y_ia ar_157 rfl rfl (by omega) (by omega)) rfl ?_
    refine d_Tg 13 rfl rfl rfl rfl (by kernel_rfl) rfl (y_fa fl_156_4 rfl) rfl ?_
    refine d_Tg 16 rfl rfl rfl rfl (by kernel_rfl) rfl (y_move rfl) rfl ?_
    refine d_hard 9 rfl (by kernel_rfl) ?_
    refine o_take rfl rfl rfl ?_
    refine o_callv en_208 rfl (t208 _ (by omega)) rfl ?_
    refine o_stop (fun _ => (fun x hx => hx)) ?_
    refine d_Tg 14 rfl rfl rfl rfl (by kernel_rfl) rfl (y_ia ar_154 rfl rfl (by omega) (by omega)) rfl ?_
    refine d_ldt 15 rfl rfl rfl rfl (by kernel_rfl) one_3 rfl (fun x hx => hx) m0 (Tb.gr_rows_ring _ (by omega) _ (by omega) rfl) rfl ?_
    refine d_Tg 17 rfl rfl rfl rfl (by kernel_rfl) rfl (y_neq rfl rfl) rfl ?_
    refine d_T 18 rfl (by kernel_rfl) rfl (y_pickT rfl rfl) rfl ?_
    refine d_nil1 43 (by kernel_rfl) rfl rfl ?_
    refine c_cond rfl (fun h167_1 => ?_) (fun h167_1 => ?_)
    · try simp only [decide_eq_true_eq, decide_eq_false_iff_not, Bool.not_eq_true', Bool.not_eq_false', Int.not_lt, Int.not_le, Decidable.not_not, beq_iff_eq, bne_iff_ne, ne_eq, beq_eq_false_iff_ne] at h167_1
      refine c_skip ?_
      refine c_block ?_
      refine c_region ?_
      refine o_T (y_move rfl) rfl ?_
      refine o_T (y_add rfl rfl (w64 (by omega))) rfl ?_
      refine o_L (y_assign rfl) rfl rfl ?_
      refine o_nil0 rfl ?_
      refine l_rm 43 ?_
      refine l_one ?_
      refine c_seq ?_
      refine c_seq ?_
      refine c_draw #[true, true, true, true, true, true, true, true, true, true, true, true, true, true, true, true, true, true, true] rfl (n := 19) rfl ?_
      refine d_T 0 rfl (by kernel_rfl) rfl (y_move rfl) rfl ?_
      refine d_T 1 rfl (by kernel_rfl) rfl (y_move rfl) rfl ?_
      refine d_T 2 rfl (by kernel_rfl) rfl (y_lss rfl rfl) rfl ?_
      refine d_T 3 rfl (by kernel_rfl) rfl (y_move rfl) rfl ?_
      refine d_split 28 rfl (fun h167_2 => ?_) (fun h167_2 => ?_)
      · try simp only [decide_eq_true_eq, decide_eq_false_iff_not, Bool.not_eq_true', Bool.not_eq_false', Int.not_lt, Int.not_le, Decidable.not_not, beq_iff_eq, bne_iff_ne, ne_eq, beq_eq_false_iff_ne] at h167_2
        refine d_Tg 4 rfl rfl rfl rfl (by kernel_rfl) rfl (y_move rfl) rfl ?_
        refine d_Tg 5 rfl rfl rfl rfl (by kernel_rfl) rfl (y_move rfl) rfl ?_
        refine d_Tg 6 rfl rfl rfl rfl (by kernel_rfl) rfl (y_move rfl) rfl ?_
        refine d_Tg 7 rfl rfl rfl rfl (by kernel_rfl) rfl (y_move rfl) rfl ?_
        refine d_Tg 8 rfl rfl rfl rfl (by kernel_rfl) rfl (y_add rfl rfl (w64 (by omega))) rfl ?_
        refine d_Tg 10 rfl rfl rfl rfl (by kernel_rfl) rfl (y_nilck rfl) rfl ?_
        refine d_Tg 11 rfl rfl rfl rfl (by kernel_rfl) rfl (y_fa fl_159_0 rfl) rfl ?_
        refine d_Tg 12 rfl rfl rfl rfl (by kernel_rfl) rfl (y_ia ar_157 rfl rfl (by omega) (by omega)) rfl ?_
        refine d_Tg 13 rfl rfl rfl rfl (by kernel_rfl) rfl (y_fa fl_156_4 rfl) rfl ?_
        refine d_Tg 16 rfl rfl rfl rfl (by kernel_rfl) rfl (y_move rfl) rfl ?_
        refine d_hard 9 rfl (by kernel_rfl) ?_
        refine o_take rfl rfl rfl ?_
        refine o_callv en_208 rfl (t208 _ (by omega)) rfl ?_
        refine o_stop (fun _ => (fun x hx => hx)) ?_
        refine d_Tg 14 rfl rfl rfl rfl (by kernel_rfl) rfl (y_ia ar_154 rfl rfl (by omega) (by omega)) rfl ?_
        refine d_ldt 15 rfl rfl rfl rfl (by kernel_rfl) one_3 rfl (fun x hx => hx) m0 (Tb.gr_rows_ring _ (by omega) _ (by omega) rfl) rfl ?_
        refine d_Tg 17 rfl rfl rfl rfl (by kernel_rfl) rfl (y_neq rfl rfl) rfl ?_
        refine d_T 18 rfl (by kernel_rfl) rfl (y_pickT rfl rfl) rfl ?_
        refine d_nil1 43 (by kernel_rfl) rfl rfl ?_
        refine c_cond rfl (fun h167_3 => ?_) (fun h167_3 => ?_)
        · try simp only [decide_eq_true_eq, decide_eq_false_iff_not, Bool.not_eq_true', Bool.not_eq_false', Int.not_lt, Int.not_le, Decidable.not_not, beq_iff_eq, bne_iff_ne, ne_eq, beq_eq_false_iff_ne] at h167_3
          refine c_skip ?_
          refine c_block ?_
          refine c_region ?_
          refine o_T (y_move rfl) rfl ?_
          refine o_T (y_add rfl rfl (w64 (by omega))) rfl ?_
          refine o_L (y_assign rfl) rfl rfl ?_
          refine o_nil0 rfl ?_
          refine l_rm 43 ?_
          refine l_one ?_
          refine c_seq ?_
          refine c_seq ?_
          refine c_draw #[true, true, true, true, true, true, true, true, true, true, true, true, true, true, true, true, true, true, true] rfl (n := 19) rfl ?_
          refine d_T 0 rfl (by kernel_rfl) rfl (y_move rfl) rfl ?_
          refine d_T 1 rfl (by kernel_rfl) rfl (y_move rfl) rfl ?_
          refine d_T 2 rfl (by kernel_rfl) rfl (y_lss rfl rfl) rfl ?_
          refine d_T 3 rfl (by kernel_rfl) rfl (y_move rfl) rfl ?_
          refine d_split 28 rfl (fun h167_4 => ?_) (fun h167_4 => ?_)
          · try simp only [decide_eq_true_eq, decide_eq_false_iff_not, Bool.not_eq_true', Bool.not_eq_false', Int.not_lt, Int.not_le, Decidable.not_not, beq_iff_eq, bne_iff_ne, ne_eq, beq_eq_false_iff_ne] at h167_4
            exfalso; omega
          · try simp only [decide_eq_true_eq, decide_eq_false_iff_not, Bool.not_eq_true', Bool.not_eq_false', Int.not_lt, Int.not_le, Decidable.not_not, beq_iff_eq, bne_iff_ne, ne_eq, beq_eq_false_iff_ne] at h167_4
            refine d_pass 4 rfl rfl rfl rfl rfl (by kernel_rfl) (fun x hx => hx) rfl ?_
            refine d_pass 5 rfl rfl rfl rfl rfl (by kernel_rfl) (fun x hx => hx) rfl ?_
            refine d_pass 6 rfl rfl rfl rfl rfl (by kernel_rfl) (fun x hx => hx) rfl ?_
            refine d_pass 7 rfl rfl rfl rfl rfl (by kernel_rfl) (fun x hx => hx) rfl ?_
            refine d_pass 8 rfl rfl rfl rfl rfl (by kernel_rfl) (fun x hx => hx) rfl ?_
            refine d_pass 10 rfl rfl rfl rfl rfl (by kernel_rfl) (fun x hx => hx) rfl ?_
            refine d_pass 11 rfl rfl rfl rfl rfl (by kernel_rfl) (fun x hx => hx) rfl ?_
            refine d_pass 12 rfl rfl rfl rfl rfl (by kernel_rfl) (fun x hx => hx) rfl ?_
            refine d_pass 13 rfl rfl rfl rfl rfl (by kernel_rfl) (fun x hx => hx) rfl ?_
            refine d_pass 16 rfl rfl rfl rfl rfl (by kernel_rfl) (fun x hx => hx) rfl ?_
            refine d_pass 9 rfl rfl rfl rfl rfl (by kernel_rfl) (fun x hx => hx) rfl ?_
            refine d_pass 14 rfl rfl rfl rfl rfl (by kernel_rfl) (fun x hx => hx) rfl ?_
            refine d_pass 15 rfl rfl rfl rfl rfl (by kernel_rfl) (fun x hx => hx) rfl ?_
            refine d_pass 17 rfl rfl rfl rfl rfl (by kernel_rfl) (fun x hx => hx) rfl ?_
            refine d_T 18 rfl (by kernel_rfl) rfl (y_pickF rfl rfl) rfl ?_
            refine d_nil1 43 (by kernel_rfl) rfl rfl ?_
            refine c_condF rfl ?_
            refine c_exit ?_
            refine c_seq ?_
            refine c_seq ?_
            refine c_region ?_
            refine o_T (y_move rfl) rfl ?_
            refine o_T (y_move rfl) rfl ?_
            refine o_T (y_eql rfl rfl) rfl ?_
            refine o_nil1 48 rfl rfl ?_
            refine c_cond rfl (fun h170 => ?_) (fun h170 => ?_)
            · try simp only [decide_eq_true_eq, decide_eq_false_iff_not, Bool.not_eq_true', Bool.not_eq_false', Int.not_lt, Int.not_le, Decidable.not_not, beq_iff_eq, bne_iff_ne, ne_eq, beq_eq_false_iff_ne] at h170
              refine c_ret ?_
              refine fun aX wX heX hsX => ret0 Tryz.results206 (s_take s_nil) ?_
              have e1 : t.leave i sd = t := Tb.leave_no (by unfold Rw.leave; rw [if_neg (by omega), if_neg h167_1, if_neg (by omega), if_neg h167_3])
              rw [e1]
              exact ⟨_, rfl, by rw [← e1]; exact Tb.ok_leave ok0 i sd, rfl, rfl⟩
            · try simp only [decide_eq_true_eq, decide_eq_false_iff_not, Bool.not_eq_true', Bool.not_eq_false', Int.not_lt, Int.not_le, Decidable.not_not, beq_iff_eq, bne_iff_ne, ne_eq, beq_eq_false_iff_ne] at h170
              exfalso; omega
        · try simp only [decide_eq_true_eq, decide_eq_false_iff_not, Bool.not_eq_true', Bool.not_eq_false', Int.not_lt, Int.not_le, Decidable.not_not, beq_iff_eq, bne_iff_ne, ne_eq, beq_eq_false_iff_ne] at h167_3
          refine c_exit ?_
          refine c_seq ?_
          refine c_seq ?_
          refine c_region ?_
          refine o_T (y_move rfl) rfl ?_
          refine o_T (y_move rfl) rfl ?_
          refine o_T (y_eql rfl rfl) rfl ?_
          refine o_nil1 48 rfl rfl ?_
          refine c_cond rfl (fun h170 => ?_) (fun h170 => ?_)
          · try simp only [decide_eq_true_eq, decide_eq_false_iff_not, Bool.not_eq_true', Bool.not_eq_false', Int.not_lt, Int.not_le, Decidable.not_not, beq_iff_eq, bne_iff_ne, ne_eq, beq_eq_false_iff_ne] at h170
            exfalso; omega
          · try simp only [decide_eq_true_eq, decide_eq_false_iff_not, Bool.not_eq_true', Bool.not_eq_false', Int.not_lt, Int.not_le, Decidable.not_not, beq_iff_eq, bne_iff_ne, ne_eq, beq_eq_false_iff_ne] at h170
            refine c_skip ?_
            refine c_seq ?_
            refine c_block ?_
            refine c_unroll 2 ?_
            refine l_one ?_
            refine c_seq ?_
            refine c_seq ?_
            refine c_region ?_
            refine o_T (y_move rfl) rfl ?_
            refine o_T (y_add rfl rfl (w64 (by omega))) rfl ?_
            refine o_T (y_move rfl) rfl ?_
            refine o_T (y_lss rfl rfl) rfl ?_
            refine o_nil1 52 rfl rfl ?_
            refine c_cond rfl (fun h173 => ?_) (fun h173 => ?_)
            · try simp only [decide_eq_true_eq, decide_eq_false_iff_not, Bool.not_eq_true', Bool.not_eq_false', Int.not_lt, Int.not_le, Decidable.not_not, beq_iff_eq, bne_iff_ne, ne_eq, beq_eq_false_iff_ne] at h173
              exfalso; omega
            · try simp only [decide_eq_true_eq, decide_eq_false_iff_not, Bool.not_eq_true', Bool.not_eq_false', Int.not_lt, Int.not_le, Decidable.not_not, beq_iff_eq, bne_iff_ne, ne_eq, beq_eq_false_iff_ne] at h173
              refine c_exit ?_
              refine c_draw #[true, true, true, true, true, true, true, true, true, true, true, true, false] rfl (n := 13) rfl ?_
              refine d_T 0 rfl (by kernel_rfl) rfl (y_move rfl) rfl ?_
              refine d_T 1 rfl (by kernel_rfl) rfl (y_move rfl) rfl ?_
              refine d_T 2 rfl (by kernel_rfl) rfl (y_nilck rfl) rfl ?_
              refine d_T 3 rfl (by kernel_rfl) rfl (y_fa fl_159_0 rfl) rfl ?_
              refine d_T 4 rfl (by kernel_rfl) rfl (y_ia ar_157 rfl rfl (by omega) (by omega)) rfl ?_
              refine d_T 5 rfl (by kernel_rfl) rfl (y_fa fl_156_6 rfl) rfl ?_
              refine d_ld 6 rfl (by kernel_rfl) one_3 rfl (fun x hx => hx) m0 (Tb.gr_rows_n _ (by omega) rfl) rfl ?_
              refine d_T 7 rfl (by kernel_rfl) rfl (y_sub rfl rfl (w64 (by first | omega | (simp only [upA_at]; omega)))) rfl ?_
              refine d_T 8 rfl (by kernel_rfl) rfl (y_nilck rfl) rfl ?_
              refine d_T 9 rfl (by kernel_rfl) rfl (y_fa fl_159_0 rfl) rfl ?_
              refine d_T 10 rfl (by kernel_rfl) rfl (y_ia ar_157 rfl rfl (by omega) (by omega)) rfl ?_
              refine d_T 11 rfl (by kernel_rfl) rfl (y_fa fl_156_6 rfl) rfl ?_
              refine d_hard 12 rfl (by kernel_rfl) ?_
              refine o_st one_3 rfl rfl rfl r0 (Tb.sr_rows_n _ (by omega) rfl) (by simp only [Tb.size]; omega) ?_
              refine o_stop (fun h => nomatch h) ?_
              refine d_nil0 (by kernel_rfl) rfl ?_
              refine fun aX wX heX hsX => ret0 Tryz.results206 (s_take s_nil) ?_
              have e1 : t.leave i sd = { t with rows := upA t.rows i.toNat { (t.rows i.toNat) with n := (t.rows i.toNat).n - 1 } } := by unfold Tb.leave Rw.leave; rw [if_neg (by omega), if_neg h167_1, if_neg (by omega), if_pos h167_3]
              rw [e1]
              exact ⟨_, rfl, by rw [← e1]; exact Tb.ok_leave ok0 i sd, rfl, by first | (simp only [upA_upA, upA_at]; done) | rfl⟩
      · try simp only [decide_eq_true_eq, decide_eq_false_iff_not, Bool.not_eq_true', Bool.not_eq_false', Int.not_lt, Int.not_le, Decidable.not_not, beq_iff_eq, bne_iff_ne, ne_eq, beq_eq_false_iff_ne] at h167_2
        refine d_pass 4 rfl rfl rfl rfl rfl (by kernel_rfl) (fun x hx => hx) rfl ?_
        refine d_pass 5 rfl rfl rfl rfl rfl (by kernel_rfl) (fun x hx => hx) rfl ?_
        refine d_pass 6 rfl rfl rfl rfl rfl (by kernel_rfl) (fun x hx => hx) rfl ?_
        refine d_pass 7 rfl rfl rfl rfl rfl (by kernel_rfl) (fun x hx => hx) rfl ?_
        refine d_pass 8 rfl rfl rfl rfl rfl (by kernel_rfl) (fun x hx => hx) rfl ?_
        refine d_pass 10 rfl rfl rfl rfl rfl (by kernel_rfl) (fun x hx => hx) rfl ?_
        refine d_pass 11 rfl rfl rfl rfl rfl (by kernel_rfl) (fun x hx => hx) rfl ?_
        refine d_pass 12 rfl rfl rfl rfl rfl (by kernel_rfl) (fun x hx => hx) rfl ?_
        refine d_pass 13 rfl rfl rfl rfl rfl (by kernel_rfl) (fun x hx => hx) rfl ?_
        refine d_pass 16 rfl rfl rfl rfl rfl (by kernel_rfl) (fun x hx => hx) rfl ?_
        refine d_pass 9 rfl rfl rfl rfl rfl (by kernel_rfl) (fun x hx => hx) rfl ?_
        refine d_pass 14 rfl rfl rfl rfl rfl (by kernel_rfl) (fun x hx => hx) rfl ?_
        refine d_pass 15 rfl rfl rfl rfl rfl (by kernel_rfl) (fun x hx => hx) rfl ?_
        refine d_pass 17 rfl rfl rfl rfl rfl (by kernel_rfl) (fun x hx => hx) rfl ?_
        refine d_T 18 rfl (by kernel_rfl) rfl (y_pickF rfl rfl) rfl ?_
        refine d_nil1 43 (by kernel_rfl) rfl rfl ?_
        refine c_condF rfl ?_
        refine c_exit ?_
        refine c_seq ?_
        refine c_seq ?_
        refine c_region ?_
        refine o_T (y_move rfl) rfl ?_
        refine o_T (y_move rfl) rfl ?_
        refine o_T (y_eql rfl rfl) rfl ?_
        refine o_nil1 48 rfl rfl ?_
        refine c_cond rfl (fun h170 => ?_) (fun h170 => ?_)
        · try simp only [decide_eq_true_eq, decide_eq_false_iff_not, Bool.not_eq_true', Bool.not_eq_false', Int.not_lt, Int.not_le, Decidable.not_not, beq_iff_eq, bne_iff_ne, ne_eq, beq_eq_false_iff_ne] at h170
          refine c_ret ?_
          refine fun aX wX heX hsX => ret0 Tryz.results206 (s_take s_nil) ?_
          have e1 : t.leave i sd = t := Tb.leave_no (by unfold Rw.leave; rw [if_neg (by omega), if_neg h167_1, if_pos (by omega)])
          rw [e1]
          exact ⟨_, rfl, by rw [← e1]; exact Tb.ok_leave ok0 i sd, rfl, rfl⟩
        · try simp only [decide_eq_true_eq, decide_eq_false_iff_not, Bool.not_eq_true', Bool.not_eq_false', Int.not_lt, Int.not_le, Decidable.not_not, beq_iff_eq, bne_iff_ne, ne_eq, beq_eq_false_iff_ne] at h170
          exfalso; omega
    · try simp only [decide_eq_true_eq, decide_eq_false_iff_not, Bool.not_eq_true', Bool.not_eq_false', Int.not_lt, Int.not_le, Decidable.not_not, beq_iff_eq, bne_iff_ne, ne_eq, beq_eq_false_iff_ne] at h167_1
      refine c_exit ?_
      refine c_seq ?_
      refine c_seq ?_
      refine c_region ?_
      refine o_T (y_move rfl) rfl ?_
      refine o_T (y_move rfl) rfl ?_
      refine o_T (y_eql rfl rfl) rfl ?_
      refine o_nil1 48 rfl rfl ?_
      refine c_cond rfl (fun h170 => ?_) (fun h170 => ?_)
      · try simp only [decide_eq_true_eq, decide_eq_false_iff_not, Bool.not_eq_true', Bool.not_eq_false', Int.not_lt, Int.not_le, Decidable.not_not, beq_iff_eq, bne_iff_ne, ne_eq, beq_eq_false_iff_ne] at h170
        exfalso; omega
      · try simp only [decide_eq_true_eq, decide_eq_false_iff_not, Bool.not_eq_true', Bool.not_eq_false', Int.not_lt, Int.not_le, Decidable.not_not, beq_iff_eq, bne_iff_ne, ne_eq, beq_eq_false_iff_ne] at h170
        refine c_skip ?_
        refine c_seq ?_
        refine c_block ?_
        refine c_unroll 2 ?_
        refine l_one ?_
        refine c_seq ?_
        refine c_seq ?_
        refine c_region ?_
        refine o_T (y_move rfl) rfl ?_
        refine o_T (y_add rfl rfl (w64 (by omega))) rfl ?_
        refine o_T (y_move rfl) rfl ?_
        refine o_T (y_lss rfl rfl) rfl ?_
        refine o_nil1 52 rfl rfl ?_
        refine c_cond rfl (fun h173 => ?_) (fun h173 => ?_)
        · try simp only [decide_eq_true_eq, decide_eq_false_iff_not, Bool.not_eq_true', Bool.not_eq_false', Int.not_lt, Int.not_le, Decidable.not_not, beq_iff_eq, bne_iff_ne, ne_eq, beq_eq_false_iff_ne] at h173
          refine c_skip ?_
          refine c_seq ?_
          refine c_block ?_
          refine c_seq ?_
          refine c_region ?_
          refine o_T (y_move rfl) rfl ?_
          refine o_T (y_move rfl) rfl ?_
          refine o_T (y_add rfl rfl (w64 (by omega))) rfl ?_
          refine o_callv en_208 rfl (t208 _ (by omega)) rfl ?_
          refine o_L (y_assign rfl) rfl rfl ?_
          refine o_nil0 rfl ?_
          refine c_seq ?_
          refine c_region ?_
          refine o_T (y_move rfl) rfl ?_
          refine o_T (y_move rfl) rfl ?_
          refine o_T (y_add rfl rfl (w64 (by omega))) rfl ?_
          refine o_T (y_add rfl rfl (w64 (by omega))) rfl ?_
          refine o_callv en_208 rfl (t208 _ (by omega)) rfl ?_
          refine o_L (y_assign rfl) rfl rfl ?_
          refine o_nil0 rfl ?_
          refine c_draw #[true, true, true, true, true, true, true, true, true, true, true, true, true, true, true, true, true, false] rfl (n := 18) rfl ?_
          refine d_T 0 rfl (by kernel_rfl) rfl (y_move rfl) rfl ?_
          refine d_T 1 rfl (by kernel_rfl) rfl (y_move rfl) rfl ?_
          refine d_T 2 rfl (by kernel_rfl) rfl (y_move rfl) rfl ?_
          refine d_T 3 rfl (by kernel_rfl) rfl (y_move rfl) rfl ?_
          refine d_T 4 rfl (by kernel_rfl) rfl (y_move rfl) rfl ?_
          refine d_T 5 rfl (by kernel_rfl) rfl (y_move rfl) rfl ?_
          refine d_T 6 rfl (by kernel_rfl) rfl (y_nilck rfl) rfl ?_
          refine d_T 7 rfl (by kernel_rfl) rfl (y_fa fl_159_0 rfl) rfl ?_
          refine d_T 8 rfl (by kernel_rfl) rfl (y_ia ar_157 rfl rfl (by omega) (by omega)) rfl ?_
          refine d_T 9 rfl (by kernel_rfl) rfl (y_fa fl_156_4 rfl) rfl ?_
          refine d_T 10 rfl (by kernel_rfl) rfl (y_ia ar_154 rfl rfl (by omega) (by omega)) rfl ?_
          refine d_ld 11 rfl (by kernel_rfl) one_3 rfl (fun x hx => hx) m0 (Tb.gr_rows_ring _ (by omega) _ (by omega) rfl) rfl ?_
          refine d_T 12 rfl (by kernel_rfl) rfl (y_nilck rfl) rfl ?_
          refine d_T 13 rfl (by kernel_rfl) rfl (y_fa fl_159_0 rfl) rfl ?_
          refine d_T 14 rfl (by kernel_rfl) rfl (y_ia ar_157 rfl rfl (by omega) (by omega)) rfl ?_
          refine d_T 15 rfl (by kernel_rfl) rfl (y_fa fl_156_4 rfl) rfl ?_
          refine d_T 16 rfl (by kernel_rfl) rfl (y_ia ar_154 rfl rfl (by omega) (by omega)) rfl ?_
          refine d_hard 17 rfl (by kernel_rfl) ?_
          refine o_st one_3 rfl rfl rfl r0 (Tb.sr_rows_ring _ (by omega) _ (by omega) rfl) (by simp only [Tb.size]; omega) ?_
          refine o_stop (fun h => nomatch h) ?_
          refine d_nil0 (by kernel_rfl) rfl ?_
          refine c_region ?_
          refine o_T (y_move rfl) rfl ?_
          refine o_T (y_add rfl rfl (w64 (by omega))) rfl ?_
          refine o_L (y_assign rfl) rfl rfl ?_
          refine o_nil0 rfl ?_
          refine l_rm 52 ?_
          refine l_one ?_
          refine c_seq ?_
          refine c_seq ?_
          refine c_region ?_
          refine o_T (y_move rfl) rfl ?_
          refine o_T (y_add rfl rfl (w64 (by omega))) rfl ?_
          refine o_T (y_move rfl) rfl ?_
          refine o_T (y_lss rfl rfl) rfl ?_
          refine o_nil1 52 rfl rfl ?_
          refine c_cond rfl (fun h173_1 => ?_) (fun h173_1 => ?_)
          · try simp only [decide_eq_true_eq, decide_eq_false_iff_not, Bool.not_eq_true', Bool.not_eq_false', Int.not_lt, Int.not_le, Decidable.not_not, beq_iff_eq, bne_iff_ne, ne_eq, beq_eq_false_iff_ne] at h173_1
            exfalso; omega
          · try simp only [decide_eq_true_eq, decide_eq_false_iff_not, Bool.not_eq_true', Bool.not_eq_false', Int.not_lt, Int.not_le, Decidable.not_not, beq_iff_eq, bne_iff_ne, ne_eq, beq_eq_false_iff_ne] at h173_1
            refine c_exit ?_
            refine c_draw #[true, true, true, true, true, true, true, true, true, true, true, true, false] rfl (n := 13) rfl ?_
            refine d_T 0 rfl (by kernel_rfl) rfl (y_move rfl) rfl ?_
            refine d_T 1 rfl (by kernel_rfl) rfl (y_move rfl) rfl ?_
            refine d_T 2 rfl (by kernel_rfl) rfl (y_nilck rfl) rfl ?_
            refine d_T 3 rfl (by kernel_rfl) rfl (y_fa fl_159_0 rfl) rfl ?_
            refine d_T 4 rfl (by kernel_rfl) rfl (y_ia ar_157 rfl rfl (by omega) (by omega)) rfl ?_
            refine d_T 5 rfl (by kernel_rfl) rfl (y_fa fl_156_6 rfl) rfl ?_
            refine d_ld 6 rfl (by kernel_rfl) one_3 rfl (fun x hx => hx) m0 (Tb.gr_rows_n _ (by omega) rfl) rfl ?_
            refine d_T 7 rfl (by kernel_rfl) rfl (y_sub rfl rfl (w64 (by first | omega | (simp only [upA_at]; omega)))) rfl ?_
            refine d_T 8 rfl (by kernel_rfl) rfl (y_nilck rfl) rfl ?_
            refine d_T 9 rfl (by kernel_rfl) rfl (y_fa fl_159_0 rfl) rfl ?_
            refine d_T 10 rfl (by kernel_rfl) rfl (y_ia ar_157 rfl rfl (by omega) (by omega)) rfl ?_
            refine d_T 11 rfl (by kernel_rfl) rfl (y_fa fl_156_6 rfl) rfl ?_
            refine d_hard 12 rfl (by kernel_rfl) ?_
            refine o_st one_3 rfl rfl rfl r0 (Tb.sr_rows_n _ (by omega) rfl) (by simp only [Tb.size]; omega) ?_
            refine o_stop (fun h => nomatch h) ?_
            refine d_nil0 (by kernel_rfl) rfl ?_
            refine fun aX wX heX hsX => ret0 Tryz.results206 (s_take s_nil) ?_
            have e1 : t.leave i sd = { t with rows := upA t.rows i.toNat { (t.rows i.toNat) with ring := upA (t.rows i.toNat).ring (wrapF ((t.rows i.toNat).head + 0)).toNat ((t.rows i.toNat).ring (wrapF ((t.rows i.toNat).head + 0 + 1)).toNat), n := (t.rows i.toNat).n - 1 } } := by unfold Tb.leave Rw.leave; rw [if_neg (by omega), if_pos h167_1, if_pos (by omega)]
            rw [e1]
            exact ⟨_, rfl, by rw [← e1]; exact Tb.ok_leave ok0 i sd, rfl, by first | (simp only [upA_upA, upA_at]; done) | rfl⟩
        · try simp only [decide_eq_true_eq, decide_eq_false_iff_not, Bool.not_eq_true', Bool.not_eq_false', Int.not_lt, Int.not_le, Decidable.not_not, beq_iff_eq, bne_iff_ne, ne_eq, beq_eq_false_iff_ne] at h173
          refine c_exit ?_
          refine c_draw #[true, true, true, true, true, true, true, true, true, true, true, true, false] rfl (n := 13) rfl ?_
          refine d_T 0 rfl (by kernel_rfl) rfl (y_move rfl) rfl ?_
          refine d_T 1 rfl (by kernel_rfl) rfl (y_move rfl) rfl ?_
          refine d_T 2 rfl (by kernel_rfl) rfl (y_nilck rfl) rfl ?_
          refine d_T 3 rfl (by kernel_rfl) rfl (y_fa fl_159_0 rfl) rfl ?_
          refine d_T 4 rfl (by kernel_rfl) rfl (y_ia ar_157 rfl rfl (by omega) (by omega)) rfl ?_
          refine d_T 5 rfl (by kernel_rfl) rfl (y_fa fl_156_6 rfl) rfl ?_
          refine d_ld 6 rfl (by kernel_rfl) one_3 rfl (fun x hx => hx) m0 (Tb.gr_rows_n _ (by omega) rfl) rfl ?_
          refine d_T 7 rfl (by kernel_rfl) rfl (y_sub rfl rfl (w64 (by first | omega | (simp only [upA_at]; omega)))) rfl ?_
          refine d_T 8 rfl (by kernel_rfl) rfl (y_nilck rfl) rfl ?_
          refine d_T 9 rfl (by kernel_rfl) rfl (y_fa fl_159_0 rfl) rfl ?_
          refine d_T 10 rfl (by kernel_rfl) rfl (y_ia ar_157 rfl rfl (by omega) (by omega)) rfl ?_
          refine d_T 11 rfl (by kernel_rfl) rfl (y_fa fl_156_6 rfl) rfl ?_
          refine d_hard 12 rfl (by kernel_rfl) ?_
          refine o_st one_3 rfl rfl rfl r0 (Tb.sr_rows_n _ (by omega) rfl) (by simp only [Tb.size]; omega) ?_
          refine o_stop (fun h => nomatch h) ?_
          refine d_nil0 (by kernel_rfl) rfl ?_
          refine fun aX wX heX hsX => ret0 Tryz.results206 (s_take s_nil) ?_
          have e1 : t.leave i sd = { t with rows := upA t.rows i.toNat { (t.rows i.toNat) with n := (t.rows i.toNat).n - 1 } } := by unfold Tb.leave Rw.leave; rw [if_neg (by omega), if_pos h167_1, if_neg (by omega)]
          rw [e1]
          exact ⟨_, rfl, by rw [← e1]; exact Tb.ok_leave ok0 i sd, rfl, by first | (simp only [upA_upA, upA_at]; done) | rfl⟩
  · try simp only [decide_eq_true_eq, decide_eq_false_iff_not, Bool.not_eq_true', Bool.not_eq_false', Int.not_lt, Int.not_le, Decidable.not_not, beq_iff_eq, bne_iff_ne, ne_eq, beq_eq_false_iff_ne] at h167
    refine d_pass 4 rfl rfl rfl rfl rfl (by kernel_rfl) (fun x hx => hx) rfl ?_
    refine d_pass 5 rfl rfl rfl rfl rfl (by kernel_rfl) (fun x hx => hx) rfl ?_
    refine d_pass 6 rfl rfl rfl rfl rfl (by kernel_rfl) (fun x hx => hx) rfl ?_
    refine d_pass 7 rfl rfl rfl rfl rfl (by kernel_rfl) (fun x hx => hx) rfl ?_
    refine d_pass 8 rfl rfl rfl rfl rfl (by kernel_rfl) (fun x hx => hx) rfl ?_
    refine d_pass 10 rfl rfl rfl rfl rfl (by kernel_rfl) (fun x hx => hx) rfl ?_
    refine d_pass 11 rfl rfl rfl rfl rfl (by kernel_rfl) (fun x hx => hx) rfl ?_
    refine d_pass 12 rfl rfl rfl rfl rfl (by kernel_rfl) (fun x hx => hx) rfl ?_
    refine d_pass 13 rfl rfl rfl rfl rfl (by kernel_rfl) (fun x hx => hx) rfl ?_
    refine d_pass 16 rfl rfl rfl rfl rfl (by kernel_rfl) (fun x hx => hx) rfl ?_
    refine d_pass 9 rfl rfl rfl rfl rfl (by kernel_rfl) (fun x hx => hx) rfl ?_
    refine d_pass 14 rfl rfl rfl rfl rfl (by kernel_rfl) (fun x hx => hx) rfl ?_
    refine d_pass 15 rfl rfl rfl rfl rfl (by kernel_rfl) (fun x hx => hx) rfl ?_
    refine d_pass 17 rfl rfl rfl rfl rfl (by kernel_rfl) (fun x hx => hx) rfl ?_
    refine d_T 18 rfl (by kernel_rfl) rfl (y_pickF rfl rfl) rfl ?_
    refine d_nil1 43 (by kernel_rfl) rfl rfl ?_
    refine c_condF rfl ?_
    refine c_exit ?_
    refine c_seq ?_
    refine c_seq ?_
    refine c_region ?_
    refine o_T (y_move rfl) rfl ?_
    refine o_T (y_move rfl) rfl ?_
    refine o_T (y_eql rfl rfl) rfl ?_
    refine o_nil1 48 rfl rfl ?_
    refine c_cond rfl (fun h170 => ?_) (fun h170 => ?_)
    · try simp only [decide_eq_true_eq, decide_eq_false_iff_not, Bool.not_eq_true', Bool.not_eq_false', Int.not_lt, Int.not_le, Decidable.not_not, beq_iff_eq, bne_iff_ne, ne_eq, beq_eq_false_iff_ne] at h170
      refine c_ret ?_
      refine fun aX wX heX hsX => ret0 Tryz.results206 (s_take s_nil) ?_
      have e1 : t.leave i sd = t := Tb.leave_no (by unfold Rw.leave; rw [if_pos (by omega)])
      rw [e1]
      exact ⟨_, rfl, by rw [← e1]; exact Tb.ok_leave ok0 i sd, rfl, rfl⟩
    · try simp only [decide_eq_true_eq, decide_eq_false_iff_not, Bool.not_eq_true', Bool.not_eq_false', Int.not_lt, Int.not_le, Decidable.not_not, beq_iff_eq, bne_iff_ne, ne_eq, beq_eq_false_iff_ne] at h170
      exfalso; omega

/-- (*e2e/sock.Table).conn -/
theorem t177 (b : Nat) (t : Tb) (lp rh rp slot parent : Int) (ok : t.Ok) (h1 : 0 ≤ lp ∧ lp < 16) (h2 : 0 ≤ rh ∧ rh < 256) (h3 : 0 ≤ rp ∧ rp < 16) (h4 : 0 ≤ slot ∧ slot < 4) (h5 : t.nextSd < 1152921504606846976) : Trip Tryz.prog 177 #[.pointer (some ⟨b, 0, none⟩), .int .i64 lp, .int .i64 rh, .int .i64 rp, .int .i64 slot, .int .i64 parent] [[(b, .cells t.enc 159 (0, 0))]] (fun u S' => ∃ t' : Tb, t' = (t.conn lp rh rp slot parent).2 ∧ t'.Ok ∧ u = .int .i64 (t.conn lp rh rp slot parent).1 ∧ S' = [[(b, .cells (t').enc 159 (0, 0))]]) := by
  have ok0 := ok
  obtain ⟨q1, q2, q3, q4, q5, q6, q7, q8, q9, q10, q11, q12⟩ := ok
  have tb := Tb.take_b ok0
  have tn := Tb.take_next t
  have tk := (Tb.ok_take ok0).blocks
  have okC := Tb.ok_connT ok0 (parent := parent) h1 h2 h3 h4 h5
  refine fn_entry (args := [.pointer (some ⟨b, 0, none⟩), .int .i64 lp, .int .i64 rh, .int .i64 rp, .int .i64 slot, .int .i64 parent]) Tryz.func177 rfl Tryz.ntmps177 rfl (fun w0 => ?_)
  refine c_seq ?_
  refine c_region ?_
  refine o_L (y_assign rfl) rfl rfl ?_
  refine o_nil0 rfl ?_
  refine c_seq ?_
  refine c_region ?_
  refine o_T (y_move rfl) rfl ?_
  refine o_call en_174 rfl (t174 _ _ (by assumption)) (s_take s_nil) rfl ?_
  rintro v S' ⟨t_1, ht_1, kt_1, rfl, rfl⟩
  refine o_L (y_assign rfl) rfl rfl ?_
  refine o_nil0 rfl ?_
  refine c_seq ?_
  refine c_seq ?_
  rw [← ht_1] at tn tk
  refine c_region ?_
  refine o_T (y_move rfl) rfl ?_
  refine o_T (y_eql rfl rfl) rfl ?_
  refine o_nil1 18 rfl rfl ?_
  refine c_cond rfl (fun h184 => ?_) (fun h184 => ?_)
  · try simp only [decide_eq_true_eq, decide_eq_false_iff_not, Bool.not_eq_true', Bool.not_eq_false', Int.not_lt, Int.not_le, Decidable.not_not, beq_iff_eq, bne_iff_ne, ne_eq, beq_eq_false_iff_ne] at h184
    refine c_seq ?_
    refine c_region ?_
    refine o_L (y_assign rfl) rfl rfl ?_
    refine o_nil0 rfl ?_
    refine c_ret ?_
    refine fun aX wX heX hsX => ret1 Tryz.results177 heX rfl (s_take s_nil) ?_
    have e1 : t.conn lp rh rp slot parent = (0, t.takeT) := by unfold Tb.conn; rw [if_pos h184]
    rw [e1]
    subst ht_1
    exact ⟨_, rfl, by rw [← e1]; exact Tb.ok_conn ok0 h1 h2 h3 h4 h5, rfl, rfl⟩
  · try simp only [decide_eq_true_eq, decide_eq_false_iff_not, Bool.not_eq_true', Bool.not_eq_false', Int.not_lt, Int.not_le, Decidable.not_not, beq_iff_eq, bne_iff_ne, ne_eq, beq_eq_false_iff_ne] at h184
    refine c_skip ?_
    refine c_seq ?_
    refine c_region ?_
    refine o_T (y_move rfl) rfl ?_
    refine o_T (y_nilck rfl) rfl ?_
    refine o_T (y_fa fl_159_6 rfl) rfl ?_
    refine o_ld one_3 rfl m0 Tb.g105 rfl ?_
    refine o_L (y_assign rfl) rfl rfl ?_
    refine o_nil0 rfl ?_
    refine c_seq ?_
    refine c_region ?_
    refine o_T (y_move rfl) rfl ?_
    refine o_T (y_nilck rfl) rfl ?_
    refine o_T (y_fa fl_159_6 rfl) rfl ?_
    refine o_ld one_3 rfl m0 Tb.g105 rfl ?_
    refine o_T (y_add rfl rfl (w64 (by omega))) rfl ?_
    refine o_T (y_nilck rfl) rfl ?_
    refine o_T (y_fa fl_159_6 rfl) rfl ?_
    refine o_st one_3 rfl rfl rfl r0 Tb.s105 (of_blt rfl) ?_
    refine o_nil0 rfl ?_
    refine c_seq ?_
    refine c_region ?_
    refine o_T (y_move rfl) rfl ?_
    refine o_T (y_move rfl) rfl ?_
    refine o_T (y_move rfl) rfl ?_
    refine o_T (y_move rfl) rfl ?_
    refine o_T (y_move rfl) rfl ?_
    refine o_T (y_move rfl) rfl ?_
    refine o_T (y_move rfl) rfl ?_
    refine o_T (y_move rfl) rfl ?_
    refine o_T (y_build st_66 rfl (fb rfl rfl rfl En.s0 (fb rfl rfl rfl En.s1 (fb rfl rfl rfl En.s2 (fb rfl rfl rfl En.s3 (fb rfl rfl rfl En.s4 (fb rfl rfl rfl En.s5 (fb rfl rfl rfl En.s6 fb0)))))))) rfl ?_
    refine o_T (y_nilck rfl) rfl ?_
    refine o_T (y_fa fl_159_0 rfl) rfl ?_
    refine o_T (y_ia ar_157 rfl rfl (by omega) (by omega)) rfl ?_
    refine o_T (y_fa fl_156_1 rfl) rfl ?_
    refine o_sta ag_66 rfl rfl rfl rfl r0 (Tb.Sr_rows_e _ (by omega) rfl) (by simp only [Tb.size]; omega) ?_
    refine o_nil0 rfl ?_
    refine c_seq ?_
    refine c_draw #[true, true, true, true, true, true, true, true, true, false] rfl (n := 10) rfl ?_
    refine d_T 0 rfl (by kernel_rfl) rfl (y_move rfl) rfl ?_
    refine d_T 1 rfl (by kernel_rfl) rfl (y_nilck rfl) rfl ?_
    refine d_T 2 rfl (by kernel_rfl) rfl (y_fa fl_159_4 rfl) rfl ?_
    refine d_ld 3 rfl (by kernel_rfl) one_5 rfl (fun x hx => hx) m0 Tb.g103 rfl ?_
    refine d_T 4 rfl (by kernel_rfl) rfl (y_move rfl) rfl ?_
    refine d_hard 5 rfl (by kernel_rfl) ?_
    refine o_callv en_171 rfl (t171 _ (by omega)) rfl ?_
    refine o_stop (fun _ => (fun x hx => hx)) ?_
    refine d_T 6 rfl (by kernel_rfl) rfl (y_or rfl rfl (or_blk tk (by omega))) rfl ?_
    refine d_T 7 rfl (by kernel_rfl) rfl (y_nilck rfl) rfl ?_
    refine d_T 8 rfl (by kernel_rfl) rfl (y_fa fl_159_4 rfl) rfl ?_
    refine d_hard 9 rfl (by kernel_rfl) ?_
    refine o_st one_5 rfl rfl rfl r0 Tb.s103 (of_blt rfl) ?_
    refine o_stop (fun h => nomatch h) ?_
    refine d_nil0 (by kernel_rfl) rfl ?_
    refine c_seq ?_
    refine c_row (g' := [(b, .cells (t.connT lp rh rp slot parent).enc 159 (0, 0))]) q0 (by unfold Tb.connT; rw [ht_1]) ?_
    refine c_region ?_
    refine o_T (y_move rfl) rfl ?_
    refine o_T (y_move rfl) rfl ?_
    refine o_call en_207 rfl (t207 _ _ _ (by assumption) (by omega)) (s_take s_nil) rfl ?_
    rintro v S' ⟨t_2, ht_2, kt_2, rfl, rfl⟩
    refine o_nil0 rfl ?_
    refine c_seq ?_
    refine c_region ?_
    refine o_T (y_move rfl) rfl ?_
    refine o_L (y_assign rfl) rfl rfl ?_
    refine o_nil0 rfl ?_
    refine c_ret ?_
    refine fun aX wX heX hsX => ret1 Tryz.results177 heX rfl (s_take s_nil) ?_
    have e1 : t.conn lp rh rp slot parent = (t.takeT.nextSd, (t.connT lp rh rp slot parent).link t.free) := by unfold Tb.conn; rw [if_neg h184]
    rw [e1]
    subst ht_2
    subst ht_1
    exact ⟨_, rfl, by rw [← e1]; exact Tb.ok_conn ok0 h1 h2 h3 h4 h5, rfl, rfl⟩

/-- (*e2e/sock.Table).orphan -/
theorem t172 (b : Nat) (t : Tb) (i : Int) (ok : t.Ok) (hi : 0 ≤ i ∧ i < 6) (hk : ∀ j, -999 ≤ (t.rows j).kids) : Trip Tryz.prog 172 #[.pointer (some ⟨b, 0, none⟩), .int .i64 i] [[(b, .cells t.enc 159 (0, 0))]] (fun u S' => ∃ t' : Tb, t' = t.orphan i ∧ t'.Ok ∧ u = .tuple #[] ∧ S' = [[(b, .cells (t').enc 159 (0, 0))]]) := by
  have ok0 := ok
  obtain ⟨q1, q2, q3, q4, q5, q6, q7, q8, q9, q10, q11, q12⟩ := ok
  have v1 := Tb.lrow_b ok0 (t.rows i.toNat).e.lPort
  have v2 := hk (t.lrow (t.rows i.toNat).e.lPort).toNat
  have v3 := q7 (t.lrow (t.rows i.toNat).e.lPort).toNat
  have okK := Tb.ok_kid ok0 (t.lrow (t.rows i.toNat).e.lPort) (by omega)
  refine fn_entry (args := [.pointer (some ⟨b, 0, none⟩), .int .i64 i]) Tryz.func172 rfl Tryz.ntmps172 rfl (fun w0 => ?_)
  refine c_seq ?_
  refine c_seq ?_
  refine c_region ?_
  refine o_T (y_move rfl) rfl ?_
  refine o_T (y_move rfl) rfl ?_
  refine o_T (y_nilck rfl) rfl ?_
  refine o_T (y_fa fl_159_0 rfl) rfl ?_
  refine o_T (y_ia ar_157 rfl rfl (by omega) (by omega)) rfl ?_
  refine o_T (y_fa fl_156_1 rfl) rfl ?_
  refine o_T (y_fa fl_66_6 rfl) rfl ?_
  refine o_ld one_3 rfl m0 (Tb.gr_rows_e_parent _ (by omega) rfl) rfl ?_
  refine o_T (y_eql rfl rfl) rfl ?_
  refine o_nil1 13 rfl rfl ?_
  refine c_cond rfl (fun h147 => ?_) (fun h147 => ?_)
  · try simp only [decide_eq_true_eq, decide_eq_false_iff_not, Bool.not_eq_true', Bool.not_eq_false', Int.not_lt, Int.not_le, Decidable.not_not, beq_iff_eq, bne_iff_ne, ne_eq, beq_eq_false_iff_ne] at h147
    refine c_ret ?_
    refine fun aX wX heX hsX => ret0 Tryz.results172 (s_take s_nil) ?_
    have e1 : t.orphan i = t := by unfold Tb.orphan; rw [if_pos h147]
    rw [e1]
    exact ⟨_, rfl, by rw [← e1]; exact Tb.ok_orphan ok0 i hk, rfl, rfl⟩
  · try simp only [decide_eq_true_eq, decide_eq_false_iff_not, Bool.not_eq_true', Bool.not_eq_false', Int.not_lt, Int.not_le, Decidable.not_not, beq_iff_eq, bne_iff_ne, ne_eq, beq_eq_false_iff_ne] at h147
    refine c_skip ?_
    refine c_seq ?_
    refine c_region ?_
    refine o_T (y_move rfl) rfl ?_
    refine o_T (y_move rfl) rfl ?_
    refine o_T (y_move rfl) rfl ?_
    refine o_T (y_nilck rfl) rfl ?_
    refine o_T (y_fa fl_159_0 rfl) rfl ?_
    refine o_T (y_ia ar_157 rfl rfl (by omega) (by omega)) rfl ?_
    refine o_T (y_fa fl_156_1 rfl) rfl ?_
    refine o_T (y_fa fl_66_2 rfl) rfl ?_
    refine o_ld one_3 rfl m0 (Tb.gr_rows_e_lPort _ (by omega) rfl) rfl ?_
    refine o_callrv en_159 rfl (t159 _ _ _) (s_take s_nil) rfl ?_
    refine o_L (y_assign rfl) rfl rfl ?_
    refine o_nil0 rfl ?_
    refine c_seq ?_
    refine c_seq ?_
    refine c_region ?_
    refine o_T (y_move rfl) rfl ?_
    refine o_T (y_eql rfl rfl) rfl ?_
    refine o_nil1 25 rfl rfl ?_
    refine c_cond rfl (fun h151 => ?_) (fun h151 => ?_)
    · try simp only [decide_eq_true_eq, decide_eq_false_iff_not, Bool.not_eq_true', Bool.not_eq_false', Int.not_lt, Int.not_le, Decidable.not_not, beq_iff_eq, bne_iff_ne, ne_eq, beq_eq_false_iff_ne] at h151
      refine c_ret ?_
      refine fun aX wX heX hsX => ret0 Tryz.results172 (s_take s_nil) ?_
      have e1 : t.orphan i = t := by unfold Tb.orphan; rw [if_neg h147, if_pos h151]
      rw [e1]
      exact ⟨_, rfl, by rw [← e1]; exact Tb.ok_orphan ok0 i hk, rfl, rfl⟩
    · try simp only [decide_eq_true_eq, decide_eq_false_iff_not, Bool.not_eq_true', Bool.not_eq_false', Int.not_lt, Int.not_le, Decidable.not_not, beq_iff_eq, bne_iff_ne, ne_eq, beq_eq_false_iff_ne] at h151
      refine c_skip ?_
      refine c_seq ?_
      refine c_draw #[true, true, true, true, true, true, true, true, true, true, true, true, false] rfl (n := 13) rfl ?_
      refine d_T 0 rfl (by kernel_rfl) rfl (y_move rfl) rfl ?_
      refine d_T 1 rfl (by kernel_rfl) rfl (y_move rfl) rfl ?_
      refine d_T 2 rfl (by kernel_rfl) rfl (y_nilck rfl) rfl ?_
      refine d_T 3 rfl (by kernel_rfl) rfl (y_fa fl_159_0 rfl) rfl ?_
      refine d_T 4 rfl (by kernel_rfl) rfl (y_ia ar_157 rfl rfl (by omega) (by omega)) rfl ?_
      refine d_T 5 rfl (by kernel_rfl) rfl (y_fa fl_156_3 rfl) rfl ?_
      refine d_ld 6 rfl (by kernel_rfl) one_3 rfl (fun x hx => hx) m0 (Tb.gr_rows_kids _ (by omega) rfl) rfl ?_
      refine d_T 7 rfl (by kernel_rfl) rfl (y_sub rfl rfl (w64 (by omega))) rfl ?_
      refine d_T 8 rfl (by kernel_rfl) rfl (y_nilck rfl) rfl ?_
      refine d_T 9 rfl (by kernel_rfl) rfl (y_fa fl_159_0 rfl) rfl ?_
      refine d_T 10 rfl (by kernel_rfl) rfl (y_ia ar_157 rfl rfl (by omega) (by omega)) rfl ?_
      refine d_T 11 rfl (by kernel_rfl) rfl (y_fa fl_156_3 rfl) rfl ?_
      refine d_hard 12 rfl (by kernel_rfl) ?_
      refine o_st one_3 rfl rfl rfl r0 (Tb.sr_rows_kids _ (by omega) rfl) (by simp only [Tb.size]; omega) ?_
      refine o_stop (fun h => nomatch h) ?_
      refine d_nil0 (by kernel_rfl) rfl ?_
      refine c_seq ?_
      refine c_region ?_
      refine o_T (y_move rfl) rfl ?_
      refine o_T (y_move rfl) rfl ?_
      refine o_T (y_nilck rfl) rfl ?_
      refine o_T (y_fa fl_159_0 rfl) rfl ?_
      refine o_T (y_ia ar_157 rfl rfl (by omega) (by omega)) rfl ?_
      refine o_T (y_fa fl_156_1 rfl) rfl ?_
      refine o_T (y_fa fl_66_7 rfl) rfl ?_
      refine o_ld one_4 rfl m0 (Tb.gr_rows_e_ready _ (by omega) rfl) rfl ?_
      refine o_nil1 45 rfl rfl ?_
      refine c_cond rfl (fun h155 => ?_) (fun h155 => ?_)
      · try simp only [decide_eq_true_eq, decide_eq_false_iff_not, Bool.not_eq_true', Bool.not_eq_false', Int.not_lt, Int.not_le, Decidable.not_not, beq_iff_eq, bne_iff_ne, ne_eq, beq_eq_false_iff_ne] at h155
        refine c_region ?_
        refine o_T (y_move rfl) rfl ?_
        refine o_T (y_move rfl) rfl ?_
        refine o_T (y_move rfl) rfl ?_
        refine o_T (y_move rfl) rfl ?_
        refine o_T (y_nilck rfl) rfl ?_
        refine o_T (y_fa fl_159_0 rfl) rfl ?_
        refine o_T (y_ia ar_157 rfl rfl (by omega) (by omega)) rfl ?_
        refine o_T (y_fa fl_156_1 rfl) rfl ?_
        refine o_T (y_fa fl_66_0 rfl) rfl ?_
        refine o_ld one_3 rfl m0 (Tb.gr_rows_e_sd _ (by omega) rfl) rfl ?_
        refine o_call en_206 rfl (t206 _ _ _ _ (by assumption) (by omega)) (s_take s_nil) rfl ?_
        rintro v S' ⟨t_1, ht_1, kt_1, rfl, rfl⟩
        refine o_nil0 rfl ?_
        refine fun aX wX heX hsX => ret0 Tryz.results172 (s_take s_nil) ?_
        have e5 := h155
        rw [upA_e] at e5
        have e1 : t.orphan i = Tb.leave { t with rows := upA t.rows (t.lrow (t.rows i.toNat).e.lPort).toNat { (t.rows (t.lrow (t.rows i.toNat).e.lPort).toNat) with kids := (t.rows (t.lrow (t.rows i.toNat).e.lPort).toNat).kids - 1 } } (t.lrow (t.rows i.toNat).e.lPort) (t.rows i.toNat).e.sd := by unfold Tb.orphan; rw [if_neg h147, if_neg h151, if_pos e5]
        rw [e1]
        rw [upA_e] at ht_1
        subst ht_1
        exact ⟨_, rfl, by rw [← e1]; exact Tb.ok_orphan ok0 i hk, rfl, rfl⟩
      · try simp only [decide_eq_true_eq, decide_eq_false_iff_not, Bool.not_eq_true', Bool.not_eq_false', Int.not_lt, Int.not_le, Decidable.not_not, beq_iff_eq, bne_iff_ne, ne_eq, beq_eq_false_iff_ne] at h155
        refine c_skip ?_
        refine fun aX wX heX hsX => ret0 Tryz.results172 (s_take s_nil) ?_
        have e5 := h155
        rw [upA_e] at e5
        have e1 : t.orphan i = { t with rows := upA t.rows (t.lrow (t.rows i.toNat).e.lPort).toNat { (t.rows (t.lrow (t.rows i.toNat).e.lPort).toNat) with kids := (t.rows (t.lrow (t.rows i.toNat).e.lPort).toNat).kids - 1 } } := by unfold Tb.orphan; rw [if_neg h147, if_neg h151, if_neg (by rw [e5]; decide)]
        rw [e1]
        exact ⟨_, rfl, by rw [← e1]; exact Tb.ok_orphan ok0 i hk, rfl, rfl⟩

end Go.Proofs.Qxb6500351aGreat
