/- MADE BY PROGRAM (tools/gen.py over tools/specs351.py): walks. -/
import Derived.Test.Qxb6500351aGreatFacts
import Derived.Test.Qxb6500351aGreatTyI
import Derived.Test.Qxb6500351aGreatW25
set_option linter.unusedVariables false
set_option linter.unusedSimpArgs false
namespace Go.Proofs.Qxb6500351aGreat
open Go.Eng
set_option maxRecDepth 20000
set_option maxHeartbeats 4000000
/-- (*e2e/sock.Table).take -/
theorem t174 (b : Nat) (t : Tb)  (ok : t.Ok) : Trip Tryz.prog 174 #[.pointer (some ⟨b, 0, none⟩)] [[(b, .cells t.enc 159 (0, 0))]] (fun u S' => ∃ t' : Tb, t' = t.takeT ∧ t'.Ok ∧ u = .int .i64 t.free ∧ S' = [[(b, .cells (t').enc 159 (0, 0))]]) := by
  have ok0 := ok
  obtain ⟨q1, q2, q3, q4, q5, q6, q7, q8, q9, q10, q11, q12⟩ := ok
  refine fn_entry (args := [.pointer (some ⟨b, 0, none⟩)]) Tryz.func174 rfl Tryz.ntmps174 rfl (fun w0 => ?_)
  refine c_seq ?_
  refine c_region ?_
  refine o_L (y_assign rfl) rfl rfl ?_
  refine o_nil0 rfl ?_
  refine c_seq ?_
  refine c_region ?_
  refine o_T (y_move rfl) rfl ?_
  refine o_T (y_nilck rfl) rfl ?_
  refine o_T (y_fa fl_159_1 rfl) rfl ?_
  refine o_ld one_3 rfl m0 Tb.g90 rfl ?_
  refine o_L (y_assign rfl) rfl rfl ?_
  refine o_nil0 rfl ?_
  refine c_seq ?_
  refine c_seq ?_
  refine c_region ?_
  refine o_T (y_move rfl) rfl ?_
  refine o_T (y_neq rfl rfl) rfl ?_
  refine o_nil1 9 rfl rfl ?_
  refine c_cond rfl (fun h60 => ?_) (fun h60 => ?_)
  · try simp only [decide_eq_true_eq, decide_eq_false_iff_not, Bool.not_eq_true', Bool.not_eq_false', Int.not_lt, Int.not_le, Decidable.not_not, beq_iff_eq, bne_iff_ne, ne_eq, beq_eq_false_iff_ne] at h60
    refine c_seq ?_
    refine c_region ?_
    refine o_T (y_move rfl) rfl ?_
    refine o_T (y_move rfl) rfl ?_
    refine o_T (y_move rfl) rfl ?_
    refine o_T (y_nilck rfl) rfl ?_
    refine o_T (y_fa fl_159_0 rfl) rfl ?_
    refine o_T (y_ia ar_157 rfl rfl (by omega) (by omega)) rfl ?_
    refine o_T (y_fa fl_156_2 rfl) rfl ?_
    refine o_ld one_3 rfl m0 (Tb.gr_rows_nxt_ _ (by omega) rfl) rfl ?_
    refine o_T (y_nilck rfl) rfl ?_
    refine o_T (y_fa fl_159_1 rfl) rfl ?_
    refine o_st one_3 rfl rfl rfl r0 Tb.s90 (of_blt rfl) ?_
    refine o_nil0 rfl ?_
    refine c_region ?_
    refine o_T (y_move rfl) rfl ?_
    refine o_T (y_move rfl) rfl ?_
    refine o_T (y_build st_156 rfl (cs := Rw.enc { Rw.zero with used := true, nxt_ := -1 }) rfl) rfl ?_
    refine o_T (y_nilck rfl) rfl ?_
    refine o_T (y_fa fl_159_0 rfl) rfl ?_
    refine o_T (y_ia ar_157 rfl rfl (by omega) (by omega)) rfl ?_
    refine o_sta ag_156 rfl rfl rfl rfl r0 (Tb.Sr_rows _ (by omega) rfl) (by simp only [Tb.size]; omega) ?_
    refine o_nil0 rfl ?_
    refine c_seq ?_
    refine c_region ?_
    refine o_T (y_move rfl) rfl ?_
    refine o_L (y_assign rfl) rfl rfl ?_
    refine o_nil0 rfl ?_
    refine c_ret ?_
    refine fun aX wX heX hsX => ret1 Tryz.results174 heX rfl (s_take s_nil) ?_
    have e1 : t.takeT = { t with free := (t.rows t.free.toNat).nxt_, rows := upA t.rows t.free.toNat { Rw.zero with used := true, nxt_ := -1 } } := by unfold Tb.takeT; rw [if_neg h60]
    rw [e1]
    exact ⟨_, rfl, by rw [← e1]; exact Tb.ok_take ok0, rfl, rfl⟩
  · try simp only [decide_eq_true_eq, decide_eq_false_iff_not, Bool.not_eq_true', Bool.not_eq_false', Int.not_lt, Int.not_le, Decidable.not_not, beq_iff_eq, bne_iff_ne, ne_eq, beq_eq_false_iff_ne] at h60
    refine c_skip ?_
    refine c_seq ?_
    refine c_region ?_
    refine o_T (y_move rfl) rfl ?_
    refine o_L (y_assign rfl) rfl rfl ?_
    refine o_nil0 rfl ?_
    refine c_ret ?_
    refine fun aX wX heX hsX => ret1 Tryz.results174 heX rfl (s_take s_nil) ?_
    have e1 : t.takeT = t := by unfold Tb.takeT; rw [if_pos h60]
    rw [e1]
    exact ⟨_, rfl, by rw [← e1]; exact Tb.ok_take ok0, rfl, rfl⟩

/-- (*e2e/sock.Table).give -/
theorem t173 (b : Nat) (t : Tb) (i : Int) (ok : t.Ok) (hi : 0 ≤ i ∧ i < 6) : Trip Tryz.prog 173 #[.pointer (some ⟨b, 0, none⟩), .int .i64 i] [[(b, .cells t.enc 159 (0, 0))]] (fun u S' => ∃ t' : Tb, t' = t.give i ∧ t'.Ok ∧ u = .tuple #[] ∧ S' = [[(b, .cells (t').enc 159 (0, 0))]]) := by
  have ok0 := ok
  obtain ⟨q1, q2, q3, q4, q5, q6, q7, q8, q9, q10, q11, q12⟩ := ok
  refine fn_entry (args := [.pointer (some ⟨b, 0, none⟩), .int .i64 i]) Tryz.func173 rfl Tryz.ntmps173 rfl (fun w0 => ?_)
  refine c_seq ?_
  refine c_draw #[true, true, true, true, true, true, true, true, true, true, false] rfl (n := 11) rfl ?_
  refine d_T 0 rfl (by kernel_rfl) rfl (y_move rfl) rfl ?_
  refine d_T 1 rfl (by kernel_rfl) rfl (y_move rfl) rfl ?_
  refine d_T 2 rfl (by kernel_rfl) rfl (y_move rfl) rfl ?_
  refine d_T 3 rfl (by kernel_rfl) rfl (y_nilck rfl) rfl ?_
  refine d_T 4 rfl (by kernel_rfl) rfl (y_fa fl_159_1 rfl) rfl ?_
  refine d_ld 5 rfl (by kernel_rfl) one_3 rfl (fun x hx => hx) m0 Tb.g90 rfl ?_
  refine d_T 6 rfl (by kernel_rfl) rfl (y_build st_156 rfl (cs := Rw.enc { Rw.zero with nxt_ := t.free }) rfl) rfl ?_
  refine d_T 7 rfl (by kernel_rfl) rfl (y_nilck rfl) rfl ?_
  refine d_T 8 rfl (by kernel_rfl) rfl (y_fa fl_159_0 rfl) rfl ?_
  refine d_T 9 rfl (by kernel_rfl) rfl (y_ia ar_157 rfl rfl (by omega) (by omega)) rfl ?_
  refine d_hard 10 rfl (by kernel_rfl) ?_
  refine o_sta ag_156 rfl rfl rfl rfl r0 (Tb.Sr_rows _ (by omega) rfl) (by simp only [Tb.size]; omega) ?_
  refine o_stop (fun h => nomatch h) ?_
  refine d_nil0 (by kernel_rfl) rfl ?_
  refine c_region ?_
  refine o_T (y_move rfl) rfl ?_
  refine o_T (y_move rfl) rfl ?_
  refine o_T (y_nilck rfl) rfl ?_
  refine o_T (y_fa fl_159_1 rfl) rfl ?_
  refine o_st one_3 rfl rfl rfl r0 Tb.s90 (of_blt rfl) ?_
  refine o_nil0 rfl ?_
  refine fun aX wX heX hsX => ret0 Tryz.results173 (s_take s_nil) ?_
  exact ⟨_, rfl, Tb.ok_give ok0 (by omega), rfl, rfl⟩

/-- (*e2e/sock.Table).lowBlock -/
theorem t175 (b : Nat) (t : Tb)  (ok : t.Ok) : Trip Tryz.prog 175 #[.pointer (some ⟨b, 0, none⟩)] [[(b, .cells t.enc 159 (0, 0))]] (fun u S' => u = .int .i64 t.low ∧ S' = [[(b, .cells t.enc 159 (0, 0))]]) := by
  have ok0 := ok
  obtain ⟨q1, q2, q3, q4, q5, q6, q7, q8, q9, q10, q11, q12⟩ := ok
  refine fn_entry (args := [.pointer (some ⟨b, 0, none⟩)]) Tryz.func175 rfl Tryz.ntmps175 rfl (fun w0 => ?_)
  refine c_seq ?_
  refine c_region ?_
  refine o_L (y_assign rfl) rfl rfl ?_
  refine o_nil0 rfl ?_
  refine c_seq ?_
  refine c_seq ?_
  refine c_region ?_
  refine o_L (y_assign rfl) rfl rfl ?_
  refine o_nil0 rfl ?_
  refine c_block ?_
  refine c_loopG (ι := Nat) (fun i => [(3, .int .i64 (i : Int))]) (fun i => []) (fun i => i ≤ 4 ∧ t.low = firstI t.freeB (4 - i) i) (fun i => 4 - i) 0 (by exact ⟨by omega, rfl⟩) ⟨by first | rfl | exact gteI rfl (by omega), trivial⟩ (s_take s_nil) ?_
  rintro k ⟨g1, g2⟩
  try dsimp only [List.cons_append, List.nil_append] at *
  refine c_seq ?_
  refine c_seq ?_
  refine c_region ?_
  refine o_T (y_move rfl) rfl ?_
  refine o_T (y_lss rfl rfl) rfl ?_
  refine o_nil1 5 rfl rfl ?_
  refine c_cond rfl (fun h115 => ?_) (fun h115 => ?_)
  · try simp only [decide_eq_true_eq, decide_eq_false_iff_not, Bool.not_eq_true', Bool.not_eq_false', Int.not_lt, Int.not_le, Decidable.not_not, beq_iff_eq, bne_iff_ne, ne_eq, beq_eq_false_iff_ne] at h115
    refine c_skip ?_
    refine c_seq ?_
    refine c_block ?_
    refine c_seq ?_
    refine c_draw #[true, true, true, true, true, true, true, true] rfl (n := 8) rfl ?_
    refine d_T 0 rfl (by kernel_rfl) rfl (y_move rfl) rfl ?_
    refine d_T 1 rfl (by kernel_rfl) rfl (y_nilck rfl) rfl ?_
    refine d_T 2 rfl (by kernel_rfl) rfl (y_fa fl_159_4 rfl) rfl ?_
    refine d_ld 3 rfl (by kernel_rfl) one_5 rfl (fun x hx => hx) m0 Tb.g103 rfl ?_
    refine d_T 4 rfl (by kernel_rfl) rfl (y_move rfl) rfl ?_
    refine d_hard 5 rfl (by kernel_rfl) ?_
    refine o_callv en_171 rfl (t171 _ (by omega)) rfl ?_
    refine o_stop (fun _ => (fun x hx => hx)) ?_
    refine d_T 6 rfl (by kernel_rfl) rfl (y_and rfl rfl (low_and q5 (by omega))) rfl ?_
    refine d_T 7 rfl (by kernel_rfl) rfl (y_eql rfl rfl) rfl ?_
    refine d_nil1 15 (by kernel_rfl) rfl rfl ?_
    refine c_cond rfl (fun h116 => ?_) (fun h116 => ?_)
    · try simp only [decide_eq_true_eq, decide_eq_false_iff_not, Bool.not_eq_true', Bool.not_eq_false', Int.not_lt, Int.not_le, Decidable.not_not, beq_iff_eq, bne_iff_ne, ne_eq, beq_eq_false_iff_ne] at h116
      refine c_seq ?_
      refine c_region ?_
      refine o_T (y_move rfl) rfl ?_
      refine o_L (y_assign rfl) rfl rfl ?_
      refine o_nil0 rfl ?_
      refine c_ret ?_
      refine fun aX wX heX hsX => ret1 Tryz.results175 heX rfl (s_take s_nil) ?_
      exact ⟨congrArg (Value.int .i64) (g2.trans (firstI_hit (by omega) (by simp only [Tb.freeB]; exact decide_eq_true (int_eq_zero.1 h116)))).symm, rfl⟩
    · try simp only [decide_eq_true_eq, decide_eq_false_iff_not, Bool.not_eq_true', Bool.not_eq_false', Int.not_lt, Int.not_le, Decidable.not_not, beq_iff_eq, bne_iff_ne, ne_eq, beq_eq_false_iff_ne] at h116
      refine c_skip ?_
      refine c_region ?_
      refine o_T (y_move rfl) rfl ?_
      refine o_T (y_add rfl rfl (w64 (by omega))) rfl ?_
      refine o_L (y_assign rfl) rfl rfl ?_
      refine o_nil0 rfl ?_
      refine ⟨(k + 1), ⟨⟨by omega, g2.trans (firstI_next (by omega) (by simp only [Tb.freeB]; exact decide_eq_false (fun z => h116 (int_eq_zero.2 z))))⟩, by first | omega | (dsimp only; omega)⟩, ⟨by first | rfl | exact gteI rfl (by omega), trivial⟩, ⟨rfl, rfl⟩, _, ((s_take s_nil))⟩
  · try simp only [decide_eq_true_eq, decide_eq_false_iff_not, Bool.not_eq_true', Bool.not_eq_false', Int.not_lt, Int.not_le, Decidable.not_not, beq_iff_eq, bne_iff_ne, ne_eq, beq_eq_false_iff_ne] at h115
    refine c_exit ?_
    refine c_seq ?_
    refine c_region ?_
    refine o_L (y_assign rfl) rfl rfl ?_
    refine o_nil0 rfl ?_
    refine c_ret ?_
    refine fun aX wX heX hsX => ret1 Tryz.results175 heX rfl (s_take s_nil) ?_
    exact ⟨congrArg (Value.int .i64) (g2.trans (firstI_no (by omega))).symm, rfl⟩

/-- (*e2e/sock.Table).link -/
theorem t207 (b : Nat) (t : Tb) (i : Int) (ok : t.Ok) (hi : 0 ≤ i ∧ i < 6) : Trip Tryz.prog 207 #[.pointer (some ⟨b, 0, none⟩), .int .i64 i] [[(b, .cells t.enc 159 (0, 0))]] (fun u S' => ∃ t' : Tb, t' = t.link i ∧ t'.Ok ∧ u = .tuple #[] ∧ S' = [[(b, .cells (t').enc 159 (0, 0))]]) := by
  have ok0 := ok
  obtain ⟨q1, q2, q3, q4, q5, q6, q7, q8, q9, q10, q11, q12⟩ := ok
  have v1 := (q6 i.toNat).lp
  have v2 := (q6 i.toNat).rh
  have v3 := (q6 i.toNat).rp
  have hh := hashF_lt (t.rows i.toNat).e.lPort (t.rows i.toNat).e.rHost (t.rows i.toNat).e.rPort
  refine fn_entry (args := [.pointer (some ⟨b, 0, none⟩), .int .i64 i]) Tryz.func207 rfl Tryz.ntmps207 rfl (fun w0 => ?_)
  refine c_seq ?_
  refine c_draw #[true, true, true, true, true, true, true, true, true, true, true, true, true, true, true, true, true, true, true, true, true, true, true, true, true, true] rfl (n := 26) rfl ?_
  refine d_T 0 rfl (by kernel_rfl) rfl (y_move rfl) rfl ?_
  refine d_T 1 rfl (by kernel_rfl) rfl (y_move rfl) rfl ?_
  refine d_T 2 rfl (by kernel_rfl) rfl (y_nilck rfl) rfl ?_
  refine d_T 3 rfl (by kernel_rfl) rfl (y_fa fl_159_0 rfl) rfl ?_
  refine d_T 4 rfl (by kernel_rfl) rfl (y_ia ar_157 rfl rfl (by omega) (by omega)) rfl ?_
  refine d_T 5 rfl (by kernel_rfl) rfl (y_fa fl_156_1 rfl) rfl ?_
  refine d_T 6 rfl (by kernel_rfl) rfl (y_fa fl_66_2 rfl) rfl ?_
  refine d_ld 7 rfl (by kernel_rfl) one_3 rfl (fun x hx => hx) m0 (Tb.gr_rows_e_lPort _ (by omega) rfl) rfl ?_
  refine d_T 8 rfl (by kernel_rfl) rfl (y_move rfl) rfl ?_
  refine d_T 9 rfl (by kernel_rfl) rfl (y_move rfl) rfl ?_
  refine d_T 10 rfl (by kernel_rfl) rfl (y_nilck rfl) rfl ?_
  refine d_T 11 rfl (by kernel_rfl) rfl (y_fa fl_159_0 rfl) rfl ?_
  refine d_T 12 rfl (by kernel_rfl) rfl (y_ia ar_157 rfl rfl (by omega) (by omega)) rfl ?_
  refine d_T 13 rfl (by kernel_rfl) rfl (y_fa fl_156_1 rfl) rfl ?_
  refine d_T 14 rfl (by kernel_rfl) rfl (y_fa fl_66_3 rfl) rfl ?_
  refine d_ld 15 rfl (by kernel_rfl) one_3 rfl (fun x hx => hx) m0 (Tb.gr_rows_e_rHost _ (by omega) rfl) rfl ?_
  refine d_T 16 rfl (by kernel_rfl) rfl (y_move rfl) rfl ?_
  refine d_T 17 rfl (by kernel_rfl) rfl (y_move rfl) rfl ?_
  refine d_T 18 rfl (by kernel_rfl) rfl (y_nilck rfl) rfl ?_
  refine d_T 19 rfl (by kernel_rfl) rfl (y_fa fl_159_0 rfl) rfl ?_
  refine d_T 20 rfl (by kernel_rfl) rfl (y_ia ar_157 rfl rfl (by omega) (by omega)) rfl ?_
  refine d_T 21 rfl (by kernel_rfl) rfl (y_fa fl_156_1 rfl) rfl ?_
  refine d_T 22 rfl (by kernel_rfl) rfl (y_fa fl_66_4 rfl) rfl ?_
  refine d_ld 23 rfl (by kernel_rfl) one_3 rfl (fun x hx => hx) m0 (Tb.gr_rows_e_rPort _ (by omega) rfl) rfl ?_
  refine d_hard 24 rfl (by kernel_rfl) ?_
  refine o_callv en_156 rfl (t156 _ _ _ (by omega) (by omega) (by omega)) rfl ?_
  refine o_stop (fun _ => (fun x hx => hx)) ?_
  refine d_L 25 rfl (by kernel_rfl) rfl (y_assign rfl) rfl rfl ?_
  refine d_nil0 (by kernel_rfl) rfl ?_
  refine c_seq ?_
  refine c_draw #[true, true, true, true, true, true, true, true, true, true, true, true, false] rfl (n := 13) rfl ?_
  refine d_T 0 rfl (by kernel_rfl) rfl (y_move rfl) rfl ?_
  refine d_T 1 rfl (by kernel_rfl) rfl (y_move rfl) rfl ?_
  refine d_T 2 rfl (by kernel_rfl) rfl (y_move rfl) rfl ?_
  refine d_T 3 rfl (by kernel_rfl) rfl (y_move rfl) rfl ?_
  refine d_T 4 rfl (by kernel_rfl) rfl (y_nilck rfl) rfl ?_
  refine d_T 5 rfl (by kernel_rfl) rfl (y_fa fl_159_2 rfl) rfl ?_
  refine d_T 6 rfl (by kernel_rfl) rfl (y_ia ar_144 rfl rfl (by omega) (by omega)) rfl ?_
  refine d_ld 7 rfl (by kernel_rfl) one_3 rfl (fun x hx => hx) m0 (Tb.gr_bucket _ (by omega) rfl) rfl ?_
  refine d_T 8 rfl (by kernel_rfl) rfl (y_nilck rfl) rfl ?_
  refine d_T 9 rfl (by kernel_rfl) rfl (y_fa fl_159_0 rfl) rfl ?_
  refine d_T 10 rfl (by kernel_rfl) rfl (y_ia ar_157 rfl rfl (by omega) (by omega)) rfl ?_
  refine d_T 11 rfl (by kernel_rfl) rfl (y_fa fl_156_2 rfl) rfl ?_
  refine d_hard 12 rfl (by kernel_rfl) ?_
  refine o_st one_3 rfl rfl rfl r0 (Tb.sr_rows_nxt_ _ (by omega) rfl) (by simp only [Tb.size]; omega) ?_
  refine o_stop (fun h => nomatch h) ?_
  refine d_nil0 (by kernel_rfl) rfl ?_
  refine c_region ?_
  refine o_T (y_move rfl) rfl ?_
  refine o_T (y_move rfl) rfl ?_
  refine o_T (y_move rfl) rfl ?_
  refine o_T (y_nilck rfl) rfl ?_
  refine o_T (y_fa fl_159_2 rfl) rfl ?_
  refine o_T (y_ia ar_144 rfl rfl (by omega) (by omega)) rfl ?_
  refine o_st one_3 rfl rfl rfl r0 (Tb.sr_bucket _ (by omega) rfl) (by simp only [Tb.size]; omega) ?_
  refine o_nil0 rfl ?_
  refine fun aX wX heX hsX => ret0 Tryz.results207 (s_take s_nil) ?_
  exact ⟨_, rfl, Tb.ok_link ok0 (by omega), rfl, rfl⟩

/-- (*e2e/sock.Table).enqueue -/
theorem t196 (b : Nat) (t : Tb) (i sd : Int) (ok : t.Ok) (hi : 0 ≤ i ∧ i < 6) (hn : (t.rows i.toNat).n < 2) : Trip Tryz.prog 196 #[.pointer (some ⟨b, 0, none⟩), .int .i64 i, .int .i64 sd] [[(b, .cells t.enc 159 (0, 0))]] (fun u S' => ∃ t' : Tb, t' = t.enqueue i sd ∧ t'.Ok ∧ u = .tuple #[] ∧ S' = [[(b, .cells (t').enc 159 (0, 0))]]) := by
  have ok0 := ok
  obtain ⟨q1, q2, q3, q4, q5, q6, q7, q8, q9, q10, q11, q12⟩ := ok
  have v1 := q8 i.toNat
  have v2 := q9 i.toNat
  have v3 := wrapF_b (k := (t.rows i.toNat).head + (t.rows i.toNat).n) (by omega)
  refine fn_entry (args := [.pointer (some ⟨b, 0, none⟩), .int .i64 i, .int .i64 sd]) Tryz.func196 rfl Tryz.ntmps196 rfl (fun w0 => ?_)
  refine c_seq ?_
  refine c_draw #[true, true, true, true, true, true, true, true, true, true, true, true, true, true, true, true, true] rfl (n := 17) rfl ?_
  refine d_T 0 rfl (by kernel_rfl) rfl (y_move rfl) rfl ?_
  refine d_T 1 rfl (by kernel_rfl) rfl (y_move rfl) rfl ?_
  refine d_T 2 rfl (by kernel_rfl) rfl (y_nilck rfl) rfl ?_
  refine d_T 3 rfl (by kernel_rfl) rfl (y_fa fl_159_0 rfl) rfl ?_
  refine d_T 4 rfl (by kernel_rfl) rfl (y_ia ar_157 rfl rfl (by omega) (by omega)) rfl ?_
  refine d_T 5 rfl (by kernel_rfl) rfl (y_fa fl_156_5 rfl) rfl ?_
  refine d_ld 6 rfl (by kernel_rfl) one_3 rfl (fun x hx => hx) m0 (Tb.gr_rows_head _ (by omega) rfl) rfl ?_
  refine d_T 7 rfl (by kernel_rfl) rfl (y_move rfl) rfl ?_
  refine d_T 8 rfl (by kernel_rfl) rfl (y_move rfl) rfl ?_
  refine d_T 9 rfl (by kernel_rfl) rfl (y_nilck rfl) rfl ?_
  refine d_T 10 rfl (by kernel_rfl) rfl (y_fa fl_159_0 rfl) rfl ?_
  refine d_T 11 rfl (by kernel_rfl) rfl (y_ia ar_157 rfl rfl (by omega) (by omega)) rfl ?_
  refine d_T 12 rfl (by kernel_rfl) rfl (y_fa fl_156_6 rfl) rfl ?_
  refine d_ld 13 rfl (by kernel_rfl) one_3 rfl (fun x hx => hx) m0 (Tb.gr_rows_n _ (by omega) rfl) rfl ?_
  refine d_T 14 rfl (by kernel_rfl) rfl (y_add rfl rfl (w64 (by omega))) rfl ?_
  refine d_hard 15 rfl (by kernel_rfl) ?_
  refine o_callv en_208 rfl (t208 _ (by omega)) rfl ?_
  refine o_stop (fun _ => (fun x hx => hx)) ?_
  refine d_L 16 rfl (by kernel_rfl) rfl (y_assign rfl) rfl rfl ?_
  refine d_nil0 (by kernel_rfl) rfl ?_
  refine c_seq ?_
  refine c_region ?_
  refine o_T (y_move rfl) rfl ?_
  refine o_T (y_move rfl) rfl ?_
  refine o_T (y_move rfl) rfl ?_
  refine o_T (y_move rfl) rfl ?_
  refine o_T (y_nilck rfl) rfl ?_
  refine o_T (y_fa fl_159_0 rfl) rfl ?_
  refine o_T (y_ia ar_157 rfl rfl (by omega) (by omega)) rfl ?_
  refine o_T (y_fa fl_156_4 rfl) rfl ?_
  refine o_T (y_ia ar_154 rfl rfl (by omega) (by omega)) rfl ?_
  refine o_st one_3 rfl rfl rfl r0 (Tb.sr_rows_ring _ (by omega) _ (by omega) rfl) (by simp only [Tb.size]; omega) ?_
  refine o_nil0 rfl ?_
  refine c_draw #[true, true, true, true, true, true, true, true, true, true, true, true, false] rfl (n := 13) rfl ?_
  refine d_T 0 rfl (by kernel_rfl) rfl (y_move rfl) rfl ?_
  refine d_T 1 rfl (by kernel_rfl) rfl (y_move rfl) rfl ?_
  refine d_T 2 rfl (by kernel_rfl) rfl (y_nilck rfl) rfl ?_
  refine d_T 3 rfl (by kernel_rfl) rfl (y_fa fl_159_0 rfl) rfl ?_
  refine d_T 4 rfl (by kernel_rfl) rfl (y_ia ar_157 rfl rfl (by omega) (by omega)) rfl ?_
  refine d_T 5 rfl (by kernel_rfl) rfl (y_fa fl_156_6 rfl) rfl ?_
  refine d_ld 6 rfl (by kernel_rfl) one_3 rfl (fun x hx => hx) m0 (Tb.gr_rows_n _ (by omega) rfl) rfl ?_
  refine d_T 7 rfl (by kernel_rfl) rfl (y_add rfl rfl (w64 (by first | omega | (simp only [upA_at]; omega)))) rfl ?_
  refine d_T 8 rfl (by kernel_rfl) rfl (y_nilck rfl) rfl ?_
  refine d_T 9 rfl (by kernel_rfl) rfl (y_fa fl_159_0 rfl) rfl ?_
  refine d_T 10 rfl (by kernel_rfl) rfl (y_ia ar_157 rfl rfl (by omega) (by omega)) rfl ?_
  refine d_T 11 rfl (by kernel_rfl) rfl (y_fa fl_156_6 rfl) rfl ?_
  refine d_hard 12 rfl (by kernel_rfl) ?_
  refine o_st one_3 rfl rfl rfl r0 (Tb.sr_rows_n _ (by omega) rfl) (by simp only [Tb.size]; omega) ?_
  refine o_stop (fun h => nomatch h) ?_
  refine d_nil0 (by kernel_rfl) rfl ?_
  refine fun aX wX heX hsX => ret0 Tryz.results196 (s_take s_nil) ?_
  exact ⟨_, rfl, Tb.ok_enqueue ok0 i sd (by omega), rfl, by unfold Tb.enqueue; simp only [upA_upA, upA_at]⟩

/-- (*e2e/sock.Table).dequeue -/
theorem t180 (b : Nat) (t : Tb) (i : Int) (ok : t.Ok) (hi : 0 ≤ i ∧ i < 6) (hn : 0 < (t.rows i.toNat).n) : Trip Tryz.prog 180 #[.pointer (some ⟨b, 0, none⟩), .int .i64 i] [[(b, .cells t.enc 159 (0, 0))]] (fun u S' => ∃ t' : Tb, t' = (t.dequeue i).2 ∧ t'.Ok ∧ u = .int .i64 (t.dequeue i).1 ∧ S' = [[(b, .cells (t').enc 159 (0, 0))]]) := by
  have ok0 := ok
  obtain ⟨q1, q2, q3, q4, q5, q6, q7, q8, q9, q10, q11, q12⟩ := ok
  have v1 := q8 i.toNat
  have v2 := q9 i.toNat
  refine fn_entry (args := [.pointer (some ⟨b, 0, none⟩), .int .i64 i]) Tryz.func180 rfl Tryz.ntmps180 rfl (fun w0 => ?_)
  refine c_seq ?_
  refine c_region ?_
  refine o_L (y_assign rfl) rfl rfl ?_
  refine o_nil0 rfl ?_
  refine c_seq ?_
  refine c_region ?_
  refine o_T (y_move rfl) rfl ?_
  refine o_T (y_move rfl) rfl ?_
  refine o_T (y_nilck rfl) rfl ?_
  refine o_T (y_fa fl_159_0 rfl) rfl ?_
  refine o_T (y_ia ar_157 rfl rfl (by omega) (by omega)) rfl ?_
  refine o_T (y_fa fl_156_5 rfl) rfl ?_
  refine o_ld one_3 rfl m0 (Tb.gr_rows_head _ (by omega) rfl) rfl ?_
  refine o_L (y_assign rfl) rfl rfl ?_
  refine o_nil0 rfl ?_
  refine c_seq ?_
  refine c_region ?_
  refine o_T (y_move rfl) rfl ?_
  refine o_T (y_move rfl) rfl ?_
  refine o_T (y_move rfl) rfl ?_
  refine o_T (y_nilck rfl) rfl ?_
  refine o_T (y_fa fl_159_0 rfl) rfl ?_
  refine o_T (y_ia ar_157 rfl rfl (by omega) (by omega)) rfl ?_
  refine o_T (y_fa fl_156_4 rfl) rfl ?_
  refine o_T (y_ia ar_154 rfl rfl (by omega) (by omega)) rfl ?_
  refine o_ld one_3 rfl m0 (Tb.gr_rows_ring _ (by omega) _ (by omega) rfl) rfl ?_
  refine o_L (y_assign rfl) rfl rfl ?_
  refine o_nil0 rfl ?_
  refine c_seq ?_
  refine c_draw #[true, true, true, true, true, true, true, true, true, false] rfl (n := 10) rfl ?_
  refine d_T 0 rfl (by kernel_rfl) rfl (y_move rfl) rfl ?_
  refine d_T 1 rfl (by kernel_rfl) rfl (y_move rfl) rfl ?_
  refine d_T 2 rfl (by kernel_rfl) rfl (y_move rfl) rfl ?_
  refine d_T 3 rfl (by kernel_rfl) rfl (y_add rfl rfl (w64 (by omega))) rfl ?_
  refine d_T 5 rfl (by kernel_rfl) rfl (y_nilck rfl) rfl ?_
  refine d_T 6 rfl (by kernel_rfl) rfl (y_fa fl_159_0 rfl) rfl ?_
  refine d_hard 4 rfl (by kernel_rfl) ?_
  refine o_callv en_208 rfl (t208 _ (by omega)) rfl ?_
  refine o_stop (fun _ => (fun x hx => hx)) ?_
  refine d_T 7 rfl (by kernel_rfl) rfl (y_ia ar_157 rfl rfl (by omega) (by omega)) rfl ?_
  refine d_T 8 rfl (by kernel_rfl) rfl (y_fa fl_156_5 rfl) rfl ?_
  refine d_hard 9 rfl (by kernel_rfl) ?_
  refine o_st one_3 rfl rfl rfl r0 (Tb.sr_rows_head _ (by omega) rfl) (by simp only [Tb.size]; omega) ?_
  refine o_stop (fun h => nomatch h) ?_
  refine d_nil0 (by kernel_rfl) rfl ?_
  refine c_seq ?_
  refine c_draw #[true, true, true, true, true, true, true, true, true, true, true, true, false] rfl (n := 13) rfl ?_
  refine d_T 0 rfl (by kernel_rfl) rfl (y_move rfl) rfl ?_
  refine d_T 1 rfl (by kernel_rfl) rfl (y_move rfl) rfl ?_
  refine d_T 2 rfl (by kernel_rfl) rfl (y_nilck rfl) rfl ?_
  refine d_T 3 rfl (by kernel_rfl) rfl (y_fa fl_159_0 rfl) rfl ?_
  refine d_T 4 rfl (by kernel_rfl) rfl (y_ia ar_157 rfl rfl (by omega) (by omega)) rfl ?_
  refine d_T 5 rfl (by kernel_rfl) rfl (y_fa fl_156_6 rfl) rfl ?_
  refine d_ld 6 rfl (by kernel_rfl) one_3 rfl (fun x hx => hx) m0 (Tb.gr_rows_n _ (by omega) rfl) rfl ?_
  refine d_T 7 rfl (by kernel_rfl) rfl (y_sub rfl rfl (w64 (by first | omega | (simp only [upA_at]; omega)))) rfl ?_
  refine d_T 8 rfl (by kernel_rfl) rfl (y_nilck rfl) rfl ?_
  refine d_T 9 rfl (by kernel_rfl) rfl (y_fa fl_159_0 rfl) rfl ?_
  refine d_T 10 rfl (by kernel_rfl) rfl (y_ia ar_157 rfl rfl (by omega) (by omega)) rfl ?_
  refine d_T 11 rfl (by kernel_rfl) rfl (y_fa fl_156_6 rfl) rfl ?_
  refine d_hard 12 rfl (by kernel_rfl) ?_
  refine o_st one_3 rfl rfl rfl r0 (Tb.sr_rows_n _ (by omega) rfl) (by simp only [Tb.size]; omega) ?_
  refine o_stop (fun h => nomatch h) ?_
  refine d_nil0 (by kernel_rfl) rfl ?_
  refine c_seq ?_
  refine c_region ?_
  refine o_T (y_move rfl) rfl ?_
  refine o_L (y_assign rfl) rfl rfl ?_
  refine o_nil0 rfl ?_
  refine c_ret ?_
  refine fun aX wX heX hsX => ret1 Tryz.results180 heX rfl (s_take s_nil) ?_
  exact ⟨_, rfl, Tb.ok_dequeue ok0 i (by omega), rfl, by unfold Tb.dequeue; simp only [upA_upA, upA_at]⟩

end Go.Proofs.Qxb6500351aGreat
