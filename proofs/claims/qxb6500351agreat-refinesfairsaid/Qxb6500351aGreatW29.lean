/- MADE BY PROGRAM (tools/gen.py over tools/specs351.py): walks. -/
import Derived.Test.Qxb6500351aGreatFacts
import Derived.Test.Qxb6500351aGreatW28
set_option linter.unusedVariables false
set_option linter.unusedSimpArgs false
namespace Go.Proofs.Qxb6500351aGreat
open Go.Eng
set_option maxRecDepth 20000
set_option maxHeartbeats 4000000
/-- (*e2e/sock.Table).List -/
theorem t65 (b : Nat) (t : Tb)  : Trip Tryz.prog 65 #[.pointer (some ⟨b, 0, none⟩)] [[(b, .cells t.enc 159 (0, 0))]] (fun u S' => ∃ b2, u = inV b2 t.list ∧ S' = [inG b2 t.list 3, [(b, .cells (t).enc 159 (0, 0))]]) := by
  
  have um := fun k => Tb.usedTo_mono t (k := k) (m := 6)
  have ul := Tb.usedTo_le t 6
  have il := Tb.insTo_len t
  refine fn_entry (args := [.pointer (some ⟨b, 0, none⟩)]) Tryz.func65 rfl Tryz.ntmps65 rfl (fun w0 => ?_)
  refine c_seq ?_
  refine c_region ?_
  refine o_L (y_assign rfl) rfl rfl ?_
  refine o_nil0 rfl ?_
  refine c_seq ?_
  refine c_region ?_
  refine o_L (y_assign rfl) rfl rfl ?_
  refine o_nil0 rfl ?_
  refine c_seq ?_
  refine c_seq ?_
  refine c_region ?_
  refine o_L (y_assign rfl) rfl rfl ?_
  refine o_nil0 rfl ?_
  refine c_block ?_
  refine c_loopG (ι := Nat) (fun i => [(4, .int .i64 (i : Int)), (3, .int .i64 ((t.usedTo i).length : Int))]) (fun i => []) (fun i => i ≤ 6) (fun i => 6 - i) 0 (by omega) ⟨by first | rfl | exact gteI rfl (by omega), by first | rfl | exact gteI rfl (by omega), trivial⟩ (s_take s_nil) ?_
  rintro i hI
  try dsimp only at hI
  have ul2 := Tb.usedTo_le t i
  refine c_seq ?_
  refine c_seq ?_
  refine c_region ?_
  refine o_T (y_move rfl) rfl ?_
  refine o_T (y_lss rfl rfl) rfl ?_
  refine o_nil1 10 rfl rfl ?_
  refine c_cond rfl (fun h194 => ?_) (fun h194 => ?_)
  · try simp only [decide_eq_true_eq, decide_eq_false_iff_not, Bool.not_eq_true', Bool.not_eq_false', Int.not_lt, Int.not_le, Decidable.not_not, beq_iff_eq, bne_iff_ne, ne_eq, beq_eq_false_iff_ne] at h194
    refine c_skip ?_
    refine c_seq ?_
    refine c_block ?_
    refine c_seq ?_
    refine c_region ?_
    refine o_T (y_move rfl) rfl ?_
    refine o_T (y_move rfl) rfl ?_
    refine o_T (y_nilck rfl) rfl ?_
    refine o_T (y_fa fl_159_0 rfl) rfl ?_
    refine o_T (y_ia ar_157 rfl rfl (by omega) (by omega)) rfl ?_
    refine o_T (y_fa fl_156_0 rfl) rfl ?_
    refine o_ld one_4 rfl m0 (Tb.g_rows_used i (by omega) (by omega)) rfl ?_
    refine o_nil1 19 rfl rfl ?_
    refine c_cond rfl (fun h195 => ?_) (fun h195 => ?_)
    · try simp only [decide_eq_true_eq, decide_eq_false_iff_not, Bool.not_eq_true', Bool.not_eq_false', Int.not_lt, Int.not_le, Decidable.not_not, beq_iff_eq, bne_iff_ne, ne_eq, beq_eq_false_iff_ne] at h195
      refine c_region ?_
      refine o_T (y_move rfl) rfl ?_
      refine o_T (y_add rfl rfl (w64 (by omega))) rfl ?_
      refine o_L (y_assign rfl) rfl rfl ?_
      refine o_nil0 rfl ?_
      refine c_region ?_
      refine o_T (y_move rfl) rfl ?_
      refine o_T (y_add rfl rfl (w64 (by omega))) rfl ?_
      refine o_L (y_assign rfl) rfl rfl ?_
      refine o_nil0 rfl ?_
      refine ⟨(i + 1), ⟨by omega, by first | omega | (dsimp only; omega)⟩, ⟨by first | rfl | exact gteI rfl (by omega), gteI rfl (by rw [Tb.usedTo_yes h195]; simp), trivial⟩, ⟨rfl, rfl⟩, _, ((s_take s_nil))⟩
    · try simp only [decide_eq_true_eq, decide_eq_false_iff_not, Bool.not_eq_true', Bool.not_eq_false', Int.not_lt, Int.not_le, Decidable.not_not, beq_iff_eq, bne_iff_ne, ne_eq, beq_eq_false_iff_ne] at h195
      refine c_skip ?_
      refine c_region ?_
      refine o_T (y_move rfl) rfl ?_
      refine o_T (y_add rfl rfl (w64 (by omega))) rfl ?_
      refine o_L (y_assign rfl) rfl rfl ?_
      refine o_nil0 rfl ?_
      refine ⟨(i + 1), ⟨by omega, by first | omega | (dsimp only; omega)⟩, ⟨by first | rfl | exact gteI rfl (by omega), gteI rfl (by rw [Tb.usedTo_no h195]), trivial⟩, ⟨rfl, rfl⟩, _, ((s_take s_nil))⟩
  · try simp only [decide_eq_true_eq, decide_eq_false_iff_not, Bool.not_eq_true', Bool.not_eq_false', Int.not_lt, Int.not_le, Decidable.not_not, beq_iff_eq, bne_iff_ne, ne_eq, beq_eq_false_iff_ne] at h194
    refine c_exit ?_
    refine c_seq ?_
    obtain rfl : i = 6 := by omega
    refine c_region ?_
    refine o_T (y_move rfl) rfl ?_
    refine o_makeI (t.usedTo 6).length sz_46 rfl rfl (by first | rfl | omega) (by first | rfl | omega) (by omega) (by omega) rfl (fun b_1 => ?_)
    refine o_L (y_assign rfl) rfl rfl ?_
    refine o_nil0 rfl ?_
    refine c_seq ?_
    refine c_region ?_
    refine o_L (y_assign rfl) rfl rfl ?_
    refine o_nil0 rfl ?_
    refine c_seq ?_
    refine c_seq ?_
    refine c_region ?_
    refine o_L (y_assign rfl) rfl rfl ?_
    refine o_nil0 rfl ?_
    refine c_block ?_
    refine c_loopG (ι := Nat) (fun i => [(7, .int .i64 (i : Int)), (6, .int .i64 ((t.usedTo i).length : Int))]) (fun i => [inG b_1 (t.insTo i) 3]) (fun i => i ≤ 6) (fun i => 6 - i) 0 (by omega) ⟨by first | rfl | exact gteI rfl (by omega), by first | rfl | exact gteI rfl (by omega), trivial⟩ (s_take (s_take s_nil)) ?_
    rintro i gi
    try dsimp only at gi
    have ul2 := Tb.usedTo_le t i
    have um2 := um i
    have il2 := il i
    refine c_seq ?_
    refine c_seq ?_
    refine c_region ?_
    refine o_T (y_move rfl) rfl ?_
    refine o_T (y_lss rfl rfl) rfl ?_
    refine o_nil1 25 rfl rfl ?_
    refine c_cond rfl (fun h201 => ?_) (fun h201 => ?_)
    · try simp only [decide_eq_true_eq, decide_eq_false_iff_not, Bool.not_eq_true', Bool.not_eq_false', Int.not_lt, Int.not_le, Decidable.not_not, beq_iff_eq, bne_iff_ne, ne_eq, beq_eq_false_iff_ne] at h201
      refine c_skip ?_
      refine c_seq ?_
      refine c_block ?_
      refine c_seq ?_
      refine c_region ?_
      refine o_T (y_move rfl) rfl ?_
      refine o_T (y_move rfl) rfl ?_
      refine o_T (y_nilck rfl) rfl ?_
      refine o_T (y_fa fl_159_0 rfl) rfl ?_
      refine o_T (y_ia ar_157 rfl rfl (by omega) (by omega)) rfl ?_
      refine o_T (y_fa fl_156_0 rfl) rfl ?_
      refine o_ld one_4 rfl (ms m0) (Tb.g_rows_used i (by omega) (by omega)) rfl ?_
      refine o_nil1 34 rfl rfl ?_
      refine c_cond rfl (fun h202 => ?_) (fun h202 => ?_)
      · try simp only [decide_eq_true_eq, decide_eq_false_iff_not, Bool.not_eq_true', Bool.not_eq_false', Int.not_lt, Int.not_le, Decidable.not_not, beq_iff_eq, bne_iff_ne, ne_eq, beq_eq_false_iff_ne] at h202
        refine c_seq ?_
        have e3 := Tb.usedTo_yes h202
        have e4 := congrArg List.length e3
        rw [List.length_append, List.length_singleton] at e4
        have um3 := um (i + 1)
        refine c_region ?_
        refine o_T (y_move rfl) rfl ?_
        refine o_T (y_move rfl) rfl ?_
        refine o_T (y_move rfl) rfl ?_
        refine o_T (y_move rfl) rfl ?_
        refine o_T (y_nilck rfl) rfl ?_
        refine o_T (y_fa fl_159_0 rfl) rfl ?_
        refine o_T (y_ia ar_157 rfl rfl (by omega) (by omega)) rfl ?_
        refine o_T (y_fa fl_156_1 rfl) rfl ?_
        refine o_T (y_fa fl_66_0 rfl) rfl ?_
        refine o_ld one_3 rfl (ms m0) (Tb.g_rows_e_sd i (by omega) (by omega)) rfl ?_
        refine o_T (y_is sl_46 rfl rfl (by omega) (by omega)) rfl ?_
        refine o_st one_3 rfl rfl rfl r0 (iV_set _ (t.usedTo i).length _ (by omega)) (iV_size _ (by first | omega | (simp only [List.length_set]; omega))) ?_
        refine o_nil0 rfl ?_
        refine c_seq ?_
        refine c_seq ?_
        refine c_region ?_
        refine o_T (y_move rfl) rfl ?_
        refine o_L (y_assign rfl) rfl rfl ?_
        refine o_nil0 rfl ?_
        refine c_block ?_
        refine c_loopG (ι := Nat × List Int) (fun i_ => [(8, .int .i64 (i_.1 : Int))]) (fun i_ => [inG b_1 i_.2 3]) (fun i_ => i_.1 ≤ (t.usedTo i).length ∧ sink ((t.insTo i).set (t.usedTo i).length (t.rows i).e.sd) (t.usedTo i).length = sink i_.2 i_.1 ∧ i_.2.length = (t.usedTo 6).length) (fun i_ => i_.1) ((t.usedTo i).length, (t.insTo i).set (t.usedTo i).length (t.rows i).e.sd) (by exact ⟨Nat.le_refl _, rfl, by rw [List.length_set]; exact il2⟩) ⟨by first | rfl | exact gteI rfl (by omega), trivial⟩ (s_take (s_take s_nil)) ?_
        rintro ⟨j, l⟩ ⟨g1, g2, g3⟩
        try dsimp only [List.cons_append, List.nil_append] at *
        refine c_seq ?_
        refine c_seq ?_
        refine c_draw #[true, true, true, true, true, true, true, true, true, true, true, true, true, true] rfl (n := 14) rfl ?_
        refine d_T 0 rfl (by kernel_rfl) rfl (y_move rfl) rfl ?_
        refine d_T 1 rfl (by kernel_rfl) rfl (y_gtr rfl rfl) rfl ?_
        refine d_T 2 rfl (by kernel_rfl) rfl (y_move rfl) rfl ?_
        refine d_split 49 rfl (fun h204 => ?_) (fun h204 => ?_)
        · try simp only [decide_eq_true_eq, decide_eq_false_iff_not, Bool.not_eq_true', Bool.not_eq_false', Int.not_lt, Int.not_le, Decidable.not_not, beq_iff_eq, bne_iff_ne, ne_eq, beq_eq_false_iff_ne] at h204
          refine d_Tg 3 rfl rfl rfl rfl (by kernel_rfl) rfl (y_move rfl) rfl ?_
          refine d_Tg 4 rfl rfl rfl rfl (by kernel_rfl) rfl (y_move rfl) rfl ?_
          refine d_Tg 5 rfl rfl rfl rfl (by kernel_rfl) rfl (y_sub rfl rfl (w64 (by omega))) rfl ?_
          refine d_Tg 6 rfl rfl rfl rfl (by kernel_rfl) rfl (y_is sl_46 rfl rfl (by omega) (by omega)) rfl ?_
          refine d_ldt 7 rfl rfl rfl rfl (by kernel_rfl) one_3 rfl (fun x hx => hx) m0 (iV_get (j - 1) (by first | omega | (simp only [List.length_set]; omega)) (by omega)) rfl ?_
          refine d_Tg 8 rfl rfl rfl rfl (by kernel_rfl) rfl (y_move rfl) rfl ?_
          refine d_Tg 9 rfl rfl rfl rfl (by kernel_rfl) rfl (y_move rfl) rfl ?_
          refine d_Tg 10 rfl rfl rfl rfl (by kernel_rfl) rfl (y_is sl_46 rfl rfl (by omega) (by omega)) rfl ?_
          refine d_ldt 11 rfl rfl rfl rfl (by kernel_rfl) one_3 rfl (fun x hx => hx) m0 (iV_get j (by first | omega | (simp only [List.length_set]; omega)) (by omega)) rfl ?_
          refine d_Tg 12 rfl rfl rfl rfl (by kernel_rfl) rfl (y_gtr rfl rfl) rfl ?_
          refine d_T 13 rfl (by kernel_rfl) rfl (y_pickT rfl rfl) rfl ?_
          refine d_nil1 60 (by kernel_rfl) rfl rfl ?_
          refine c_cond rfl (fun h204_1 => ?_) (fun h204_1 => ?_)
          · try simp only [decide_eq_true_eq, decide_eq_false_iff_not, Bool.not_eq_true', Bool.not_eq_false', Int.not_lt, Int.not_le, Decidable.not_not, beq_iff_eq, bne_iff_ne, ne_eq, beq_eq_false_iff_ne] at h204_1
            refine c_skip ?_
            refine c_seq ?_
            refine c_block ?_
            refine c_draw #[true, true, true, true, true, true, true, true, true, true, true, true, true, true, true, false, true, false] rfl (n := 18) rfl ?_
            refine d_T 0 rfl (by kernel_rfl) rfl (y_move rfl) rfl ?_
            refine d_T 1 rfl (by kernel_rfl) rfl (y_move rfl) rfl ?_
            refine d_T 2 rfl (by kernel_rfl) rfl (y_sub rfl rfl (w64 (by omega))) rfl ?_
            refine d_T 3 rfl (by kernel_rfl) rfl (y_move rfl) rfl ?_
            refine d_T 4 rfl (by kernel_rfl) rfl (y_move rfl) rfl ?_
            refine d_T 5 rfl (by kernel_rfl) rfl (y_move rfl) rfl ?_
            refine d_T 6 rfl (by kernel_rfl) rfl (y_move rfl) rfl ?_
            refine d_T 7 rfl (by kernel_rfl) rfl (y_is sl_46 rfl rfl (by omega) (by omega)) rfl ?_
            refine d_ld 8 rfl (by kernel_rfl) one_3 rfl (fun x hx => hx) m0 (iV_get j (by first | omega | (simp only [List.length_set]; omega)) (by omega)) rfl ?_
            refine d_T 9 rfl (by kernel_rfl) rfl (y_move rfl) rfl ?_
            refine d_T 10 rfl (by kernel_rfl) rfl (y_move rfl) rfl ?_
            refine d_T 11 rfl (by kernel_rfl) rfl (y_sub rfl rfl (w64 (by omega))) rfl ?_
            refine d_T 12 rfl (by kernel_rfl) rfl (y_is sl_46 rfl rfl (by omega) (by omega)) rfl ?_
            refine d_ld 13 rfl (by kernel_rfl) one_3 rfl (fun x hx => hx) m0 (iV_get (j - 1) (by first | omega | (simp only [List.length_set]; omega)) (by omega)) rfl ?_
            refine d_T 14 rfl (by kernel_rfl) rfl (y_is sl_46 rfl rfl (by omega) (by omega)) rfl ?_
            refine d_hard 15 rfl (by kernel_rfl) ?_
            refine o_st one_3 rfl rfl rfl r0 (iV_set _ (j - 1) _ (by omega)) (iV_size _ (by first | omega | (simp only [List.length_set]; omega))) ?_
            refine o_stop (fun h => nomatch h) ?_
            refine d_T 16 rfl (by kernel_rfl) rfl (y_is sl_46 rfl rfl (by omega) (by omega)) rfl ?_
            refine d_hard 17 rfl (by kernel_rfl) ?_
            refine o_st one_3 rfl rfl rfl r0 (iV_set _ j _ (by omega)) (iV_size _ (by first | omega | (simp only [List.length_set]; omega))) ?_
            refine o_stop (fun h => nomatch h) ?_
            refine d_nil0 (by kernel_rfl) rfl ?_
            refine c_region ?_
            refine o_T (y_move rfl) rfl ?_
            refine o_T (y_sub rfl rfl (w64 (by omega))) rfl ?_
            refine o_L (y_assign rfl) rfl rfl ?_
            refine o_nil0 rfl ?_
            refine ⟨(j - 1, (l.set (j - 1) (l.getD j 0)).set j (l.getD (j - 1) 0)), ⟨⟨by omega, g2.trans (sink_swap (by omega) h204_1), by simp; exact g3⟩, by dsimp only; omega⟩, ⟨gteI rfl (by dsimp only; omega), trivial⟩, ⟨rfl, rfl⟩, _, ((s_take (s_take s_nil)))⟩
          · try simp only [decide_eq_true_eq, decide_eq_false_iff_not, Bool.not_eq_true', Bool.not_eq_false', Int.not_lt, Int.not_le, Decidable.not_not, beq_iff_eq, bne_iff_ne, ne_eq, beq_eq_false_iff_ne] at h204_1
            refine c_exit ?_
            refine c_region ?_
            refine o_T (y_move rfl) rfl ?_
            refine o_T (y_add rfl rfl (w64 (by omega))) rfl ?_
            refine o_L (y_assign rfl) rfl rfl ?_
            refine o_nil0 rfl ?_
            refine c_region ?_
            refine o_T (y_move rfl) rfl ?_
            refine o_T (y_add rfl rfl (w64 (by omega))) rfl ?_
            refine o_L (y_assign rfl) rfl rfl ?_
            refine o_nil0 rfl ?_
            have e9 : t.insTo (i + 1) = l := by rw [← sink_stop (l := l) (j := j) (by omega), ← g2]; simp only [Tb.insTo]; rw [if_pos h202]
            refine ⟨(i + 1), ⟨by omega, by first | omega | (dsimp only; omega)⟩, ⟨by first | rfl | exact gteI rfl (by omega), gteI rfl (by rw [Tb.usedTo_yes h202]; simp), trivial⟩, ⟨rfl, rfl⟩, _, (by dsimp only; rw [e9]; exact (s_take (s_take s_nil)))⟩
        · try simp only [decide_eq_true_eq, decide_eq_false_iff_not, Bool.not_eq_true', Bool.not_eq_false', Int.not_lt, Int.not_le, Decidable.not_not, beq_iff_eq, bne_iff_ne, ne_eq, beq_eq_false_iff_ne] at h204
          refine d_pass 3 rfl rfl rfl rfl rfl (by kernel_rfl) (fun x hx => hx) rfl ?_
          refine d_pass 4 rfl rfl rfl rfl rfl (by kernel_rfl) (fun x hx => hx) rfl ?_
          refine d_pass 5 rfl rfl rfl rfl rfl (by kernel_rfl) (fun x hx => hx) rfl ?_
          refine d_pass 6 rfl rfl rfl rfl rfl (by kernel_rfl) (fun x hx => hx) rfl ?_
          refine d_pass 7 rfl rfl rfl rfl rfl (by kernel_rfl) (fun x hx => hx) rfl ?_
          refine d_pass 8 rfl rfl rfl rfl rfl (by kernel_rfl) (fun x hx => hx) rfl ?_
          refine d_pass 9 rfl rfl rfl rfl rfl (by kernel_rfl) (fun x hx => hx) rfl ?_
          refine d_pass 10 rfl rfl rfl rfl rfl (by kernel_rfl) (fun x hx => hx) rfl ?_
          refine d_pass 11 rfl rfl rfl rfl rfl (by kernel_rfl) (fun x hx => hx) rfl ?_
          refine d_pass 12 rfl rfl rfl rfl rfl (by kernel_rfl) (fun x hx => hx) rfl ?_
          refine d_T 13 rfl (by kernel_rfl) rfl (y_pickF rfl rfl) rfl ?_
          refine d_nil1 60 (by kernel_rfl) rfl rfl ?_
          refine c_condF rfl ?_
          refine c_exit ?_
          refine c_region ?_
          refine o_T (y_move rfl) rfl ?_
          refine o_T (y_add rfl rfl (w64 (by omega))) rfl ?_
          refine o_L (y_assign rfl) rfl rfl ?_
          refine o_nil0 rfl ?_
          refine c_region ?_
          refine o_T (y_move rfl) rfl ?_
          refine o_T (y_add rfl rfl (w64 (by omega))) rfl ?_
          refine o_L (y_assign rfl) rfl rfl ?_
          refine o_nil0 rfl ?_
          have e9 : t.insTo (i + 1) = l := by rw [← sink_stop (l := l) (j := j) (by omega), ← g2]; simp only [Tb.insTo]; rw [if_pos h202]
          refine ⟨(i + 1), ⟨by omega, by first | omega | (dsimp only; omega)⟩, ⟨by first | rfl | exact gteI rfl (by omega), gteI rfl (by rw [Tb.usedTo_yes h202]; simp), trivial⟩, ⟨rfl, rfl⟩, _, (by dsimp only; rw [e9]; exact (s_take (s_take s_nil)))⟩
      · try simp only [decide_eq_true_eq, decide_eq_false_iff_not, Bool.not_eq_true', Bool.not_eq_false', Int.not_lt, Int.not_le, Decidable.not_not, beq_iff_eq, bne_iff_ne, ne_eq, beq_eq_false_iff_ne] at h202
        refine c_skip ?_
        refine c_region ?_
        refine o_T (y_move rfl) rfl ?_
        refine o_T (y_add rfl rfl (w64 (by omega))) rfl ?_
        refine o_L (y_assign rfl) rfl rfl ?_
        refine o_nil0 rfl ?_
        have e9 : t.insTo (i + 1) = t.insTo i := by simp only [Tb.insTo]; rw [if_neg (by rw [h202]; decide)]
        refine ⟨(i + 1), ⟨by omega, by first | omega | (dsimp only; omega)⟩, ⟨by first | rfl | exact gteI rfl (by omega), gteI rfl (by rw [Tb.usedTo_no h202]), trivial⟩, ⟨rfl, rfl⟩, _, (by dsimp only; rw [e9]; exact (s_take (s_take s_nil)))⟩
    · try simp only [decide_eq_true_eq, decide_eq_false_iff_not, Bool.not_eq_true', Bool.not_eq_false', Int.not_lt, Int.not_le, Decidable.not_not, beq_iff_eq, bne_iff_ne, ne_eq, beq_eq_false_iff_ne] at h201
      refine c_exit ?_
      refine c_seq ?_
      refine c_region ?_
      refine o_T (y_move rfl) rfl ?_
      refine o_L (y_assign rfl) rfl rfl ?_
      refine o_nil0 rfl ?_
      refine c_ret ?_
      refine fun aX wX heX hsX => ret1 Tryz.results65 heX rfl (s_take (s_take s_nil)) ?_
      obtain rfl : i = 6 := by omega
      exact ⟨_, inV_eq (il 6), rfl⟩

/-- e2e/sock.New -/
theorem t60  : Trip Tryz.prog 60 #[] [] (fun u S' => ∃ b, u = .pointer (some ⟨b, 0, none⟩) ∧ S' = [[(b, .cells Tb.init.enc 159 (0, 0))]]) := by
  refine fn_entry (args := []) Tryz.func60 rfl Tryz.ntmps60 rfl (fun w0 => ?_)
  refine c_seq ?_
  refine c_region ?_
  refine o_L (y_assign rfl) rfl rfl ?_
  refine o_nil0 rfl ?_
  refine c_seq ?_
  refine c_region ?_
  refine o_T (y_build st_159 rfl (cs := Tb.enc { Tb.zero with free := 0, nextSd := 1, eph := 8 }) rfl) rfl ?_
  refine o_box rfl rfl rfl rfl (fun b_1 => ?_)
  refine o_L (y_assign rfl) rfl rfl ?_
  refine o_nil0 rfl ?_
  refine c_seq ?_
  refine c_seq ?_
  refine c_row (g' := [(b_1, .cells (Tb.iA 0).enc 159 (0, 0))]) q0 (by rw [Tb.iA_zero]; rfl) ?_
  refine c_region ?_
  refine o_L (y_assign rfl) rfl rfl ?_
  refine o_nil0 rfl ?_
  refine c_block ?_
  refine c_loopG (ι := Nat) (fun i => [(2, .int .i64 (i : Int))]) (fun i => [[(b_1, .cells (Tb.iA i).enc 159 (0, 0))]]) (fun i => i ≤ 6) (fun i => 6 - i) 0 (by omega) ⟨by first | rfl | exact gteI rfl (by omega), trivial⟩ (s_take s_nil) ?_
  rintro k hI
  try dsimp only at hI
  refine c_seq ?_
  refine c_seq ?_
  refine c_region ?_
  refine o_T (y_move rfl) rfl ?_
  refine o_T (y_lss rfl rfl) rfl ?_
  refine o_nil1 8 rfl rfl ?_
  refine c_cond rfl (fun h44 => ?_) (fun h44 => ?_)
  · try simp only [decide_eq_true_eq, decide_eq_false_iff_not, Bool.not_eq_true', Bool.not_eq_false', Int.not_lt, Int.not_le, Decidable.not_not, beq_iff_eq, bne_iff_ne, ne_eq, beq_eq_false_iff_ne] at h44
    refine c_skip ?_
    refine c_seq ?_
    refine c_block ?_
    refine c_region ?_
    refine o_T (y_move rfl) rfl ?_
    refine o_T (y_move rfl) rfl ?_
    refine o_T (y_move rfl) rfl ?_
    refine o_T (y_add rfl rfl (w64 (by omega))) rfl ?_
    refine o_T (y_nilck rfl) rfl ?_
    refine o_T (y_fa fl_159_0 rfl) rfl ?_
    refine o_T (y_ia ar_157 rfl rfl (by omega) (by omega)) rfl ?_
    refine o_T (y_fa fl_156_2 rfl) rfl ?_
    refine o_st one_3 rfl rfl rfl r0 (Tb.s_rows_nxt_ k (by omega) (by omega)) (by simp only [Tb.size]; omega) ?_
    refine o_nil0 rfl ?_
    refine c_region ?_
    refine o_T (y_move rfl) rfl ?_
    refine o_T (y_add rfl rfl (w64 (by omega))) rfl ?_
    refine o_L (y_assign rfl) rfl rfl ?_
    refine o_nil0 rfl ?_
    have e9 := Tb.iA_succ k
    refine ⟨(k + 1), ⟨by omega, by first | omega | (dsimp only; omega)⟩, ⟨by first | rfl | exact gteI rfl (by omega), trivial⟩, ⟨rfl, rfl⟩, _, (by dsimp only; rw [e9]; exact (s_take s_nil))⟩
  · try simp only [decide_eq_true_eq, decide_eq_false_iff_not, Bool.not_eq_true', Bool.not_eq_false', Int.not_lt, Int.not_le, Decidable.not_not, beq_iff_eq, bne_iff_ne, ne_eq, beq_eq_false_iff_ne] at h44
    refine c_exit ?_
    refine c_seq ?_
    refine c_region ?_
    refine o_T (y_move rfl) rfl ?_
    refine o_T (y_nilck rfl) rfl ?_
    refine o_T (y_fa fl_159_0 rfl) rfl ?_
    refine o_T (y_ia ar_157 rfl rfl (by omega) (by omega)) rfl ?_
    refine o_T (y_fa fl_156_2 rfl) rfl ?_
    refine o_st one_3 rfl rfl rfl r0 (Tb.sr_rows_nxt_ _ (by omega) rfl) (by simp only [Tb.size]; omega) ?_
    refine o_nil0 rfl ?_
    refine c_seq ?_
    refine c_seq ?_
    obtain rfl : k = 6 := by omega
    refine c_row (g' := [(b_1, .cells (Tb.iB 0).enc 159 (0, 0))]) q0 (by rw [Tb.iB_zero]; rfl) ?_
    refine c_region ?_
    refine o_L (y_assign rfl) rfl rfl ?_
    refine o_nil0 rfl ?_
    refine c_block ?_
    refine c_loopG (ι := Nat) (fun i => [(3, .int .i64 (i : Int))]) (fun i => [[(b_1, .cells (Tb.iB i).enc 159 (0, 0))]]) (fun i => i ≤ 4) (fun i => 4 - i) 0 (by omega) ⟨by first | rfl | exact gteI rfl (by omega), trivial⟩ (s_take s_nil) ?_
    rintro k hI
    try dsimp only at hI
    refine c_seq ?_
    refine c_seq ?_
    refine c_region ?_
    refine o_T (y_move rfl) rfl ?_
    refine o_T (y_lss rfl rfl) rfl ?_
    refine o_nil1 25 rfl rfl ?_
    refine c_cond rfl (fun h48 => ?_) (fun h48 => ?_)
    · try simp only [decide_eq_true_eq, decide_eq_false_iff_not, Bool.not_eq_true', Bool.not_eq_false', Int.not_lt, Int.not_le, Decidable.not_not, beq_iff_eq, bne_iff_ne, ne_eq, beq_eq_false_iff_ne] at h48
      refine c_skip ?_
      refine c_seq ?_
      refine c_block ?_
      refine c_region ?_
      refine o_T (y_move rfl) rfl ?_
      refine o_T (y_move rfl) rfl ?_
      refine o_T (y_nilck rfl) rfl ?_
      refine o_T (y_fa fl_159_2 rfl) rfl ?_
      refine o_T (y_ia ar_144 rfl rfl (by omega) (by omega)) rfl ?_
      refine o_st one_3 rfl rfl rfl r0 (Tb.sr_bucket _ (by omega) rfl) (by simp only [Tb.size]; omega) ?_
      refine o_nil0 rfl ?_
      refine c_region ?_
      refine o_T (y_move rfl) rfl ?_
      refine o_T (y_add rfl rfl (w64 (by omega))) rfl ?_
      refine o_L (y_assign rfl) rfl rfl ?_
      refine o_nil0 rfl ?_
      have e9 := Tb.iB_succ k
      refine ⟨(k + 1), ⟨by omega, by first | omega | (dsimp only; omega)⟩, ⟨by first | rfl | exact gteI rfl (by omega), trivial⟩, ⟨rfl, rfl⟩, _, (by dsimp only; rw [e9]; exact (s_take s_nil))⟩
    · try simp only [decide_eq_true_eq, decide_eq_false_iff_not, Bool.not_eq_true', Bool.not_eq_false', Int.not_lt, Int.not_le, Decidable.not_not, beq_iff_eq, bne_iff_ne, ne_eq, beq_eq_false_iff_ne] at h48
      refine c_exit ?_
      refine c_seq ?_
      refine c_seq ?_
      obtain rfl : k = 4 := by omega
      refine c_row (g' := [(b_1, .cells (Tb.iC 0).enc 159 (0, 0))]) q0 (by rw [Tb.iC_zero]) ?_
      refine c_region ?_
      refine o_L (y_assign rfl) rfl rfl ?_
      refine o_nil0 rfl ?_
      refine c_block ?_
      refine c_loopG (ι := Nat) (fun i => [(4, .int .i64 (i : Int))]) (fun i => [[(b_1, .cells (Tb.iC i).enc 159 (0, 0))]]) (fun i => i ≤ 8) (fun i => 8 - i) 0 (by omega) ⟨by first | rfl | exact gteI rfl (by omega), trivial⟩ (s_take s_nil) ?_
      rintro k hI
      try dsimp only at hI
      refine c_seq ?_
      refine c_seq ?_
      refine c_region ?_
      refine o_T (y_move rfl) rfl ?_
      refine o_T (y_lss rfl rfl) rfl ?_
      refine o_nil1 34 rfl rfl ?_
      refine c_cond rfl (fun h51 => ?_) (fun h51 => ?_)
      · try simp only [decide_eq_true_eq, decide_eq_false_iff_not, Bool.not_eq_true', Bool.not_eq_false', Int.not_lt, Int.not_le, Decidable.not_not, beq_iff_eq, bne_iff_ne, ne_eq, beq_eq_false_iff_ne] at h51
        refine c_skip ?_
        refine c_seq ?_
        refine c_block ?_
        refine c_region ?_
        refine o_T (y_move rfl) rfl ?_
        refine o_T (y_move rfl) rfl ?_
        refine o_T (y_nilck rfl) rfl ?_
        refine o_T (y_fa fl_159_3 rfl) rfl ?_
        refine o_T (y_ia ar_109 rfl rfl (by omega) (by omega)) rfl ?_
        refine o_st one_3 rfl rfl rfl r0 (Tb.sr_port _ (by omega) rfl) (by simp only [Tb.size]; omega) ?_
        refine o_nil0 rfl ?_
        refine c_region ?_
        refine o_T (y_move rfl) rfl ?_
        refine o_T (y_add rfl rfl (w64 (by omega))) rfl ?_
        refine o_L (y_assign rfl) rfl rfl ?_
        refine o_nil0 rfl ?_
        have e9 := Tb.iC_succ k
        refine ⟨(k + 1), ⟨by omega, by first | omega | (dsimp only; omega)⟩, ⟨by first | rfl | exact gteI rfl (by omega), trivial⟩, ⟨rfl, rfl⟩, _, (by dsimp only; rw [e9]; exact (s_take s_nil))⟩
      · try simp only [decide_eq_true_eq, decide_eq_false_iff_not, Bool.not_eq_true', Bool.not_eq_false', Int.not_lt, Int.not_le, Decidable.not_not, beq_iff_eq, bne_iff_ne, ne_eq, beq_eq_false_iff_ne] at h51
        refine c_exit ?_
        refine c_seq ?_
        refine c_region ?_
        refine o_T (y_move rfl) rfl ?_
        refine o_L (y_assign rfl) rfl rfl ?_
        refine o_nil0 rfl ?_
        refine c_ret ?_
        refine fun aX wX heX hsX => ret1 Tryz.results60 heX rfl (s_take s_nil) ?_
        obtain rfl : k = 8 := by omega
        exact ⟨_, rfl, rfl⟩

end Go.Proofs.Qxb6500351aGreat
