/- MADE BY PROGRAM (tools/gen.py over tools/specs351.py): walks. -/
import Derived.Test.Qxb6500351aGreatFacts
import Derived.Test.Qxb6500351aGreatW27
set_option linter.unusedVariables false
set_option linter.unusedSimpArgs false
namespace Go.Proofs.Qxb6500351aGreat
open Go.Eng
set_option maxRecDepth 20000
set_option maxHeartbeats 4000000
/-- (*e2e/sock.Table).Free -/
theorem t128 (b : Nat) (t : Tb) (sd : Int) (ok : t.Ok) (hk : ∀ j, -999 ≤ (t.rows j).kids) (hl : -999 ≤ t.listeners) (h1 : (t.rows (t.find sd).toNat).e.kind = 1 → (t.rows (t.find sd).toNat).e.lPort < 8) (h2 : ¬ t.find sd = -1 → ¬ (t.rows (t.find sd).toNat).e.kind = 1 → 0 ≤ (t.rows (t.find sd).toNat).e.slot) : Trip Tryz.prog 128 #[.pointer (some ⟨b, 0, none⟩), .int .i64 sd] [[(b, .cells t.enc 159 (0, 0))]] (fun u S' => ∃ t' : Tb, t' = (t.freeSd sd).2 ∧ t'.Ok ∧ u = .int .i64 (t.freeSd sd).1 ∧ S' = [[(b, .cells (t').enc 159 (0, 0))]]) := by
  have ok0 := ok
  obtain ⟨q1, q2, q3, q4, q5, q6, q7, q8, q9, q10, q11, q12⟩ := ok
  have fb := t.find_b sd
  have v1 := (q6 (t.find sd).toNat).lp
  have v4 := (q6 (t.find sd).toNat).slot
  refine fn_entry (args := [.pointer (some ⟨b, 0, none⟩), .int .i64 sd]) Tryz.func128 rfl Tryz.ntmps128 rfl (fun w0 => ?_)
  refine c_seq ?_
  refine c_region ?_
  refine o_L (y_assign rfl) rfl rfl ?_
  refine o_nil0 rfl ?_
  refine c_seq ?_
  refine c_region ?_
  refine o_T (y_move rfl) rfl ?_
  refine o_T (y_move rfl) rfl ?_
  refine o_callrv en_106 rfl (t106 _ _ _) (s_take s_nil) rfl ?_
  refine o_L (y_assign rfl) rfl rfl ?_
  refine o_nil0 rfl ?_
  refine c_seq ?_
  refine c_seq ?_
  refine c_region ?_
  refine o_T (y_move rfl) rfl ?_
  refine o_T (y_eql rfl rfl) rfl ?_
  refine o_nil1 11 rfl rfl ?_
  refine c_cond rfl (fun h124 => ?_) (fun h124 => ?_)
  · try simp only [decide_eq_true_eq, decide_eq_false_iff_not, Bool.not_eq_true', Bool.not_eq_false', Int.not_lt, Int.not_le, Decidable.not_not, beq_iff_eq, bne_iff_ne, ne_eq, beq_eq_false_iff_ne] at h124
    refine c_seq ?_
    refine c_region ?_
    refine o_L (y_assign rfl) rfl rfl ?_
    refine o_nil0 rfl ?_
    refine c_ret ?_
    refine fun aX wX heX hsX => ret1 Tryz.results128 heX rfl (s_take s_nil) ?_
    have e1 : t.freeSd sd = (21, t) := by unfold Tb.freeSd; rw [if_pos h124]
    rw [e1]
    exact ⟨_, rfl, ok0, rfl, rfl⟩
  · try simp only [decide_eq_true_eq, decide_eq_false_iff_not, Bool.not_eq_true', Bool.not_eq_false', Int.not_lt, Int.not_le, Decidable.not_not, beq_iff_eq, bne_iff_ne, ne_eq, beq_eq_false_iff_ne] at h124
    refine c_skip ?_
    refine c_seq ?_
    refine c_seq ?_
    refine c_region ?_
    refine o_T (y_move rfl) rfl ?_
    refine o_T (y_move rfl) rfl ?_
    refine o_T (y_nilck rfl) rfl ?_
    refine o_T (y_fa fl_159_0 rfl) rfl ?_
    refine o_T (y_ia ar_157 rfl rfl (by omega) (by omega)) rfl ?_
    refine o_T (y_fa fl_156_1 rfl) rfl ?_
    refine o_T (y_fa fl_66_1 rfl) rfl ?_
    refine o_ld one_3 rfl m0 (Tb.gr_rows_e_kind _ (by omega) rfl) rfl ?_
    refine o_T (y_eql rfl rfl) rfl ?_
    refine o_nil1 20 rfl rfl ?_
    refine c_cond rfl (fun h127 => ?_) (fun h127 => ?_)
    · try simp only [decide_eq_true_eq, decide_eq_false_iff_not, Bool.not_eq_true', Bool.not_eq_false', Int.not_lt, Int.not_le, Decidable.not_not, beq_iff_eq, bne_iff_ne, ne_eq, beq_eq_false_iff_ne] at h127
      refine c_seq ?_
      have v2 := h1 h127
      have okX := Tb.ok_port ok0 (t.rows (t.find sd).toNat).e.lPort.toNat (x := -1) (y := t.listeners - 1) (by omega) (by omega)
      refine c_draw #[true, true, true, true, true, true, true, true, true, true, true, true, false] rfl (n := 13) rfl ?_
      refine d_T 0 rfl (by kernel_rfl) rfl (y_move rfl) rfl ?_
      refine d_T 1 rfl (by kernel_rfl) rfl (y_move rfl) rfl ?_
      refine d_T 2 rfl (by kernel_rfl) rfl (y_move rfl) rfl ?_
      refine d_T 3 rfl (by kernel_rfl) rfl (y_nilck rfl) rfl ?_
      refine d_T 4 rfl (by kernel_rfl) rfl (y_fa fl_159_0 rfl) rfl ?_
      refine d_T 5 rfl (by kernel_rfl) rfl (y_ia ar_157 rfl rfl (by omega) (by omega)) rfl ?_
      refine d_T 6 rfl (by kernel_rfl) rfl (y_fa fl_156_1 rfl) rfl ?_
      refine d_T 7 rfl (by kernel_rfl) rfl (y_fa fl_66_2 rfl) rfl ?_
      refine d_ld 8 rfl (by kernel_rfl) one_3 rfl (fun x hx => hx) m0 (Tb.gr_rows_e_lPort _ (by omega) rfl) rfl ?_
      refine d_T 9 rfl (by kernel_rfl) rfl (y_nilck rfl) rfl ?_
      refine d_T 10 rfl (by kernel_rfl) rfl (y_fa fl_159_3 rfl) rfl ?_
      refine d_T 11 rfl (by kernel_rfl) rfl (y_ia ar_109 rfl rfl (by omega) (by omega)) rfl ?_
      refine d_hard 12 rfl (by kernel_rfl) ?_
      refine o_st one_3 rfl rfl rfl r0 (Tb.sr_port _ (by omega) rfl) (by simp only [Tb.size]; omega) ?_
      refine o_stop (fun h => nomatch h) ?_
      refine d_nil0 (by kernel_rfl) rfl ?_
      refine c_seq ?_
      refine c_region ?_
      refine o_T (y_move rfl) rfl ?_
      refine o_T (y_nilck rfl) rfl ?_
      refine o_T (y_fa fl_159_5 rfl) rfl ?_
      refine o_ld one_3 rfl m0 Tb.g104 rfl ?_
      refine o_T (y_sub rfl rfl (w64 (by omega))) rfl ?_
      refine o_T (y_nilck rfl) rfl ?_
      refine o_T (y_fa fl_159_5 rfl) rfl ?_
      refine o_st one_3 rfl rfl rfl r0 Tb.s104 (of_blt rfl) ?_
      refine o_nil0 rfl ?_
      refine c_seq ?_
      refine c_row (g' := [(b, .cells (Tb.kidsTo { t with port := upA t.port (t.rows (t.find sd).toNat).e.lPort.toNat (-1), listeners := t.listeners - 1 } sd 0).enc 159 (0, 0))]) q0 (by rw [Tb.kidsTo_zero]) ?_
      refine c_region ?_
      refine o_L (y_assign rfl) rfl rfl ?_
      refine o_nil0 rfl ?_
      refine c_block ?_
      refine c_loopG (ι := Nat) (fun i => [(6, .int .i64 (i : Int))]) (fun i => [[(b, .cells (Tb.kidsTo { t with port := upA t.port (t.rows (t.find sd).toNat).e.lPort.toNat (-1), listeners := t.listeners - 1 } sd i).enc 159 (0, 0))]]) (fun i => i ≤ 6) (fun i => 6 - i) 0 (by omega) ⟨by first | rfl | exact gteI rfl (by omega), trivial⟩ (s_take s_nil) ?_
      rintro k hI
      try dsimp only at hI
      refine c_seq ?_
      refine c_seq ?_
      refine c_region ?_
      refine o_T (y_move rfl) rfl ?_
      refine o_T (y_lss rfl rfl) rfl ?_
      refine o_nil1 41 rfl rfl ?_
      refine c_cond rfl (fun h130 => ?_) (fun h130 => ?_)
      · try simp only [decide_eq_true_eq, decide_eq_false_iff_not, Bool.not_eq_true', Bool.not_eq_false', Int.not_lt, Int.not_le, Decidable.not_not, beq_iff_eq, bne_iff_ne, ne_eq, beq_eq_false_iff_ne] at h130
        refine c_skip ?_
        refine c_seq ?_
        refine c_block ?_
        refine c_seq ?_
        refine c_region ?_
        refine o_T (y_move rfl) rfl ?_
        refine o_T (y_move rfl) rfl ?_
        refine o_T (y_nilck rfl) rfl ?_
        refine o_T (y_fa fl_159_0 rfl) rfl ?_
        refine o_T (y_ia ar_157 rfl rfl (by omega) (by omega)) rfl ?_
        refine o_T (y_fa fl_156_0 rfl) rfl ?_
        refine o_ld one_4 rfl m0 (Tb.g_rows_used k (by omega) (by omega)) rfl ?_
        refine o_T (y_move rfl) rfl ?_
        refine o_split 51 rfl (fun h131 => ?_) (fun h131 => ?_)
        · try simp only [decide_eq_true_eq, decide_eq_false_iff_not, Bool.not_eq_true', Bool.not_eq_false', Int.not_lt, Int.not_le, Decidable.not_not, beq_iff_eq, bne_iff_ne, ne_eq, beq_eq_false_iff_ne] at h131
          refine o_take rfl rfl rfl ?_
          refine o_T (y_move rfl) rfl ?_
          refine o_take rfl rfl rfl ?_
          refine o_T (y_move rfl) rfl ?_
          refine o_take rfl rfl rfl ?_
          refine o_T (y_nilck rfl) rfl ?_
          refine o_take rfl rfl rfl ?_
          refine o_T (y_fa fl_159_0 rfl) rfl ?_
          refine o_take rfl rfl rfl ?_
          refine o_T (y_ia ar_157 rfl rfl (by omega) (by omega)) rfl ?_
          refine o_take rfl rfl rfl ?_
          refine o_T (y_fa fl_156_1 rfl) rfl ?_
          refine o_take rfl rfl rfl ?_
          refine o_T (y_fa fl_66_6 rfl) rfl ?_
          refine o_take rfl rfl rfl ?_
          refine o_ld one_3 rfl m0 (Tb.g_rows_e_parent k (by omega) (by omega)) rfl ?_
          refine o_take rfl rfl rfl ?_
          refine o_T (y_move rfl) rfl ?_
          refine o_take rfl rfl rfl ?_
          refine o_T (y_eql rfl rfl) rfl ?_
          refine o_T (y_pickT rfl rfl) rfl ?_
          refine o_nil1 62 rfl rfl ?_
          refine c_cond rfl (fun h131_1 => ?_) (fun h131_1 => ?_)
          · try simp only [decide_eq_true_eq, decide_eq_false_iff_not, Bool.not_eq_true', Bool.not_eq_false', Int.not_lt, Int.not_le, Decidable.not_not, beq_iff_eq, bne_iff_ne, ne_eq, beq_eq_false_iff_ne] at h131_1
            refine c_seq ?_
            refine c_region ?_
            refine o_T (y_move rfl) rfl ?_
            refine o_T (y_move rfl) rfl ?_
            refine o_T (y_nilck rfl) rfl ?_
            refine o_T (y_fa fl_159_0 rfl) rfl ?_
            refine o_T (y_ia ar_157 rfl rfl (by omega) (by omega)) rfl ?_
            refine o_T (y_fa fl_156_1 rfl) rfl ?_
            refine o_T (y_fa fl_66_6 rfl) rfl ?_
            refine o_st one_3 rfl rfl rfl r0 (Tb.s_rows_e_parent k (by omega) (by omega)) (by simp only [Tb.size]; omega) ?_
            refine o_nil0 rfl ?_
            refine c_region ?_
            refine o_T (y_move rfl) rfl ?_
            refine o_T (y_move rfl) rfl ?_
            refine o_T (y_nilck rfl) rfl ?_
            refine o_T (y_fa fl_159_0 rfl) rfl ?_
            refine o_T (y_ia ar_157 rfl rfl (by omega) (by omega)) rfl ?_
            refine o_T (y_fa fl_156_1 rfl) rfl ?_
            refine o_T (y_fa fl_66_7 rfl) rfl ?_
            refine o_st one_4 rfl rfl rfl r0 (Tb.s_rows_e_ready k (by omega) (by omega)) (by simp only [Tb.size]; omega) ?_
            refine o_nil0 rfl ?_
            refine c_region ?_
            refine o_T (y_move rfl) rfl ?_
            refine o_T (y_add rfl rfl (w64 (by omega))) rfl ?_
            refine o_L (y_assign rfl) rfl rfl ?_
            refine o_nil0 rfl ?_
            have e9 := Tb.kidsTo_yes ⟨h131, h131_1⟩ rfl
            refine ⟨(k + 1), ⟨by omega, by first | omega | (dsimp only; omega)⟩, ⟨by first | rfl | exact gteI rfl (by omega), trivial⟩, ⟨rfl, rfl⟩, _, (by dsimp only; rw [e9]; exact (s_take s_nil))⟩
          · try simp only [decide_eq_true_eq, decide_eq_false_iff_not, Bool.not_eq_true', Bool.not_eq_false', Int.not_lt, Int.not_le, Decidable.not_not, beq_iff_eq, bne_iff_ne, ne_eq, beq_eq_false_iff_ne] at h131_1
            refine c_skip ?_
            refine c_region ?_
            refine o_T (y_move rfl) rfl ?_
            refine o_T (y_add rfl rfl (w64 (by omega))) rfl ?_
            refine o_L (y_assign rfl) rfl rfl ?_
            refine o_nil0 rfl ?_
            have e9 := Tb.kidsTo_no (fun z => h131_1 z.2)
            refine ⟨(k + 1), ⟨by omega, by first | omega | (dsimp only; omega)⟩, ⟨by first | rfl | exact gteI rfl (by omega), trivial⟩, ⟨rfl, rfl⟩, _, (by dsimp only; rw [e9]; exact (s_take s_nil))⟩
        · try simp only [decide_eq_true_eq, decide_eq_false_iff_not, Bool.not_eq_true', Bool.not_eq_false', Int.not_lt, Int.not_le, Decidable.not_not, beq_iff_eq, bne_iff_ne, ne_eq, beq_eq_false_iff_ne] at h131
          refine o_pass rfl rfl rfl rfl rfl ?_
          refine o_pass rfl rfl rfl rfl rfl ?_
          refine o_pass rfl rfl rfl rfl rfl ?_
          refine o_pass rfl rfl rfl rfl rfl ?_
          refine o_pass rfl rfl rfl rfl rfl ?_
          refine o_pass rfl rfl rfl rfl rfl ?_
          refine o_pass rfl rfl rfl rfl rfl ?_
          refine o_pass rfl rfl rfl rfl rfl ?_
          refine o_pass rfl rfl rfl rfl rfl ?_
          refine o_pass rfl rfl rfl rfl rfl ?_
          refine o_T (y_pickF rfl rfl) rfl ?_
          refine o_nil1 62 rfl rfl ?_
          refine c_condF rfl ?_
          refine c_skip ?_
          refine c_region ?_
          refine o_T (y_move rfl) rfl ?_
          refine o_T (y_add rfl rfl (w64 (by omega))) rfl ?_
          refine o_L (y_assign rfl) rfl rfl ?_
          refine o_nil0 rfl ?_
          have e9 := Tb.kidsTo_no (fun z => nomatch (h131.symm.trans z.1 : false = true))
          refine ⟨(k + 1), ⟨by omega, by first | omega | (dsimp only; omega)⟩, ⟨by first | rfl | exact gteI rfl (by omega), trivial⟩, ⟨rfl, rfl⟩, _, (by dsimp only; rw [e9]; exact (s_take s_nil))⟩
      · try simp only [decide_eq_true_eq, decide_eq_false_iff_not, Bool.not_eq_true', Bool.not_eq_false', Int.not_lt, Int.not_le, Decidable.not_not, beq_iff_eq, bne_iff_ne, ne_eq, beq_eq_false_iff_ne] at h130
        refine c_exit ?_
        refine c_seq ?_
        obtain rfl : k = 6 := by omega
        have okY := Tb.ok_kidsTo okX sd 6
        refine c_region ?_
        refine o_T (y_move rfl) rfl ?_
        refine o_T (y_move rfl) rfl ?_
        refine o_call en_173 rfl (t173 _ _ _ (by assumption) (by omega)) (s_take s_nil) rfl ?_
        rintro v S' ⟨t_1, ht_1, kt_1, rfl, rfl⟩
        refine o_nil0 rfl ?_
        refine c_seq ?_
        refine c_region ?_
        refine o_L (y_assign rfl) rfl rfl ?_
        refine o_nil0 rfl ?_
        refine c_ret ?_
        refine fun aX wX heX hsX => ret1 Tryz.results128 heX rfl (s_take s_nil) ?_
        have e1 : t.freeSd sd = (0, (t.freeL (t.find sd) sd).give (t.find sd)) := by unfold Tb.freeSd Tb.freeT; rw [if_neg h124, if_pos h127]
        rw [e1]
        subst ht_1
        exact ⟨_, rfl, by assumption, rfl, rfl⟩
    · try simp only [decide_eq_true_eq, decide_eq_false_iff_not, Bool.not_eq_true', Bool.not_eq_false', Int.not_lt, Int.not_le, Decidable.not_not, beq_iff_eq, bne_iff_ne, ne_eq, beq_eq_false_iff_ne] at h127
      refine c_seq ?_
      have v2 := h2 h124 h127
      have v3 := fun k => Tb.unlink_row (t := t) (i := t.find sd) k
      have v5 := (v3 (t.find sd).toNat).1
      refine c_region ?_
      refine o_T (y_move rfl) rfl ?_
      refine o_T (y_move rfl) rfl ?_
      refine o_call en_170 rfl (t170 _ _ _ (by assumption) (by omega)) (s_take s_nil) rfl ?_
      rintro v S' ⟨t_2, ht_2, kt_2, rfl, rfl⟩
      refine o_nil0 rfl ?_
      refine c_seq ?_
      rw [← ht_2] at v3 v5
      have v6 := congrArg En.slot v5
      have v7 := (q6 (t.find sd).toNat).slot
      have v8 := kt_2.blocks
      have okB := Tb.ok_blocks kt_2 (clrBlk_b (t_2.rows (t.find sd).toNat).e.slot v8)
      have hk2 : ∀ j, -999 ≤ (t_2.rows j).kids := fun j => by rw [(v3 j).2]; exact hk j
      refine c_draw #[true, true, true, true, true, true, true, true, true, true, true, true, true, true, true, true, true, false] rfl (n := 18) rfl ?_
      refine d_T 0 rfl (by kernel_rfl) rfl (y_move rfl) rfl ?_
      refine d_T 1 rfl (by kernel_rfl) rfl (y_nilck rfl) rfl ?_
      refine d_T 2 rfl (by kernel_rfl) rfl (y_fa fl_159_4 rfl) rfl ?_
      refine d_ld 3 rfl (by kernel_rfl) one_5 rfl (fun x hx => hx) m0 Tb.g103 rfl ?_
      refine d_T 4 rfl (by kernel_rfl) rfl (y_move rfl) rfl ?_
      refine d_T 5 rfl (by kernel_rfl) rfl (y_move rfl) rfl ?_
      refine d_T 6 rfl (by kernel_rfl) rfl (y_nilck rfl) rfl ?_
      refine d_T 7 rfl (by kernel_rfl) rfl (y_fa fl_159_0 rfl) rfl ?_
      refine d_T 8 rfl (by kernel_rfl) rfl (y_ia ar_157 rfl rfl (by omega) (by omega)) rfl ?_
      refine d_T 9 rfl (by kernel_rfl) rfl (y_fa fl_156_1 rfl) rfl ?_
      refine d_T 10 rfl (by kernel_rfl) rfl (y_fa fl_66_5 rfl) rfl ?_
      refine d_ld 11 rfl (by kernel_rfl) one_3 rfl (fun x hx => hx) m0 (Tb.gr_rows_e_slot _ (by omega) rfl) rfl ?_
      refine d_hard 12 rfl (by kernel_rfl) ?_
      refine o_callv en_171 rfl (t171 _ (by omega)) rfl ?_
      refine o_stop (fun _ => (fun x hx => hx)) ?_
      refine d_T 13 rfl (by kernel_rfl) rfl (y_compl8 rfl (compl8 (pow8 (by omega)))) rfl ?_
      refine d_T 14 rfl (by kernel_rfl) rfl (y_and rfl rfl (clr_blk v8 (by omega))) rfl ?_
      refine d_T 15 rfl (by kernel_rfl) rfl (y_nilck rfl) rfl ?_
      refine d_T 16 rfl (by kernel_rfl) rfl (y_fa fl_159_4 rfl) rfl ?_
      refine d_hard 17 rfl (by kernel_rfl) ?_
      refine o_st one_5 rfl rfl rfl r0 Tb.s103 (of_blt rfl) ?_
      refine o_stop (fun h => nomatch h) ?_
      refine d_nil0 (by kernel_rfl) rfl ?_
      refine c_region ?_
      refine o_T (y_move rfl) rfl ?_
      refine o_T (y_move rfl) rfl ?_
      refine o_call en_172 rfl (t172 _ _ _ (by assumption) (by omega) (by assumption)) (s_take s_nil) rfl ?_
      rintro v S' ⟨t_3, ht_3, kt_3, rfl, rfl⟩
      refine o_nil0 rfl ?_
      refine c_seq ?_
      refine c_region ?_
      refine o_T (y_move rfl) rfl ?_
      refine o_T (y_move rfl) rfl ?_
      refine o_call en_173 rfl (t173 _ _ _ (by assumption) (by omega)) (s_take s_nil) rfl ?_
      rintro v S' ⟨t_4, ht_4, kt_4, rfl, rfl⟩
      refine o_nil0 rfl ?_
      refine c_seq ?_
      refine c_region ?_
      refine o_L (y_assign rfl) rfl rfl ?_
      refine o_nil0 rfl ?_
      refine c_ret ?_
      refine fun aX wX heX hsX => ret1 Tryz.results128 heX rfl (s_take s_nil) ?_
      have e1 : t.freeSd sd = (0, (t.freeC (t.find sd)).give (t.find sd)) := by unfold Tb.freeSd Tb.freeT; rw [if_neg h124, if_neg h127]
      rw [e1]
      subst ht_4
      subst ht_3
      subst ht_2
      exact ⟨_, rfl, by assumption, rfl, rfl⟩

/-- (*e2e/sock.Table).Listen -/
theorem t129 (b : Nat) (t : Tb) (p : Int) (ok : t.Ok) (h5 : t.nextSd < 1152921504606846976) : Trip Tryz.prog 129 #[.pointer (some ⟨b, 0, none⟩), .int .i64 p] [[(b, .cells t.enc 159 (0, 0))]] (fun u S' => ∃ t' : Tb, t' = (t.listen p).2.2 ∧ t'.Ok ∧ u = .tuple #[.int .i64 (t.listen p).1, .int .i64 (t.listen p).2.1] ∧ S' = [[(b, .cells (t').enc 159 (0, 0))]]) := by
  have ok0 := ok
  obtain ⟨q1, q2, q3, q4, q5, q6, q7, q8, q9, q10, q11, q12⟩ := ok
  have tb := Tb.take_b ok0
  have tn := Tb.take_next t
  have tl := Tb.take_lis t
  refine fn_entry (args := [.pointer (some ⟨b, 0, none⟩), .int .i64 p]) Tryz.func129 rfl Tryz.ntmps129 rfl (fun w0 => ?_)
  refine c_seq ?_
  refine c_region ?_
  refine o_L (y_assign rfl) rfl rfl ?_
  refine o_L (y_assign rfl) rfl rfl ?_
  refine o_nil0 rfl ?_
  refine c_seq ?_
  refine c_seq ?_
  refine c_region ?_
  refine o_T (y_move rfl) rfl ?_
  refine o_T (y_lss rfl rfl) rfl ?_
  refine o_T (y_move rfl) rfl ?_
  refine o_split 10 rfl (fun h7 => ?_) (fun h7 => ?_)
  · try simp only [decide_eq_true_eq, decide_eq_false_iff_not, Bool.not_eq_true', Bool.not_eq_false', Int.not_lt, Int.not_le, Decidable.not_not, beq_iff_eq, bne_iff_ne, ne_eq, beq_eq_false_iff_ne] at h7
    refine o_pass rfl rfl rfl rfl rfl ?_
    refine o_pass rfl rfl rfl rfl rfl ?_
    refine o_T (y_pickT rfl rfl) rfl ?_
    refine o_nil1 13 rfl rfl ?_
    refine c_condT rfl ?_
    refine c_seq ?_
    refine c_region ?_
    refine o_L (y_assign rfl) rfl rfl ?_
    refine o_L (y_assign rfl) rfl rfl ?_
    refine o_nil0 rfl ?_
    refine c_ret ?_
    refine fun aX wX heX hsX => ret2 Tryz.results129 heX rfl rfl (s_take s_nil) ?_
    have e1 : t.listen p = (0, 22, t) := by unfold Tb.listen; rw [if_pos (by omega)]
    rw [e1]
    exact ⟨_, rfl, ok0, rfl, rfl⟩
  · try simp only [decide_eq_true_eq, decide_eq_false_iff_not, Bool.not_eq_true', Bool.not_eq_false', Int.not_lt, Int.not_le, Decidable.not_not, beq_iff_eq, bne_iff_ne, ne_eq, beq_eq_false_iff_ne] at h7
    refine o_take rfl rfl rfl ?_
    refine o_T (y_move rfl) rfl ?_
    refine o_take rfl rfl rfl ?_
    refine o_T (y_geq rfl rfl) rfl ?_
    refine o_T (y_pickF rfl rfl) rfl ?_
    refine o_nil1 13 rfl rfl ?_
    refine c_cond rfl (fun h7_1 => ?_) (fun h7_1 => ?_)
    · try simp only [decide_eq_true_eq, decide_eq_false_iff_not, Bool.not_eq_true', Bool.not_eq_false', Int.not_lt, Int.not_le, Decidable.not_not, beq_iff_eq, bne_iff_ne, ne_eq, beq_eq_false_iff_ne] at h7_1
      refine c_seq ?_
      refine c_region ?_
      refine o_L (y_assign rfl) rfl rfl ?_
      refine o_L (y_assign rfl) rfl rfl ?_
      refine o_nil0 rfl ?_
      refine c_ret ?_
      refine fun aX wX heX hsX => ret2 Tryz.results129 heX rfl rfl (s_take s_nil) ?_
      have e1 : t.listen p = (0, 22, t) := by unfold Tb.listen; rw [if_pos (by omega)]
      rw [e1]
      exact ⟨_, rfl, ok0, rfl, rfl⟩
    · try simp only [decide_eq_true_eq, decide_eq_false_iff_not, Bool.not_eq_true', Bool.not_eq_false', Int.not_lt, Int.not_le, Decidable.not_not, beq_iff_eq, bne_iff_ne, ne_eq, beq_eq_false_iff_ne] at h7_1
      refine c_skip ?_
      refine c_seq ?_
      refine c_seq ?_
      refine c_region ?_
      refine o_T (y_move rfl) rfl ?_
      refine o_T (y_move rfl) rfl ?_
      refine o_T (y_nilck rfl) rfl ?_
      refine o_T (y_fa fl_159_3 rfl) rfl ?_
      refine o_T (y_ia ar_109 rfl rfl (by omega) (by omega)) rfl ?_
      refine o_ld one_3 rfl m0 (Tb.gr_port _ (by omega) rfl) rfl ?_
      refine o_T (y_neq rfl rfl) rfl ?_
      refine o_nil1 20 rfl rfl ?_
      refine c_cond rfl (fun h10 => ?_) (fun h10 => ?_)
      · try simp only [decide_eq_true_eq, decide_eq_false_iff_not, Bool.not_eq_true', Bool.not_eq_false', Int.not_lt, Int.not_le, Decidable.not_not, beq_iff_eq, bne_iff_ne, ne_eq, beq_eq_false_iff_ne] at h10
        refine c_seq ?_
        refine c_region ?_
        refine o_L (y_assign rfl) rfl rfl ?_
        refine o_L (y_assign rfl) rfl rfl ?_
        refine o_nil0 rfl ?_
        refine c_ret ?_
        refine fun aX wX heX hsX => ret2 Tryz.results129 heX rfl rfl (s_take s_nil) ?_
        have e1 : t.listen p = (0, 23, t) := by unfold Tb.listen; rw [if_neg (by omega), if_pos h10]
        rw [e1]
        exact ⟨_, rfl, ok0, rfl, rfl⟩
      · try simp only [decide_eq_true_eq, decide_eq_false_iff_not, Bool.not_eq_true', Bool.not_eq_false', Int.not_lt, Int.not_le, Decidable.not_not, beq_iff_eq, bne_iff_ne, ne_eq, beq_eq_false_iff_ne] at h10
        refine c_skip ?_
        refine c_seq ?_
        refine c_seq ?_
        refine c_region ?_
        refine o_T (y_move rfl) rfl ?_
        refine o_T (y_nilck rfl) rfl ?_
        refine o_T (y_fa fl_159_5 rfl) rfl ?_
        refine o_ld one_3 rfl m0 Tb.g104 rfl ?_
        refine o_T (y_geq rfl rfl) rfl ?_
        refine o_nil1 25 rfl rfl ?_
        refine c_cond rfl (fun h13 => ?_) (fun h13 => ?_)
        · try simp only [decide_eq_true_eq, decide_eq_false_iff_not, Bool.not_eq_true', Bool.not_eq_false', Int.not_lt, Int.not_le, Decidable.not_not, beq_iff_eq, bne_iff_ne, ne_eq, beq_eq_false_iff_ne] at h13
          refine c_seq ?_
          refine c_region ?_
          refine o_L (y_assign rfl) rfl rfl ?_
          refine o_L (y_assign rfl) rfl rfl ?_
          refine o_nil0 rfl ?_
          refine c_ret ?_
          refine fun aX wX heX hsX => ret2 Tryz.results129 heX rfl rfl (s_take s_nil) ?_
          have e1 : t.listen p = (0, 11, t) := by unfold Tb.listen; rw [if_neg (by omega), if_neg (by omega), if_pos h13]
          rw [e1]
          exact ⟨_, rfl, ok0, rfl, rfl⟩
        · try simp only [decide_eq_true_eq, decide_eq_false_iff_not, Bool.not_eq_true', Bool.not_eq_false', Int.not_lt, Int.not_le, Decidable.not_not, beq_iff_eq, bne_iff_ne, ne_eq, beq_eq_false_iff_ne] at h13
          refine c_skip ?_
          refine c_seq ?_
          refine c_region ?_
          refine o_T (y_move rfl) rfl ?_
          refine o_call en_174 rfl (t174 _ _ (by assumption)) (s_take s_nil) rfl ?_
          rintro v S' ⟨t_1, ht_1, kt_1, rfl, rfl⟩
          refine o_L (y_assign rfl) rfl rfl ?_
          refine o_nil0 rfl ?_
          refine c_seq ?_
          refine c_seq ?_
          rw [← ht_1] at tn tl
          refine c_region ?_
          refine o_T (y_move rfl) rfl ?_
          refine o_T (y_eql rfl rfl) rfl ?_
          refine o_nil1 29 rfl rfl ?_
          refine c_cond rfl (fun h17 => ?_) (fun h17 => ?_)
          · try simp only [decide_eq_true_eq, decide_eq_false_iff_not, Bool.not_eq_true', Bool.not_eq_false', Int.not_lt, Int.not_le, Decidable.not_not, beq_iff_eq, bne_iff_ne, ne_eq, beq_eq_false_iff_ne] at h17
            refine c_seq ?_
            refine c_region ?_
            refine o_L (y_assign rfl) rfl rfl ?_
            refine o_L (y_assign rfl) rfl rfl ?_
            refine o_nil0 rfl ?_
            refine c_ret ?_
            refine fun aX wX heX hsX => ret2 Tryz.results129 heX rfl rfl (s_take s_nil) ?_
            have e1 : t.listen p = (0, 11, t.takeT) := by unfold Tb.listen; rw [if_neg (by omega), if_neg (by omega), if_neg (by omega), if_pos h17]
            rw [e1]
            subst ht_1
            exact ⟨_, rfl, by assumption, rfl, rfl⟩
          · try simp only [decide_eq_true_eq, decide_eq_false_iff_not, Bool.not_eq_true', Bool.not_eq_false', Int.not_lt, Int.not_le, Decidable.not_not, beq_iff_eq, bne_iff_ne, ne_eq, beq_eq_false_iff_ne] at h17
            refine c_skip ?_
            refine c_seq ?_
            refine c_region ?_
            refine o_T (y_move rfl) rfl ?_
            refine o_T (y_nilck rfl) rfl ?_
            refine o_T (y_fa fl_159_6 rfl) rfl ?_
            refine o_ld one_3 rfl m0 Tb.g105 rfl ?_
            refine o_L (y_assign rfl) rfl rfl ?_
            refine o_nil0 rfl ?_
            refine c_seq ?_
            refine c_region ?_
            refine o_T (y_move rfl) rfl ?_
            refine o_T (y_nilck rfl) rfl ?_
            refine o_T (y_fa fl_159_6 rfl) rfl ?_
            refine o_ld one_3 rfl m0 Tb.g105 rfl ?_
            refine o_T (y_add rfl rfl (w64 (by omega))) rfl ?_
            refine o_T (y_nilck rfl) rfl ?_
            refine o_T (y_fa fl_159_6 rfl) rfl ?_
            refine o_st one_3 rfl rfl rfl r0 Tb.s105 (of_blt rfl) ?_
            refine o_nil0 rfl ?_
            refine c_seq ?_
            refine c_region ?_
            refine o_T (y_move rfl) rfl ?_
            refine o_T (y_move rfl) rfl ?_
            refine o_T (y_move rfl) rfl ?_
            refine o_T (y_move rfl) rfl ?_
            refine o_T (y_build st_66 rfl (fb rfl rfl rfl En.s0 (fb rfl rfl rfl En.s1 (fb rfl rfl rfl En.s2 (fb rfl rfl rfl En.s5 fb0))))) rfl ?_
            refine o_T (y_nilck rfl) rfl ?_
            refine o_T (y_fa fl_159_0 rfl) rfl ?_
            refine o_T (y_ia ar_157 rfl rfl (by omega) (by omega)) rfl ?_
            refine o_T (y_fa fl_156_1 rfl) rfl ?_
            refine o_sta ag_66 rfl rfl rfl rfl r0 (Tb.Sr_rows_e _ (by omega) rfl) (by simp only [Tb.size]; omega) ?_
            refine o_nil0 rfl ?_
            refine c_seq ?_
            refine c_region ?_
            refine o_T (y_move rfl) rfl ?_
            refine o_T (y_move rfl) rfl ?_
            refine o_T (y_move rfl) rfl ?_
            refine o_T (y_nilck rfl) rfl ?_
            refine o_T (y_fa fl_159_3 rfl) rfl ?_
            refine o_T (y_ia ar_109 rfl rfl (by omega) (by omega)) rfl ?_
            refine o_st one_3 rfl rfl rfl r0 (Tb.sr_port _ (by omega) rfl) (by simp only [Tb.size]; omega) ?_
            refine o_nil0 rfl ?_
            refine c_seq ?_
            refine c_region ?_
            refine o_T (y_move rfl) rfl ?_
            refine o_T (y_nilck rfl) rfl ?_
            refine o_T (y_fa fl_159_5 rfl) rfl ?_
            refine o_ld one_3 rfl m0 Tb.g104 rfl ?_
            refine o_T (y_add rfl rfl (w64 (by dsimp only; omega))) rfl ?_
            refine o_T (y_nilck rfl) rfl ?_
            refine o_T (y_fa fl_159_5 rfl) rfl ?_
            refine o_st one_3 rfl rfl rfl r0 Tb.s104 (of_blt rfl) ?_
            refine o_nil0 rfl ?_
            refine c_seq ?_
            refine c_region ?_
            refine o_T (y_move rfl) rfl ?_
            refine o_L (y_assign rfl) rfl rfl ?_
            refine o_L (y_assign rfl) rfl rfl ?_
            refine o_nil0 rfl ?_
            refine c_ret ?_
            refine fun aX wX heX hsX => ret2 Tryz.results129 heX rfl rfl (s_take s_nil) ?_
            have e1 : t.listen p = (t.takeT.nextSd, 0, t.listenT p) := by unfold Tb.listen; rw [if_neg (by omega), if_neg (by omega), if_neg (by omega), if_neg h17]
            rw [e1]
            have okF := Tb.ok_listenT (p := p) ok0 (by omega) h5 (by omega)
            subst ht_1
            exact ⟨_, rfl, okF, rfl, rfl⟩

/-- (*e2e/sock.Table).Connect -/
theorem t130 (b : Nat) (t : Tb) (rh rp : Int) (ok : t.Ok) (h5 : t.nextSd < 1152921504606846976) : Trip Tryz.prog 130 #[.pointer (some ⟨b, 0, none⟩), .int .i64 rh, .int .i64 rp] [[(b, .cells t.enc 159 (0, 0))]] (fun u S' => ∃ t' : Tb, t' = (t.connect rh rp).2.2 ∧ t'.Ok ∧ u = .tuple #[.int .i64 (t.connect rh rp).1, .int .i64 (t.connect rh rp).2.1] ∧ S' = [[(b, .cells (t').enc 159 (0, 0))]]) := by
  have ok0 := ok
  obtain ⟨q1, q2, q3, q4, q5, q6, q7, q8, q9, q10, q11, q12⟩ := ok
  have tb := t.low_b
  refine fn_entry (args := [.pointer (some ⟨b, 0, none⟩), .int .i64 rh, .int .i64 rp]) Tryz.func130 rfl Tryz.ntmps130 rfl (fun w0 => ?_)
  refine c_seq ?_
  refine c_region ?_
  refine o_L (y_assign rfl) rfl rfl ?_
  refine o_L (y_assign rfl) rfl rfl ?_
  refine o_nil0 rfl ?_
  refine c_seq ?_
  refine c_seq ?_
  refine c_region ?_
  refine o_T (y_move rfl) rfl ?_
  refine o_T (y_lss rfl rfl) rfl ?_
  refine o_T (y_move rfl) rfl ?_
  refine o_split 15 rfl (fun h31 => ?_) (fun h31 => ?_)
  · try simp only [decide_eq_true_eq, decide_eq_false_iff_not, Bool.not_eq_true', Bool.not_eq_false', Int.not_lt, Int.not_le, Decidable.not_not, beq_iff_eq, bne_iff_ne, ne_eq, beq_eq_false_iff_ne] at h31
    refine o_pass rfl rfl rfl rfl rfl ?_
    refine o_pass rfl rfl rfl rfl rfl ?_
    refine o_T (y_pickT rfl rfl) rfl ?_
    refine o_nil1 18 rfl rfl ?_
    refine c_condT rfl ?_
    refine c_seq ?_
    refine c_region ?_
    refine o_L (y_assign rfl) rfl rfl ?_
    refine o_L (y_assign rfl) rfl rfl ?_
    refine o_nil0 rfl ?_
    refine c_ret ?_
    refine fun aX wX heX hsX => ret2 Tryz.results130 heX rfl rfl (s_take s_nil) ?_
    have e1 : t.connect rh rp = (0, 5, t) := by unfold Tb.connect; rw [if_pos (by omega)]
    rw [e1]
    exact ⟨_, rfl, ok0, rfl, rfl⟩
  · try simp only [decide_eq_true_eq, decide_eq_false_iff_not, Bool.not_eq_true', Bool.not_eq_false', Int.not_lt, Int.not_le, Decidable.not_not, beq_iff_eq, bne_iff_ne, ne_eq, beq_eq_false_iff_ne] at h31
    refine o_take rfl rfl rfl ?_
    refine o_T (y_move rfl) rfl ?_
    refine o_take rfl rfl rfl ?_
    refine o_T (y_gtr rfl rfl) rfl ?_
    refine o_T (y_pickF rfl rfl) rfl ?_
    refine o_nil1 18 rfl rfl ?_
    refine c_cond rfl (fun h31_1 => ?_) (fun h31_1 => ?_)
    · try simp only [decide_eq_true_eq, decide_eq_false_iff_not, Bool.not_eq_true', Bool.not_eq_false', Int.not_lt, Int.not_le, Decidable.not_not, beq_iff_eq, bne_iff_ne, ne_eq, beq_eq_false_iff_ne] at h31_1
      refine c_seq ?_
      refine c_region ?_
      refine o_L (y_assign rfl) rfl rfl ?_
      refine o_L (y_assign rfl) rfl rfl ?_
      refine o_nil0 rfl ?_
      refine c_ret ?_
      refine fun aX wX heX hsX => ret2 Tryz.results130 heX rfl rfl (s_take s_nil) ?_
      have e1 : t.connect rh rp = (0, 5, t) := by unfold Tb.connect; rw [if_pos (by omega)]
      rw [e1]
      exact ⟨_, rfl, ok0, rfl, rfl⟩
    · try simp only [decide_eq_true_eq, decide_eq_false_iff_not, Bool.not_eq_true', Bool.not_eq_false', Int.not_lt, Int.not_le, Decidable.not_not, beq_iff_eq, bne_iff_ne, ne_eq, beq_eq_false_iff_ne] at h31_1
      refine c_skip ?_
      refine c_seq ?_
      refine c_seq ?_
      refine c_region ?_
      refine o_T (y_move rfl) rfl ?_
      refine o_T (y_lss rfl rfl) rfl ?_
      refine o_T (y_move rfl) rfl ?_
      refine o_split 21 rfl (fun h34 => ?_) (fun h34 => ?_)
      · try simp only [decide_eq_true_eq, decide_eq_false_iff_not, Bool.not_eq_true', Bool.not_eq_false', Int.not_lt, Int.not_le, Decidable.not_not, beq_iff_eq, bne_iff_ne, ne_eq, beq_eq_false_iff_ne] at h34
        refine o_pass rfl rfl rfl rfl rfl ?_
        refine o_pass rfl rfl rfl rfl rfl ?_
        refine o_T (y_pickT rfl rfl) rfl ?_
        refine o_nil1 24 rfl rfl ?_
        refine c_condT rfl ?_
        refine c_seq ?_
        refine c_region ?_
        refine o_L (y_assign rfl) rfl rfl ?_
        refine o_L (y_assign rfl) rfl rfl ?_
        refine o_nil0 rfl ?_
        refine c_ret ?_
        refine fun aX wX heX hsX => ret2 Tryz.results130 heX rfl rfl (s_take s_nil) ?_
        have e1 : t.connect rh rp = (0, 22, t) := by unfold Tb.connect; rw [if_neg (by omega), if_pos (by omega)]
        rw [e1]
        exact ⟨_, rfl, ok0, rfl, rfl⟩
      · try simp only [decide_eq_true_eq, decide_eq_false_iff_not, Bool.not_eq_true', Bool.not_eq_false', Int.not_lt, Int.not_le, Decidable.not_not, beq_iff_eq, bne_iff_ne, ne_eq, beq_eq_false_iff_ne] at h34
        refine o_take rfl rfl rfl ?_
        refine o_T (y_move rfl) rfl ?_
        refine o_take rfl rfl rfl ?_
        refine o_T (y_gtr rfl rfl) rfl ?_
        refine o_T (y_pickF rfl rfl) rfl ?_
        refine o_nil1 24 rfl rfl ?_
        refine c_cond rfl (fun h34_1 => ?_) (fun h34_1 => ?_)
        · try simp only [decide_eq_true_eq, decide_eq_false_iff_not, Bool.not_eq_true', Bool.not_eq_false', Int.not_lt, Int.not_le, Decidable.not_not, beq_iff_eq, bne_iff_ne, ne_eq, beq_eq_false_iff_ne] at h34_1
          refine c_seq ?_
          refine c_region ?_
          refine o_L (y_assign rfl) rfl rfl ?_
          refine o_L (y_assign rfl) rfl rfl ?_
          refine o_nil0 rfl ?_
          refine c_ret ?_
          refine fun aX wX heX hsX => ret2 Tryz.results130 heX rfl rfl (s_take s_nil) ?_
          have e1 : t.connect rh rp = (0, 22, t) := by unfold Tb.connect; rw [if_neg (by omega), if_pos (by omega)]
          rw [e1]
          exact ⟨_, rfl, ok0, rfl, rfl⟩
        · try simp only [decide_eq_true_eq, decide_eq_false_iff_not, Bool.not_eq_true', Bool.not_eq_false', Int.not_lt, Int.not_le, Decidable.not_not, beq_iff_eq, bne_iff_ne, ne_eq, beq_eq_false_iff_ne] at h34_1
          refine c_skip ?_
          refine c_seq ?_
          refine c_region ?_
          refine o_T (y_move rfl) rfl ?_
          refine o_callrv en_175 rfl (t175 _ _ (by assumption)) (s_take s_nil) rfl ?_
          refine o_L (y_assign rfl) rfl rfl ?_
          refine o_nil0 rfl ?_
          refine c_seq ?_
          refine c_seq ?_
          refine c_region ?_
          refine o_T (y_move rfl) rfl ?_
          refine o_T (y_eql rfl rfl) rfl ?_
          refine o_nil1 28 rfl rfl ?_
          refine c_cond rfl (fun h38 => ?_) (fun h38 => ?_)
          · try simp only [decide_eq_true_eq, decide_eq_false_iff_not, Bool.not_eq_true', Bool.not_eq_false', Int.not_lt, Int.not_le, Decidable.not_not, beq_iff_eq, bne_iff_ne, ne_eq, beq_eq_false_iff_ne] at h38
            refine c_seq ?_
            refine c_region ?_
            refine o_L (y_assign rfl) rfl rfl ?_
            refine o_L (y_assign rfl) rfl rfl ?_
            refine o_nil0 rfl ?_
            refine c_ret ?_
            refine fun aX wX heX hsX => ret2 Tryz.results130 heX rfl rfl (s_take s_nil) ?_
            have e1 : t.connect rh rp = (0, 11, t) := by unfold Tb.connect; rw [if_neg (by omega), if_neg (by omega), if_pos h38]
            rw [e1]
            exact ⟨_, rfl, ok0, rfl, rfl⟩
          · try simp only [decide_eq_true_eq, decide_eq_false_iff_not, Bool.not_eq_true', Bool.not_eq_false', Int.not_lt, Int.not_le, Decidable.not_not, beq_iff_eq, bne_iff_ne, ne_eq, beq_eq_false_iff_ne] at h38
            refine c_skip ?_
            refine c_seq ?_
            refine c_region ?_
            refine o_T (y_move rfl) rfl ?_
            refine o_T (y_nilck rfl) rfl ?_
            refine o_T (y_fa fl_159_7 rfl) rfl ?_
            refine o_ld one_3 rfl m0 Tb.g106 rfl ?_
            refine o_L (y_assign rfl) rfl rfl ?_
            refine o_nil0 rfl ?_
            refine c_seq ?_
            refine c_region ?_
            refine o_T (y_move rfl) rfl ?_
            refine o_T (y_move rfl) rfl ?_
            refine o_T (y_move rfl) rfl ?_
            refine o_T (y_move rfl) rfl ?_
            refine o_callrv en_117 rfl (t117 _ _ _ _ _ (by assumption) (by omega) (by omega) (by omega)) (s_take s_nil) rfl ?_
            refine o_L (y_assign rfl) rfl rfl ?_
            refine o_nil0 rfl ?_
            refine c_seq ?_
            refine c_seq ?_
            refine c_region ?_
            refine o_L (y_assign rfl) rfl rfl ?_
            refine o_nil0 rfl ?_
            refine c_block ?_
            refine c_loopG (ι := Nat × Int) (fun i_ => [(11, .int .i64 (i_.1 : Int)), (9, .int .i64 i_.2), (10, .int .i64 (t.lookup i_.2 rh rp))]) (fun i_ => []) (fun i_ => i_.1 ≤ 8 ∧ t.connP rh rp = t.eph8 rh rp (8 - i_.1) i_.2 ∧ (8 ≤ i_.2 ∧ i_.2 ≤ 15)) (fun i_ => 8 - i_.1) (0, t.eph) (by exact ⟨Nat.zero_le _, rfl, q12⟩) ⟨by first | rfl | exact gteI rfl (by omega), by first | rfl | exact gteI rfl (by omega), by first | rfl | exact gteI rfl (by omega), trivial⟩ (s_take s_nil) ?_
            rintro ⟨k, p⟩ ⟨g1, g2, g3⟩
            try dsimp only [List.cons_append, List.nil_append] at *
            have hnx := nextEph_b g3
            refine c_seq ?_
            refine c_seq ?_
            refine c_region ?_
            refine o_T (y_move rfl) rfl ?_
            refine o_T (y_neq rfl rfl) rfl ?_
            refine o_T (y_move rfl) rfl ?_
            refine o_split 40 rfl (fun h43 => ?_) (fun h43 => ?_)
            · try simp only [decide_eq_true_eq, decide_eq_false_iff_not, Bool.not_eq_true', Bool.not_eq_false', Int.not_lt, Int.not_le, Decidable.not_not, beq_iff_eq, bne_iff_ne, ne_eq, beq_eq_false_iff_ne] at h43
              refine o_take rfl rfl rfl ?_
              refine o_T (y_move rfl) rfl ?_
              refine o_take rfl rfl rfl ?_
              refine o_T (y_lss rfl rfl) rfl ?_
              refine o_T (y_pickT rfl rfl) rfl ?_
              refine o_nil1 43 rfl rfl ?_
              refine c_cond rfl (fun h43_1 => ?_) (fun h43_1 => ?_)
              · try simp only [decide_eq_true_eq, decide_eq_false_iff_not, Bool.not_eq_true', Bool.not_eq_false', Int.not_lt, Int.not_le, Decidable.not_not, beq_iff_eq, bne_iff_ne, ne_eq, beq_eq_false_iff_ne] at h43_1
                refine c_skip ?_
                refine c_seq ?_
                refine c_block ?_
                refine c_seq ?_
                refine c_region ?_
                refine o_T (y_move rfl) rfl ?_
                refine o_callv en_176 rfl (t176 _ (by omega)) rfl ?_
                refine o_L (y_assign rfl) rfl rfl ?_
                refine o_nil0 rfl ?_
                refine c_region ?_
                refine o_T (y_move rfl) rfl ?_
                refine o_T (y_move rfl) rfl ?_
                refine o_T (y_move rfl) rfl ?_
                refine o_T (y_move rfl) rfl ?_
                refine o_callrv en_117 rfl (t117 _ _ _ _ _ (by assumption) (by omega) (by omega) (by omega)) (s_take s_nil) rfl ?_
                refine o_L (y_assign rfl) rfl rfl ?_
                refine o_nil0 rfl ?_
                refine c_region ?_
                refine o_T (y_move rfl) rfl ?_
                refine o_T (y_add rfl rfl (w64 (by omega))) rfl ?_
                refine o_L (y_assign rfl) rfl rfl ?_
                refine o_nil0 rfl ?_
                refine ⟨(k + 1, nextEph p), ⟨⟨by omega, g2.trans (Tb.eph8_next (by omega) (by omega)), hnx⟩, by dsimp only; omega⟩, ⟨by first | rfl | exact gteI rfl (by omega), rfl, rfl, trivial⟩, ⟨rfl, rfl⟩, _, ((s_take s_nil))⟩
              · try simp only [decide_eq_true_eq, decide_eq_false_iff_not, Bool.not_eq_true', Bool.not_eq_false', Int.not_lt, Int.not_le, Decidable.not_not, beq_iff_eq, bne_iff_ne, ne_eq, beq_eq_false_iff_ne] at h43_1
                refine c_exit ?_
                refine c_seq ?_
                refine c_region ?_
                refine o_T (y_move rfl) rfl ?_
                refine o_T (y_move rfl) rfl ?_
                refine o_T (y_move rfl) rfl ?_
                refine o_T (y_move rfl) rfl ?_
                refine o_T (y_move rfl) rfl ?_
                refine o_call en_177 rfl (t177 _ _ _ _ _ _ _ (by assumption) (by omega) (by omega) (by omega) (by omega) (by omega)) (s_take s_nil) rfl ?_
                rintro v S' ⟨t_1, ht_1, kt_1, rfl, rfl⟩
                refine o_L (y_assign rfl) rfl rfl ?_
                refine o_nil0 rfl ?_
                refine c_seq ?_
                refine c_seq ?_
                refine c_region ?_
                refine o_T (y_move rfl) rfl ?_
                refine o_T (y_eql rfl rfl) rfl ?_
                refine o_nil1 60 rfl rfl ?_
                refine c_cond rfl (fun h48 => ?_) (fun h48 => ?_)
                · try simp only [decide_eq_true_eq, decide_eq_false_iff_not, Bool.not_eq_true', Bool.not_eq_false', Int.not_lt, Int.not_le, Decidable.not_not, beq_iff_eq, bne_iff_ne, ne_eq, beq_eq_false_iff_ne] at h48
                  refine c_seq ?_
                  refine c_region ?_
                  refine o_L (y_assign rfl) rfl rfl ?_
                  refine o_L (y_assign rfl) rfl rfl ?_
                  refine o_nil0 rfl ?_
                  refine c_ret ?_
                  refine fun aX wX heX hsX => ret2 Tryz.results130 heX rfl rfl (s_take s_nil) ?_
                  have e4 : t.connP rh rp = p := g2.trans (Tb.eph8_end (by omega))
                  have e1 : t.connect rh rp = (0, 11, (t.conn (t.connP rh rp) rh rp t.low 0).2) := by unfold Tb.connect; rw [if_neg (by omega), if_neg (by omega), if_neg h38, if_pos (by rw [e4]; exact h48)]
                  rw [e1]
                  rw [e4]
                  subst ht_1
                  exact ⟨_, rfl, by assumption, rfl, rfl⟩
                · try simp only [decide_eq_true_eq, decide_eq_false_iff_not, Bool.not_eq_true', Bool.not_eq_false', Int.not_lt, Int.not_le, Decidable.not_not, beq_iff_eq, bne_iff_ne, ne_eq, beq_eq_false_iff_ne] at h48
                  refine c_skip ?_
                  refine c_seq ?_
                  refine c_region ?_
                  refine o_T (y_move rfl) rfl ?_
                  refine o_T (y_move rfl) rfl ?_
                  refine o_callv en_176 rfl (t176 _ (by omega)) rfl ?_
                  refine o_T (y_nilck rfl) rfl ?_
                  refine o_T (y_fa fl_159_7 rfl) rfl ?_
                  refine o_st one_3 rfl rfl rfl r0 Tb.s106 (of_blt rfl) ?_
                  refine o_nil0 rfl ?_
                  refine c_seq ?_
                  refine c_region ?_
                  refine o_T (y_move rfl) rfl ?_
                  refine o_L (y_assign rfl) rfl rfl ?_
                  refine o_L (y_assign rfl) rfl rfl ?_
                  refine o_nil0 rfl ?_
                  refine c_ret ?_
                  refine fun aX wX heX hsX => ret2 Tryz.results130 heX rfl rfl (s_take s_nil) ?_
                  have e4 : t.connP rh rp = p := g2.trans (Tb.eph8_end (by omega))
                  have e1 : t.connect rh rp = ((t.conn (t.connP rh rp) rh rp t.low 0).1, 0, { (t.conn (t.connP rh rp) rh rp t.low 0).2 with eph := nextEph (t.connP rh rp) }) := by unfold Tb.connect; rw [if_neg (by omega), if_neg (by omega), if_neg h38, if_neg (by rw [e4]; exact h48)]
                  rw [e1]
                  rw [e4]
                  have okF := Tb.ok_eph kt_1 (x := nextEph p) (by have := nextEph_b g3; omega)
                  subst ht_1
                  exact ⟨_, rfl, okF, rfl, rfl⟩
            · try simp only [decide_eq_true_eq, decide_eq_false_iff_not, Bool.not_eq_true', Bool.not_eq_false', Int.not_lt, Int.not_le, Decidable.not_not, beq_iff_eq, bne_iff_ne, ne_eq, beq_eq_false_iff_ne] at h43
              refine o_pass rfl rfl rfl rfl rfl ?_
              refine o_pass rfl rfl rfl rfl rfl ?_
              refine o_T (y_pickF rfl rfl) rfl ?_
              refine o_nil1 43 rfl rfl ?_
              refine c_condF rfl ?_
              refine c_exit ?_
              refine c_seq ?_
              refine c_region ?_
              refine o_T (y_move rfl) rfl ?_
              refine o_T (y_move rfl) rfl ?_
              refine o_T (y_move rfl) rfl ?_
              refine o_T (y_move rfl) rfl ?_
              refine o_T (y_move rfl) rfl ?_
              refine o_call en_177 rfl (t177 _ _ _ _ _ _ _ (by assumption) (by omega) (by omega) (by omega) (by omega) (by omega)) (s_take s_nil) rfl ?_
              rintro v S' ⟨t_2, ht_2, kt_2, rfl, rfl⟩
              refine o_L (y_assign rfl) rfl rfl ?_
              refine o_nil0 rfl ?_
              refine c_seq ?_
              refine c_seq ?_
              refine c_region ?_
              refine o_T (y_move rfl) rfl ?_
              refine o_T (y_eql rfl rfl) rfl ?_
              refine o_nil1 60 rfl rfl ?_
              refine c_cond rfl (fun h48 => ?_) (fun h48 => ?_)
              · try simp only [decide_eq_true_eq, decide_eq_false_iff_not, Bool.not_eq_true', Bool.not_eq_false', Int.not_lt, Int.not_le, Decidable.not_not, beq_iff_eq, bne_iff_ne, ne_eq, beq_eq_false_iff_ne] at h48
                refine c_seq ?_
                refine c_region ?_
                refine o_L (y_assign rfl) rfl rfl ?_
                refine o_L (y_assign rfl) rfl rfl ?_
                refine o_nil0 rfl ?_
                refine c_ret ?_
                refine fun aX wX heX hsX => ret2 Tryz.results130 heX rfl rfl (s_take s_nil) ?_
                have e4 : t.connP rh rp = p := g2.trans (Tb.eph8_end (by omega))
                have e1 : t.connect rh rp = (0, 11, (t.conn (t.connP rh rp) rh rp t.low 0).2) := by unfold Tb.connect; rw [if_neg (by omega), if_neg (by omega), if_neg h38, if_pos (by rw [e4]; exact h48)]
                rw [e1]
                rw [e4]
                subst ht_2
                exact ⟨_, rfl, by assumption, rfl, rfl⟩
              · try simp only [decide_eq_true_eq, decide_eq_false_iff_not, Bool.not_eq_true', Bool.not_eq_false', Int.not_lt, Int.not_le, Decidable.not_not, beq_iff_eq, bne_iff_ne, ne_eq, beq_eq_false_iff_ne] at h48
                refine c_skip ?_
                refine c_seq ?_
                refine c_region ?_
                refine o_T (y_move rfl) rfl ?_
                refine o_T (y_move rfl) rfl ?_
                refine o_callv en_176 rfl (t176 _ (by omega)) rfl ?_
                refine o_T (y_nilck rfl) rfl ?_
                refine o_T (y_fa fl_159_7 rfl) rfl ?_
                refine o_st one_3 rfl rfl rfl r0 Tb.s106 (of_blt rfl) ?_
                refine o_nil0 rfl ?_
                refine c_seq ?_
                refine c_region ?_
                refine o_T (y_move rfl) rfl ?_
                refine o_L (y_assign rfl) rfl rfl ?_
                refine o_L (y_assign rfl) rfl rfl ?_
                refine o_nil0 rfl ?_
                refine c_ret ?_
                refine fun aX wX heX hsX => ret2 Tryz.results130 heX rfl rfl (s_take s_nil) ?_
                have e4 : t.connP rh rp = p := g2.trans (Tb.eph8_end (by omega))
                have e1 : t.connect rh rp = ((t.conn (t.connP rh rp) rh rp t.low 0).1, 0, { (t.conn (t.connP rh rp) rh rp t.low 0).2 with eph := nextEph (t.connP rh rp) }) := by unfold Tb.connect; rw [if_neg (by omega), if_neg (by omega), if_neg h38, if_neg (by rw [e4]; exact h48)]
                rw [e1]
                rw [e4]
                have okF := Tb.ok_eph kt_2 (x := nextEph p) (by have := nextEph_b g3; omega)
                subst ht_2
                exact ⟨_, rfl, okF, rfl, rfl⟩

/-- (*e2e/sock.Table).Child -/
theorem t160 (b : Nat) (t : Tb) (lp rh rp : Int) (ok : t.Ok) (h1 : 0 ≤ lp ∧ lp < 256) (h2 : 0 ≤ rh ∧ rh < 256) (h3 : 0 ≤ rp ∧ rp < 256) (h5 : t.nextSd < 1152921504606846976) (h6 : ¬ t.lrow lp = -1 → t.free ≠ t.lrow lp) : Trip Tryz.prog 160 #[.pointer (some ⟨b, 0, none⟩), .int .i64 lp, .int .i64 rh, .int .i64 rp] [[(b, .cells t.enc 159 (0, 0))]] (fun u S' => ∃ t' : Tb, t' = (t.child lp rh rp).2.2 ∧ t'.Ok ∧ u = .tuple #[.int .i64 (t.child lp rh rp).1, .int .i64 (t.child lp rh rp).2.1] ∧ S' = [[(b, .cells (t').enc 159 (0, 0))]]) := by
  have ok0 := ok
  obtain ⟨q1, q2, q3, q4, q5, q6, q7, q8, q9, q10, q11, q12⟩ := ok
  have tb := t.low_b
  have v1 := Tb.lrow_b ok0 lp
  have v2 := q7 (t.lrow lp).toNat
  have v3 := fun (h : ¬ t.lrow lp = -1) => Tb.lrow_lt h
  refine fn_entry (args := [.pointer (some ⟨b, 0, none⟩), .int .i64 lp, .int .i64 rh, .int .i64 rp]) Tryz.func160 rfl Tryz.ntmps160 rfl (fun w0 => ?_)
  refine c_seq ?_
  refine c_region ?_
  refine o_L (y_assign rfl) rfl rfl ?_
  refine o_L (y_assign rfl) rfl rfl ?_
  refine o_nil0 rfl ?_
  refine c_seq ?_
  refine c_region ?_
  refine o_T (y_move rfl) rfl ?_
  refine o_T (y_move rfl) rfl ?_
  refine o_callrv en_159 rfl (t159 _ _ _) (s_take s_nil) rfl ?_
  refine o_L (y_assign rfl) rfl rfl ?_
  refine o_nil0 rfl ?_
  refine c_seq ?_
  refine c_seq ?_
  refine c_region ?_
  refine o_T (y_move rfl) rfl ?_
  refine o_T (y_eql rfl rfl) rfl ?_
  refine o_nil1 18 rfl rfl ?_
  refine c_cond rfl (fun h59 => ?_) (fun h59 => ?_)
  · try simp only [decide_eq_true_eq, decide_eq_false_iff_not, Bool.not_eq_true', Bool.not_eq_false', Int.not_lt, Int.not_le, Decidable.not_not, beq_iff_eq, bne_iff_ne, ne_eq, beq_eq_false_iff_ne] at h59
    refine c_seq ?_
    refine c_region ?_
    refine o_L (y_assign rfl) rfl rfl ?_
    refine o_L (y_assign rfl) rfl rfl ?_
    refine o_nil0 rfl ?_
    refine c_ret ?_
    refine fun aX wX heX hsX => ret2 Tryz.results160 heX rfl rfl (s_take s_nil) ?_
    have e1 : t.child lp rh rp = (0, 21, t) := by unfold Tb.child; rw [if_pos h59]
    rw [e1]
    exact ⟨_, rfl, ok0, rfl, rfl⟩
  · try simp only [decide_eq_true_eq, decide_eq_false_iff_not, Bool.not_eq_true', Bool.not_eq_false', Int.not_lt, Int.not_le, Decidable.not_not, beq_iff_eq, bne_iff_ne, ne_eq, beq_eq_false_iff_ne] at h59
    refine c_skip ?_
    refine c_seq ?_
    refine c_seq ?_
    have v4 := v3 h59
    refine c_region ?_
    refine o_T (y_move rfl) rfl ?_
    refine o_T (y_lss rfl rfl) rfl ?_
    refine o_T (y_move rfl) rfl ?_
    refine o_split 21 rfl (fun h62 => ?_) (fun h62 => ?_)
    · try simp only [decide_eq_true_eq, decide_eq_false_iff_not, Bool.not_eq_true', Bool.not_eq_false', Int.not_lt, Int.not_le, Decidable.not_not, beq_iff_eq, bne_iff_ne, ne_eq, beq_eq_false_iff_ne] at h62
      refine o_pass rfl rfl rfl rfl rfl ?_
      refine o_pass rfl rfl rfl rfl rfl ?_
      refine o_T (y_pickT rfl rfl) rfl ?_
      refine o_nil1 24 rfl rfl ?_
      refine c_condT rfl ?_
      refine c_seq ?_
      refine c_region ?_
      refine o_L (y_assign rfl) rfl rfl ?_
      refine o_L (y_assign rfl) rfl rfl ?_
      refine o_nil0 rfl ?_
      refine c_ret ?_
      refine fun aX wX heX hsX => ret2 Tryz.results160 heX rfl rfl (s_take s_nil) ?_
      have e1 : t.child lp rh rp = (0, 5, t) := by unfold Tb.child; rw [if_neg h59, if_pos (by omega)]
      rw [e1]
      exact ⟨_, rfl, ok0, rfl, rfl⟩
    · try simp only [decide_eq_true_eq, decide_eq_false_iff_not, Bool.not_eq_true', Bool.not_eq_false', Int.not_lt, Int.not_le, Decidable.not_not, beq_iff_eq, bne_iff_ne, ne_eq, beq_eq_false_iff_ne] at h62
      refine o_take rfl rfl rfl ?_
      refine o_T (y_move rfl) rfl ?_
      refine o_take rfl rfl rfl ?_
      refine o_T (y_gtr rfl rfl) rfl ?_
      refine o_T (y_pickF rfl rfl) rfl ?_
      refine o_nil1 24 rfl rfl ?_
      refine c_cond rfl (fun h62_1 => ?_) (fun h62_1 => ?_)
      · try simp only [decide_eq_true_eq, decide_eq_false_iff_not, Bool.not_eq_true', Bool.not_eq_false', Int.not_lt, Int.not_le, Decidable.not_not, beq_iff_eq, bne_iff_ne, ne_eq, beq_eq_false_iff_ne] at h62_1
        refine c_seq ?_
        refine c_region ?_
        refine o_L (y_assign rfl) rfl rfl ?_
        refine o_L (y_assign rfl) rfl rfl ?_
        refine o_nil0 rfl ?_
        refine c_ret ?_
        refine fun aX wX heX hsX => ret2 Tryz.results160 heX rfl rfl (s_take s_nil) ?_
        have e1 : t.child lp rh rp = (0, 5, t) := by unfold Tb.child; rw [if_neg h59, if_pos (by omega)]
        rw [e1]
        exact ⟨_, rfl, ok0, rfl, rfl⟩
      · try simp only [decide_eq_true_eq, decide_eq_false_iff_not, Bool.not_eq_true', Bool.not_eq_false', Int.not_lt, Int.not_le, Decidable.not_not, beq_iff_eq, bne_iff_ne, ne_eq, beq_eq_false_iff_ne] at h62_1
        refine c_skip ?_
        refine c_seq ?_
        refine c_seq ?_
        refine c_region ?_
        refine o_T (y_move rfl) rfl ?_
        refine o_T (y_lss rfl rfl) rfl ?_
        refine o_T (y_move rfl) rfl ?_
        refine o_split 27 rfl (fun h65 => ?_) (fun h65 => ?_)
        · try simp only [decide_eq_true_eq, decide_eq_false_iff_not, Bool.not_eq_true', Bool.not_eq_false', Int.not_lt, Int.not_le, Decidable.not_not, beq_iff_eq, bne_iff_ne, ne_eq, beq_eq_false_iff_ne] at h65
          refine o_pass rfl rfl rfl rfl rfl ?_
          refine o_pass rfl rfl rfl rfl rfl ?_
          refine o_T (y_pickT rfl rfl) rfl ?_
          refine o_nil1 30 rfl rfl ?_
          refine c_condT rfl ?_
          refine c_seq ?_
          refine c_region ?_
          refine o_L (y_assign rfl) rfl rfl ?_
          refine o_L (y_assign rfl) rfl rfl ?_
          refine o_nil0 rfl ?_
          refine c_ret ?_
          refine fun aX wX heX hsX => ret2 Tryz.results160 heX rfl rfl (s_take s_nil) ?_
          have e1 : t.child lp rh rp = (0, 22, t) := by unfold Tb.child; rw [if_neg h59, if_neg (by omega), if_pos (by omega)]
          rw [e1]
          exact ⟨_, rfl, ok0, rfl, rfl⟩
        · try simp only [decide_eq_true_eq, decide_eq_false_iff_not, Bool.not_eq_true', Bool.not_eq_false', Int.not_lt, Int.not_le, Decidable.not_not, beq_iff_eq, bne_iff_ne, ne_eq, beq_eq_false_iff_ne] at h65
          refine o_take rfl rfl rfl ?_
          refine o_T (y_move rfl) rfl ?_
          refine o_take rfl rfl rfl ?_
          refine o_T (y_gtr rfl rfl) rfl ?_
          refine o_T (y_pickF rfl rfl) rfl ?_
          refine o_nil1 30 rfl rfl ?_
          refine c_cond rfl (fun h65_1 => ?_) (fun h65_1 => ?_)
          · try simp only [decide_eq_true_eq, decide_eq_false_iff_not, Bool.not_eq_true', Bool.not_eq_false', Int.not_lt, Int.not_le, Decidable.not_not, beq_iff_eq, bne_iff_ne, ne_eq, beq_eq_false_iff_ne] at h65_1
            refine c_seq ?_
            refine c_region ?_
            refine o_L (y_assign rfl) rfl rfl ?_
            refine o_L (y_assign rfl) rfl rfl ?_
            refine o_nil0 rfl ?_
            refine c_ret ?_
            refine fun aX wX heX hsX => ret2 Tryz.results160 heX rfl rfl (s_take s_nil) ?_
            have e1 : t.child lp rh rp = (0, 22, t) := by unfold Tb.child; rw [if_neg h59, if_neg (by omega), if_pos (by omega)]
            rw [e1]
            exact ⟨_, rfl, ok0, rfl, rfl⟩
          · try simp only [decide_eq_true_eq, decide_eq_false_iff_not, Bool.not_eq_true', Bool.not_eq_false', Int.not_lt, Int.not_le, Decidable.not_not, beq_iff_eq, bne_iff_ne, ne_eq, beq_eq_false_iff_ne] at h65_1
            refine c_skip ?_
            refine c_seq ?_
            refine c_region ?_
            refine o_T (y_move rfl) rfl ?_
            refine o_T (y_move rfl) rfl ?_
            refine o_T (y_move rfl) rfl ?_
            refine o_T (y_move rfl) rfl ?_
            refine o_callrv en_117 rfl (t117 _ _ _ _ _ (by assumption) (by omega) (by omega) (by omega)) (s_take s_nil) rfl ?_
            refine o_L (y_assign rfl) rfl rfl ?_
            refine o_nil0 rfl ?_
            refine c_seq ?_
            refine c_seq ?_
            refine c_region ?_
            refine o_T (y_move rfl) rfl ?_
            refine o_T (y_neq rfl rfl) rfl ?_
            refine o_nil1 37 rfl rfl ?_
            refine c_cond rfl (fun h69 => ?_) (fun h69 => ?_)
            · try simp only [decide_eq_true_eq, decide_eq_false_iff_not, Bool.not_eq_true', Bool.not_eq_false', Int.not_lt, Int.not_le, Decidable.not_not, beq_iff_eq, bne_iff_ne, ne_eq, beq_eq_false_iff_ne] at h69
              refine c_seq ?_
              refine c_region ?_
              refine o_L (y_assign rfl) rfl rfl ?_
              refine o_L (y_assign rfl) rfl rfl ?_
              refine o_nil0 rfl ?_
              refine c_ret ?_
              refine fun aX wX heX hsX => ret2 Tryz.results160 heX rfl rfl (s_take s_nil) ?_
              have e1 : t.child lp rh rp = (0, 23, t) := by unfold Tb.child; rw [if_neg h59, if_neg (by omega), if_neg (by omega), if_pos h69]
              rw [e1]
              exact ⟨_, rfl, ok0, rfl, rfl⟩
            · try simp only [decide_eq_true_eq, decide_eq_false_iff_not, Bool.not_eq_true', Bool.not_eq_false', Int.not_lt, Int.not_le, Decidable.not_not, beq_iff_eq, bne_iff_ne, ne_eq, beq_eq_false_iff_ne] at h69
              refine c_skip ?_
              refine c_seq ?_
              refine c_region ?_
              refine o_T (y_move rfl) rfl ?_
              refine o_callrv en_175 rfl (t175 _ _ (by assumption)) (s_take s_nil) rfl ?_
              refine o_L (y_assign rfl) rfl rfl ?_
              refine o_nil0 rfl ?_
              refine c_seq ?_
              refine c_seq ?_
              refine c_region ?_
              refine o_T (y_move rfl) rfl ?_
              refine o_T (y_move rfl) rfl ?_
              refine o_T (y_nilck rfl) rfl ?_
              refine o_T (y_fa fl_159_0 rfl) rfl ?_
              refine o_T (y_ia ar_157 rfl rfl (by omega) (by omega)) rfl ?_
              refine o_T (y_fa fl_156_3 rfl) rfl ?_
              refine o_ld one_3 rfl m0 (Tb.gr_rows_kids _ (by omega) rfl) rfl ?_
              refine o_T (y_geq rfl rfl) rfl ?_
              refine o_T (y_move rfl) rfl ?_
              refine o_split 48 rfl (fun h73 => ?_) (fun h73 => ?_)
              · try simp only [decide_eq_true_eq, decide_eq_false_iff_not, Bool.not_eq_true', Bool.not_eq_false', Int.not_lt, Int.not_le, Decidable.not_not, beq_iff_eq, bne_iff_ne, ne_eq, beq_eq_false_iff_ne] at h73
                refine o_pass rfl rfl rfl rfl rfl ?_
                refine o_pass rfl rfl rfl rfl rfl ?_
                refine o_T (y_pickT rfl rfl) rfl ?_
                refine o_nil1 51 rfl rfl ?_
                refine c_condT rfl ?_
                refine c_seq ?_
                refine c_region ?_
                refine o_L (y_assign rfl) rfl rfl ?_
                refine o_L (y_assign rfl) rfl rfl ?_
                refine o_nil0 rfl ?_
                refine c_ret ?_
                refine fun aX wX heX hsX => ret2 Tryz.results160 heX rfl rfl (s_take s_nil) ?_
                have e1 : t.child lp rh rp = (0, 11, t) := by unfold Tb.child; rw [if_neg h59, if_neg (by omega), if_neg (by omega), if_neg (not_not_intro h69), if_pos (by omega)]
                rw [e1]
                exact ⟨_, rfl, ok0, rfl, rfl⟩
              · try simp only [decide_eq_true_eq, decide_eq_false_iff_not, Bool.not_eq_true', Bool.not_eq_false', Int.not_lt, Int.not_le, Decidable.not_not, beq_iff_eq, bne_iff_ne, ne_eq, beq_eq_false_iff_ne] at h73
                refine o_take rfl rfl rfl ?_
                refine o_T (y_move rfl) rfl ?_
                refine o_take rfl rfl rfl ?_
                refine o_T (y_eql rfl rfl) rfl ?_
                refine o_T (y_pickF rfl rfl) rfl ?_
                refine o_nil1 51 rfl rfl ?_
                refine c_cond rfl (fun h73_1 => ?_) (fun h73_1 => ?_)
                · try simp only [decide_eq_true_eq, decide_eq_false_iff_not, Bool.not_eq_true', Bool.not_eq_false', Int.not_lt, Int.not_le, Decidable.not_not, beq_iff_eq, bne_iff_ne, ne_eq, beq_eq_false_iff_ne] at h73_1
                  refine c_seq ?_
                  refine c_region ?_
                  refine o_L (y_assign rfl) rfl rfl ?_
                  refine o_L (y_assign rfl) rfl rfl ?_
                  refine o_nil0 rfl ?_
                  refine c_ret ?_
                  refine fun aX wX heX hsX => ret2 Tryz.results160 heX rfl rfl (s_take s_nil) ?_
                  have e1 : t.child lp rh rp = (0, 11, t) := by unfold Tb.child; rw [if_neg h59, if_neg (by omega), if_neg (by omega), if_neg (not_not_intro h69), if_pos (by omega)]
                  rw [e1]
                  exact ⟨_, rfl, ok0, rfl, rfl⟩
                · try simp only [decide_eq_true_eq, decide_eq_false_iff_not, Bool.not_eq_true', Bool.not_eq_false', Int.not_lt, Int.not_le, Decidable.not_not, beq_iff_eq, bne_iff_ne, ne_eq, beq_eq_false_iff_ne] at h73_1
                  refine c_skip ?_
                  refine c_seq ?_
                  refine c_region ?_
                  refine o_T (y_move rfl) rfl ?_
                  refine o_T (y_move rfl) rfl ?_
                  refine o_T (y_move rfl) rfl ?_
                  refine o_T (y_move rfl) rfl ?_
                  refine o_T (y_move rfl) rfl ?_
                  refine o_T (y_move rfl) rfl ?_
                  refine o_T (y_move rfl) rfl ?_
                  refine o_T (y_nilck rfl) rfl ?_
                  refine o_T (y_fa fl_159_0 rfl) rfl ?_
                  refine o_T (y_ia ar_157 rfl rfl (by omega) (by omega)) rfl ?_
                  refine o_T (y_fa fl_156_1 rfl) rfl ?_
                  refine o_T (y_fa fl_66_0 rfl) rfl ?_
                  refine o_ld one_3 rfl m0 (Tb.gr_rows_e_sd _ (by omega) rfl) rfl ?_
                  refine o_call en_177 rfl (t177 _ _ _ _ _ _ _ (by assumption) (by omega) (by omega) (by omega) (by omega) (by omega)) (s_take s_nil) rfl ?_
                  rintro v S' ⟨t_1, ht_1, kt_1, rfl, rfl⟩
                  refine o_L (y_assign rfl) rfl rfl ?_
                  refine o_nil0 rfl ?_
                  refine c_seq ?_
                  refine c_seq ?_
                  refine c_region ?_
                  refine o_T (y_move rfl) rfl ?_
                  refine o_T (y_eql rfl rfl) rfl ?_
                  refine o_nil1 67 rfl rfl ?_
                  refine c_cond rfl (fun h77 => ?_) (fun h77 => ?_)
                  · try simp only [decide_eq_true_eq, decide_eq_false_iff_not, Bool.not_eq_true', Bool.not_eq_false', Int.not_lt, Int.not_le, Decidable.not_not, beq_iff_eq, bne_iff_ne, ne_eq, beq_eq_false_iff_ne] at h77
                    refine c_seq ?_
                    refine c_region ?_
                    refine o_L (y_assign rfl) rfl rfl ?_
                    refine o_L (y_assign rfl) rfl rfl ?_
                    refine o_nil0 rfl ?_
                    refine c_ret ?_
                    refine fun aX wX heX hsX => ret2 Tryz.results160 heX rfl rfl (s_take s_nil) ?_
                    have e1 : t.child lp rh rp = (0, 11, (t.conn lp rh rp t.low (t.rows (t.lrow lp).toNat).e.sd).2) := by unfold Tb.child; rw [if_neg h59, if_neg (by omega), if_neg (by omega), if_neg (not_not_intro h69), if_neg (by omega), if_pos h77]
                    rw [e1]
                    subst ht_1
                    exact ⟨_, rfl, by assumption, rfl, rfl⟩
                  · try simp only [decide_eq_true_eq, decide_eq_false_iff_not, Bool.not_eq_true', Bool.not_eq_false', Int.not_lt, Int.not_le, Decidable.not_not, beq_iff_eq, bne_iff_ne, ne_eq, beq_eq_false_iff_ne] at h77
                    refine c_skip ?_
                    refine c_seq ?_
                    have hkk : (t_1.rows (t.lrow lp).toNat).kids = (t.rows (t.lrow lp).toNat).kids := by rw [ht_1]; exact Tb.conn_kids h77 q1.1 (by have := h6 h59; omega) (by omega)
                    refine c_draw #[true, true, true, true, true, true, true, true, true, true, true, true, false] rfl (n := 13) rfl ?_
                    refine d_T 0 rfl (by kernel_rfl) rfl (y_move rfl) rfl ?_
                    refine d_T 1 rfl (by kernel_rfl) rfl (y_move rfl) rfl ?_
                    refine d_T 2 rfl (by kernel_rfl) rfl (y_nilck rfl) rfl ?_
                    refine d_T 3 rfl (by kernel_rfl) rfl (y_fa fl_159_0 rfl) rfl ?_
                    refine d_T 4 rfl (by kernel_rfl) rfl (y_ia ar_157 rfl rfl (by omega) (by omega)) rfl ?_
                    refine d_T 5 rfl (by kernel_rfl) rfl (y_fa fl_156_3 rfl) rfl ?_
                    refine d_ld 6 rfl (by kernel_rfl) one_3 rfl (fun x hx => hx) m0 (Tb.gr_rows_kids _ (by omega) rfl) rfl ?_
                    refine d_T 7 rfl (by kernel_rfl) rfl (y_add rfl rfl (w64 (by omega))) rfl ?_
                    refine d_T 8 rfl (by kernel_rfl) rfl (y_nilck rfl) rfl ?_
                    refine d_T 9 rfl (by kernel_rfl) rfl (y_fa fl_159_0 rfl) rfl ?_
                    refine d_T 10 rfl (by kernel_rfl) rfl (y_ia ar_157 rfl rfl (by omega) (by omega)) rfl ?_
                    refine d_T 11 rfl (by kernel_rfl) rfl (y_fa fl_156_3 rfl) rfl ?_
                    refine d_hard 12 rfl (by kernel_rfl) ?_
                    refine o_st one_3 rfl rfl rfl r0 (Tb.sr_rows_kids _ (by omega) rfl) (by simp only [Tb.size]; omega) ?_
                    refine o_stop (fun h => nomatch h) ?_
                    refine d_nil0 (by kernel_rfl) rfl ?_
                    refine c_seq ?_
                    refine c_region ?_
                    refine o_T (y_move rfl) rfl ?_
                    refine o_L (y_assign rfl) rfl rfl ?_
                    refine o_L (y_assign rfl) rfl rfl ?_
                    refine o_nil0 rfl ?_
                    refine c_ret ?_
                    refine fun aX wX heX hsX => ret2 Tryz.results160 heX rfl rfl (s_take s_nil) ?_
                    have e1 : t.child lp rh rp = ((t.conn lp rh rp t.low (t.rows (t.lrow lp).toNat).e.sd).1, 0, (t.conn lp rh rp t.low (t.rows (t.lrow lp).toNat).e.sd).2.childT (t.lrow lp)) := by unfold Tb.child; rw [if_neg h59, if_neg (by omega), if_neg (by omega), if_neg (not_not_intro h69), if_neg (by omega), if_neg h77]
                    rw [e1]
                    have okF := Tb.ok_kidp kt_1 (t.lrow lp) (by rw [hkk]; omega)
                    subst ht_1
                    exact ⟨_, rfl, okF, rfl, rfl⟩

/-- (*e2e/sock.Table).Ready -/
theorem t158 (b : Nat) (t : Tb) (sd : Int) (ok : t.Ok) (hn : (t.rows (t.lrow (t.rows (t.find sd).toNat).e.lPort).toNat).n < 2) : Trip Tryz.prog 158 #[.pointer (some ⟨b, 0, none⟩), .int .i64 sd] [[(b, .cells t.enc 159 (0, 0))]] (fun u S' => ∃ t' : Tb, t' = (t.ready sd).2 ∧ t'.Ok ∧ u = .int .i64 (t.ready sd).1 ∧ S' = [[(b, .cells (t').enc 159 (0, 0))]]) := by
  have ok0 := ok
  obtain ⟨q1, q2, q3, q4, q5, q6, q7, q8, q9, q10, q11, q12⟩ := ok
  have fb := t.find_b sd
  have v1 := Tb.lrow_b ok0 (t.rows (t.find sd).toNat).e.lPort
  refine fn_entry (args := [.pointer (some ⟨b, 0, none⟩), .int .i64 sd]) Tryz.func158 rfl Tryz.ntmps158 rfl (fun w0 => ?_)
  refine c_seq ?_
  refine c_region ?_
  refine o_L (y_assign rfl) rfl rfl ?_
  refine o_nil0 rfl ?_
  refine c_seq ?_
  refine c_region ?_
  refine o_T (y_move rfl) rfl ?_
  refine o_T (y_move rfl) rfl ?_
  refine o_callrv en_106 rfl (t106 _ _ _) (s_take s_nil) rfl ?_
  refine o_L (y_assign rfl) rfl rfl ?_
  refine o_nil0 rfl ?_
  refine c_seq ?_
  refine c_seq ?_
  refine c_region ?_
  refine o_T (y_move rfl) rfl ?_
  refine o_T (y_eql rfl rfl) rfl ?_
  refine o_T (y_move rfl) rfl ?_
  refine o_split 12 rfl (fun h87 => ?_) (fun h87 => ?_)
  · try simp only [decide_eq_true_eq, decide_eq_false_iff_not, Bool.not_eq_true', Bool.not_eq_false', Int.not_lt, Int.not_le, Decidable.not_not, beq_iff_eq, bne_iff_ne, ne_eq, beq_eq_false_iff_ne] at h87
    refine o_pass rfl rfl rfl rfl rfl ?_
    refine o_pass rfl rfl rfl rfl rfl ?_
    refine o_pass rfl rfl rfl rfl rfl ?_
    refine o_pass rfl rfl rfl rfl rfl ?_
    refine o_pass rfl rfl rfl rfl rfl ?_
    refine o_pass rfl rfl rfl rfl rfl ?_
    refine o_pass rfl rfl rfl rfl rfl ?_
    refine o_pass rfl rfl rfl rfl rfl ?_
    refine o_pass rfl rfl rfl rfl rfl ?_
    refine o_T (y_pickT rfl rfl) rfl ?_
    refine o_nil1 22 rfl rfl ?_
    refine c_condT rfl ?_
    refine c_seq ?_
    refine c_region ?_
    refine o_L (y_assign rfl) rfl rfl ?_
    refine o_nil0 rfl ?_
    refine c_ret ?_
    refine fun aX wX heX hsX => ret1 Tryz.results158 heX rfl (s_take s_nil) ?_
    have e1 : t.ready sd = (21, t) := by unfold Tb.ready; rw [if_pos (by omega)]
    rw [e1]
    exact ⟨_, rfl, ok0, rfl, rfl⟩
  · try simp only [decide_eq_true_eq, decide_eq_false_iff_not, Bool.not_eq_true', Bool.not_eq_false', Int.not_lt, Int.not_le, Decidable.not_not, beq_iff_eq, bne_iff_ne, ne_eq, beq_eq_false_iff_ne] at h87
    refine o_take rfl rfl rfl ?_
    refine o_T (y_move rfl) rfl ?_
    refine o_take rfl rfl rfl ?_
    refine o_T (y_move rfl) rfl ?_
    refine o_take rfl rfl rfl ?_
    refine o_T (y_nilck rfl) rfl ?_
    refine o_take rfl rfl rfl ?_
    refine o_T (y_fa fl_159_0 rfl) rfl ?_
    refine o_take rfl rfl rfl ?_
    refine o_T (y_ia ar_157 rfl rfl (by omega) (by omega)) rfl ?_
    refine o_take rfl rfl rfl ?_
    refine o_T (y_fa fl_156_1 rfl) rfl ?_
    refine o_take rfl rfl rfl ?_
    refine o_T (y_fa fl_66_6 rfl) rfl ?_
    refine o_take rfl rfl rfl ?_
    refine o_ld one_3 rfl m0 (Tb.gr_rows_e_parent _ (by omega) rfl) rfl ?_
    refine o_take rfl rfl rfl ?_
    refine o_T (y_eql rfl rfl) rfl ?_
    refine o_T (y_pickF rfl rfl) rfl ?_
    refine o_nil1 22 rfl rfl ?_
    refine c_cond rfl (fun h87_1 => ?_) (fun h87_1 => ?_)
    · try simp only [decide_eq_true_eq, decide_eq_false_iff_not, Bool.not_eq_true', Bool.not_eq_false', Int.not_lt, Int.not_le, Decidable.not_not, beq_iff_eq, bne_iff_ne, ne_eq, beq_eq_false_iff_ne] at h87_1
      refine c_seq ?_
      refine c_region ?_
      refine o_L (y_assign rfl) rfl rfl ?_
      refine o_nil0 rfl ?_
      refine c_ret ?_
      refine fun aX wX heX hsX => ret1 Tryz.results158 heX rfl (s_take s_nil) ?_
      have e1 : t.ready sd = (21, t) := by unfold Tb.ready; rw [if_pos (by omega)]
      rw [e1]
      exact ⟨_, rfl, ok0, rfl, rfl⟩
    · try simp only [decide_eq_true_eq, decide_eq_false_iff_not, Bool.not_eq_true', Bool.not_eq_false', Int.not_lt, Int.not_le, Decidable.not_not, beq_iff_eq, bne_iff_ne, ne_eq, beq_eq_false_iff_ne] at h87_1
      refine c_skip ?_
      refine c_seq ?_
      refine c_seq ?_
      refine c_region ?_
      refine o_T (y_move rfl) rfl ?_
      refine o_T (y_move rfl) rfl ?_
      refine o_T (y_nilck rfl) rfl ?_
      refine o_T (y_fa fl_159_0 rfl) rfl ?_
      refine o_T (y_ia ar_157 rfl rfl (by omega) (by omega)) rfl ?_
      refine o_T (y_fa fl_156_1 rfl) rfl ?_
      refine o_T (y_fa fl_66_7 rfl) rfl ?_
      refine o_ld one_4 rfl m0 (Tb.gr_rows_e_ready _ (by omega) rfl) rfl ?_
      refine o_nil1 30 rfl rfl ?_
      refine c_cond rfl (fun h90 => ?_) (fun h90 => ?_)
      · try simp only [decide_eq_true_eq, decide_eq_false_iff_not, Bool.not_eq_true', Bool.not_eq_false', Int.not_lt, Int.not_le, Decidable.not_not, beq_iff_eq, bne_iff_ne, ne_eq, beq_eq_false_iff_ne] at h90
        refine c_seq ?_
        refine c_region ?_
        refine o_L (y_assign rfl) rfl rfl ?_
        refine o_nil0 rfl ?_
        refine c_ret ?_
        refine fun aX wX heX hsX => ret1 Tryz.results158 heX rfl (s_take s_nil) ?_
        have e1 : t.ready sd = (13, t) := by unfold Tb.ready; rw [if_neg (by omega), if_pos h90]
        rw [e1]
        exact ⟨_, rfl, ok0, rfl, rfl⟩
      · try simp only [decide_eq_true_eq, decide_eq_false_iff_not, Bool.not_eq_true', Bool.not_eq_false', Int.not_lt, Int.not_le, Decidable.not_not, beq_iff_eq, bne_iff_ne, ne_eq, beq_eq_false_iff_ne] at h90
        refine c_skip ?_
        refine c_seq ?_
        refine c_region ?_
        refine o_T (y_move rfl) rfl ?_
        refine o_T (y_move rfl) rfl ?_
        refine o_T (y_move rfl) rfl ?_
        refine o_T (y_nilck rfl) rfl ?_
        refine o_T (y_fa fl_159_0 rfl) rfl ?_
        refine o_T (y_ia ar_157 rfl rfl (by omega) (by omega)) rfl ?_
        refine o_T (y_fa fl_156_1 rfl) rfl ?_
        refine o_T (y_fa fl_66_2 rfl) rfl ?_
        refine o_ld one_3 rfl m0 (Tb.gr_rows_e_lPort _ (by omega) rfl) rfl ?_
        refine o_callrv en_159 rfl (t159 _ _ _) (s_take s_nil) rfl ?_
        refine o_L (y_assign rfl) rfl rfl ?_
        refine o_nil0 rfl ?_
        refine c_seq ?_
        refine c_seq ?_
        refine c_region ?_
        refine o_T (y_move rfl) rfl ?_
        refine o_T (y_eql rfl rfl) rfl ?_
        refine o_nil1 42 rfl rfl ?_
        refine c_cond rfl (fun h94 => ?_) (fun h94 => ?_)
        · try simp only [decide_eq_true_eq, decide_eq_false_iff_not, Bool.not_eq_true', Bool.not_eq_false', Int.not_lt, Int.not_le, Decidable.not_not, beq_iff_eq, bne_iff_ne, ne_eq, beq_eq_false_iff_ne] at h94
          refine c_seq ?_
          refine c_region ?_
          refine o_L (y_assign rfl) rfl rfl ?_
          refine o_nil0 rfl ?_
          refine c_ret ?_
          refine fun aX wX heX hsX => ret1 Tryz.results158 heX rfl (s_take s_nil) ?_
          have e1 : t.ready sd = (21, t) := by unfold Tb.ready; rw [if_neg (by omega), if_neg (by rw [h90]; decide), if_pos h94]
          rw [e1]
          exact ⟨_, rfl, ok0, rfl, rfl⟩
        · try simp only [decide_eq_true_eq, decide_eq_false_iff_not, Bool.not_eq_true', Bool.not_eq_false', Int.not_lt, Int.not_le, Decidable.not_not, beq_iff_eq, bne_iff_ne, ne_eq, beq_eq_false_iff_ne] at h94
          refine c_skip ?_
          refine c_seq ?_
          refine c_region ?_
          refine o_T (y_move rfl) rfl ?_
          refine o_T (y_move rfl) rfl ?_
          refine o_T (y_nilck rfl) rfl ?_
          refine o_T (y_fa fl_159_0 rfl) rfl ?_
          refine o_T (y_ia ar_157 rfl rfl (by omega) (by omega)) rfl ?_
          refine o_T (y_fa fl_156_1 rfl) rfl ?_
          refine o_T (y_fa fl_66_7 rfl) rfl ?_
          refine o_st one_4 rfl rfl rfl r0 (Tb.sr_rows_e_ready _ (by omega) rfl) (by simp only [Tb.size]; omega) ?_
          refine o_nil0 rfl ?_
          refine c_seq ?_
          have okR := Tb.ok_setReady ok0 (t.find sd)
          have hn2 : ((t.setReady (t.find sd)).rows (t.lrow (t.rows (t.find sd).toNat).e.lPort).toNat).n < 2 := by rw [Tb.setReady_n]; exact hn
          refine c_row (g' := [(b, .cells (t.setReady (t.find sd)).enc 159 (0, 0))]) q0 rfl ?_
          refine c_region ?_
          refine o_T (y_move rfl) rfl ?_
          refine o_T (y_move rfl) rfl ?_
          refine o_T (y_move rfl) rfl ?_
          refine o_call en_196 rfl (t196 _ _ _ _ (by assumption) (by omega) (by omega)) (s_take s_nil) rfl ?_
          rintro v S' ⟨t_1, ht_1, kt_1, rfl, rfl⟩
          refine o_nil0 rfl ?_
          refine c_seq ?_
          refine c_region ?_
          refine o_L (y_assign rfl) rfl rfl ?_
          refine o_nil0 rfl ?_
          refine c_ret ?_
          refine fun aX wX heX hsX => ret1 Tryz.results158 heX rfl (s_take s_nil) ?_
          have e1 : t.ready sd = (0, (t.setReady (t.find sd)).enqueue (t.lrow (t.rows (t.find sd).toNat).e.lPort) sd) := by unfold Tb.ready; rw [if_neg (by omega), if_neg (by rw [h90]; decide), if_neg h94]
          rw [e1]
          subst ht_1
          exact ⟨_, rfl, by assumption, rfl, rfl⟩

/-- (*e2e/sock.Table).Accept -/
theorem t132 (b : Nat) (t : Tb) (lsd : Int) (ok : t.Ok) (hk : -998 ≤ (t.rows (t.find lsd).toNat).kids) : Trip Tryz.prog 132 #[.pointer (some ⟨b, 0, none⟩), .int .i64 lsd] [[(b, .cells t.enc 159 (0, 0))]] (fun u S' => ∃ t' : Tb, t' = (t.accept lsd).2.2 ∧ t'.Ok ∧ u = .tuple #[.int .i64 (t.accept lsd).1, .int .i64 (t.accept lsd).2.1] ∧ S' = [[(b, .cells (t').enc 159 (0, 0))]]) := by
  have ok0 := ok
  obtain ⟨q1, q2, q3, q4, q5, q6, q7, q8, q9, q10, q11, q12⟩ := ok
  have fb := t.find_b lsd
  have v0 := q9 (t.find lsd).toNat
  refine fn_entry (args := [.pointer (some ⟨b, 0, none⟩), .int .i64 lsd]) Tryz.func132 rfl Tryz.ntmps132 rfl (fun w0 => ?_)
  refine c_seq ?_
  refine c_region ?_
  refine o_L (y_assign rfl) rfl rfl ?_
  refine o_L (y_assign rfl) rfl rfl ?_
  refine o_nil0 rfl ?_
  refine c_seq ?_
  refine c_region ?_
  refine o_T (y_move rfl) rfl ?_
  refine o_T (y_move rfl) rfl ?_
  refine o_callrv en_106 rfl (t106 _ _ _) (s_take s_nil) rfl ?_
  refine o_L (y_assign rfl) rfl rfl ?_
  refine o_nil0 rfl ?_
  refine c_seq ?_
  refine c_seq ?_
  refine c_region ?_
  refine o_T (y_move rfl) rfl ?_
  refine o_T (y_eql rfl rfl) rfl ?_
  refine o_T (y_move rfl) rfl ?_
  refine o_split 14 rfl (fun h105 => ?_) (fun h105 => ?_)
  · try simp only [decide_eq_true_eq, decide_eq_false_iff_not, Bool.not_eq_true', Bool.not_eq_false', Int.not_lt, Int.not_le, Decidable.not_not, beq_iff_eq, bne_iff_ne, ne_eq, beq_eq_false_iff_ne] at h105
    refine o_pass rfl rfl rfl rfl rfl ?_
    refine o_pass rfl rfl rfl rfl rfl ?_
    refine o_pass rfl rfl rfl rfl rfl ?_
    refine o_pass rfl rfl rfl rfl rfl ?_
    refine o_pass rfl rfl rfl rfl rfl ?_
    refine o_pass rfl rfl rfl rfl rfl ?_
    refine o_pass rfl rfl rfl rfl rfl ?_
    refine o_pass rfl rfl rfl rfl rfl ?_
    refine o_pass rfl rfl rfl rfl rfl ?_
    refine o_T (y_pickT rfl rfl) rfl ?_
    refine o_nil1 24 rfl rfl ?_
    refine c_condT rfl ?_
    refine c_seq ?_
    refine c_region ?_
    refine o_L (y_assign rfl) rfl rfl ?_
    refine o_L (y_assign rfl) rfl rfl ?_
    refine o_nil0 rfl ?_
    refine c_ret ?_
    refine fun aX wX heX hsX => ret2 Tryz.results132 heX rfl rfl (s_take s_nil) ?_
    have e1 : t.accept lsd = (0, 21, t) := by unfold Tb.accept; rw [if_pos (by omega)]
    rw [e1]
    exact ⟨_, rfl, ok0, rfl, rfl⟩
  · try simp only [decide_eq_true_eq, decide_eq_false_iff_not, Bool.not_eq_true', Bool.not_eq_false', Int.not_lt, Int.not_le, Decidable.not_not, beq_iff_eq, bne_iff_ne, ne_eq, beq_eq_false_iff_ne] at h105
    refine o_take rfl rfl rfl ?_
    refine o_T (y_move rfl) rfl ?_
    refine o_take rfl rfl rfl ?_
    refine o_T (y_move rfl) rfl ?_
    refine o_take rfl rfl rfl ?_
    refine o_T (y_nilck rfl) rfl ?_
    refine o_take rfl rfl rfl ?_
    refine o_T (y_fa fl_159_0 rfl) rfl ?_
    refine o_take rfl rfl rfl ?_
    refine o_T (y_ia ar_157 rfl rfl (by omega) (by omega)) rfl ?_
    refine o_take rfl rfl rfl ?_
    refine o_T (y_fa fl_156_1 rfl) rfl ?_
    refine o_take rfl rfl rfl ?_
    refine o_T (y_fa fl_66_1 rfl) rfl ?_
    refine o_take rfl rfl rfl ?_
    refine o_ld one_3 rfl m0 (Tb.gr_rows_e_kind _ (by omega) rfl) rfl ?_
    refine o_take rfl rfl rfl ?_
    refine o_T (y_neq rfl rfl) rfl ?_
    refine o_T (y_pickF rfl rfl) rfl ?_
    refine o_nil1 24 rfl rfl ?_
    refine c_cond rfl (fun h105_1 => ?_) (fun h105_1 => ?_)
    · try simp only [decide_eq_true_eq, decide_eq_false_iff_not, Bool.not_eq_true', Bool.not_eq_false', Int.not_lt, Int.not_le, Decidable.not_not, beq_iff_eq, bne_iff_ne, ne_eq, beq_eq_false_iff_ne] at h105_1
      refine c_seq ?_
      refine c_region ?_
      refine o_L (y_assign rfl) rfl rfl ?_
      refine o_L (y_assign rfl) rfl rfl ?_
      refine o_nil0 rfl ?_
      refine c_ret ?_
      refine fun aX wX heX hsX => ret2 Tryz.results132 heX rfl rfl (s_take s_nil) ?_
      have e1 : t.accept lsd = (0, 21, t) := by unfold Tb.accept; rw [if_pos (by omega)]
      rw [e1]
      exact ⟨_, rfl, ok0, rfl, rfl⟩
    · try simp only [decide_eq_true_eq, decide_eq_false_iff_not, Bool.not_eq_true', Bool.not_eq_false', Int.not_lt, Int.not_le, Decidable.not_not, beq_iff_eq, bne_iff_ne, ne_eq, beq_eq_false_iff_ne] at h105_1
      refine c_skip ?_
      refine c_seq ?_
      refine c_seq ?_
      refine c_region ?_
      refine o_T (y_move rfl) rfl ?_
      refine o_T (y_move rfl) rfl ?_
      refine o_T (y_nilck rfl) rfl ?_
      refine o_T (y_fa fl_159_0 rfl) rfl ?_
      refine o_T (y_ia ar_157 rfl rfl (by omega) (by omega)) rfl ?_
      refine o_T (y_fa fl_156_6 rfl) rfl ?_
      refine o_ld one_3 rfl m0 (Tb.gr_rows_n _ (by omega) rfl) rfl ?_
      refine o_T (y_eql rfl rfl) rfl ?_
      refine o_nil1 32 rfl rfl ?_
      refine c_cond rfl (fun h108 => ?_) (fun h108 => ?_)
      · try simp only [decide_eq_true_eq, decide_eq_false_iff_not, Bool.not_eq_true', Bool.not_eq_false', Int.not_lt, Int.not_le, Decidable.not_not, beq_iff_eq, bne_iff_ne, ne_eq, beq_eq_false_iff_ne] at h108
        refine c_seq ?_
        refine c_region ?_
        refine o_L (y_assign rfl) rfl rfl ?_
        refine o_L (y_assign rfl) rfl rfl ?_
        refine o_nil0 rfl ?_
        refine c_ret ?_
        refine fun aX wX heX hsX => ret2 Tryz.results132 heX rfl rfl (s_take s_nil) ?_
        have e1 : t.accept lsd = (0, 14, t) := by unfold Tb.accept; rw [if_neg (by omega), if_pos h108]
        rw [e1]
        exact ⟨_, rfl, ok0, rfl, rfl⟩
      · try simp only [decide_eq_true_eq, decide_eq_false_iff_not, Bool.not_eq_true', Bool.not_eq_false', Int.not_lt, Int.not_le, Decidable.not_not, beq_iff_eq, bne_iff_ne, ne_eq, beq_eq_false_iff_ne] at h108
        refine c_skip ?_
        refine c_seq ?_
        refine c_region ?_
        refine o_T (y_move rfl) rfl ?_
        refine o_T (y_move rfl) rfl ?_
        refine o_call en_180 rfl (t180 _ _ _ (by assumption) (by omega) (by omega)) (s_take s_nil) rfl ?_
        rintro v S' ⟨t_1, ht_1, kt_1, rfl, rfl⟩
        refine o_L (y_assign rfl) rfl rfl ?_
        refine o_nil0 rfl ?_
        refine c_seq ?_
        have v2 : (t_1.rows (t.find lsd).toNat).kids = (t.rows (t.find lsd).toNat).kids := by rw [ht_1]; simp [Tb.dequeue, upA_at]
        have v3 := q7 (t.find lsd).toNat
        refine c_draw #[true, true, true, true, true, true, true, true, true, true, true, true, false] rfl (n := 13) rfl ?_
        refine d_T 0 rfl (by kernel_rfl) rfl (y_move rfl) rfl ?_
        refine d_T 1 rfl (by kernel_rfl) rfl (y_move rfl) rfl ?_
        refine d_T 2 rfl (by kernel_rfl) rfl (y_nilck rfl) rfl ?_
        refine d_T 3 rfl (by kernel_rfl) rfl (y_fa fl_159_0 rfl) rfl ?_
        refine d_T 4 rfl (by kernel_rfl) rfl (y_ia ar_157 rfl rfl (by omega) (by omega)) rfl ?_
        refine d_T 5 rfl (by kernel_rfl) rfl (y_fa fl_156_3 rfl) rfl ?_
        refine d_ld 6 rfl (by kernel_rfl) one_3 rfl (fun x hx => hx) m0 (Tb.gr_rows_kids _ (by omega) rfl) rfl ?_
        refine d_T 7 rfl (by kernel_rfl) rfl (y_sub rfl rfl (w64 (by omega))) rfl ?_
        refine d_T 8 rfl (by kernel_rfl) rfl (y_nilck rfl) rfl ?_
        refine d_T 9 rfl (by kernel_rfl) rfl (y_fa fl_159_0 rfl) rfl ?_
        refine d_T 10 rfl (by kernel_rfl) rfl (y_ia ar_157 rfl rfl (by omega) (by omega)) rfl ?_
        refine d_T 11 rfl (by kernel_rfl) rfl (y_fa fl_156_3 rfl) rfl ?_
        refine d_hard 12 rfl (by kernel_rfl) ?_
        refine o_st one_3 rfl rfl rfl r0 (Tb.sr_rows_kids _ (by omega) rfl) (by simp only [Tb.size]; omega) ?_
        refine o_stop (fun h => nomatch h) ?_
        refine d_nil0 (by kernel_rfl) rfl ?_
        refine c_seq ?_
        have okW : (t_1.lessKid (t.find lsd)).Ok := Tb.ok_kid kt_1 (t.find lsd) (by omega)
        refine c_row (g' := [(b, .cells (t_1.lessKid (t.find lsd)).enc 159 (0, 0))]) q0 rfl ?_
        have fb2 := (t_1.lessKid (t.find lsd)).find_b (t.dequeue (t.find lsd)).1
        rw [ht_1] at okW
        refine c_region ?_
        refine o_T (y_move rfl) rfl ?_
        refine o_T (y_move rfl) rfl ?_
        refine o_callrv en_106 rfl (t106 _ _ _) (s_take s_nil) rfl ?_
        refine o_L (y_assign rfl) rfl rfl ?_
        refine o_nil0 rfl ?_
        refine c_seq ?_
        refine c_seq ?_
        refine c_region ?_
        refine o_T (y_move rfl) rfl ?_
        refine o_T (y_neq rfl rfl) rfl ?_
        refine o_nil1 52 rfl rfl ?_
        refine c_cond rfl (fun h114 => ?_) (fun h114 => ?_)
        · try simp only [decide_eq_true_eq, decide_eq_false_iff_not, Bool.not_eq_true', Bool.not_eq_false', Int.not_lt, Int.not_le, Decidable.not_not, beq_iff_eq, bne_iff_ne, ne_eq, beq_eq_false_iff_ne] at h114
          refine c_seq ?_
          refine c_region ?_
          refine o_T (y_move rfl) rfl ?_
          refine o_T (y_move rfl) rfl ?_
          refine o_T (y_nilck rfl) rfl ?_
          refine o_T (y_fa fl_159_0 rfl) rfl ?_
          refine o_T (y_ia ar_157 rfl rfl (by omega) (by omega)) rfl ?_
          refine o_T (y_fa fl_156_1 rfl) rfl ?_
          refine o_T (y_fa fl_66_6 rfl) rfl ?_
          refine o_st one_3 rfl rfl rfl r0 (Tb.sr_rows_e_parent _ (by omega) rfl) (by simp only [Tb.size]; omega) ?_
          refine o_nil0 rfl ?_
          refine c_region ?_
          refine o_T (y_move rfl) rfl ?_
          refine o_T (y_move rfl) rfl ?_
          refine o_T (y_nilck rfl) rfl ?_
          refine o_T (y_fa fl_159_0 rfl) rfl ?_
          refine o_T (y_ia ar_157 rfl rfl (by omega) (by omega)) rfl ?_
          refine o_T (y_fa fl_156_1 rfl) rfl ?_
          refine o_T (y_fa fl_66_7 rfl) rfl ?_
          refine o_st one_4 rfl rfl rfl r0 (Tb.sr_rows_e_ready _ (by omega) rfl) (by simp only [Tb.size]; omega) ?_
          refine o_nil0 rfl ?_
          refine c_seq ?_
          refine c_region ?_
          refine o_T (y_move rfl) rfl ?_
          refine o_L (y_assign rfl) rfl rfl ?_
          refine o_L (y_assign rfl) rfl rfl ?_
          refine o_nil0 rfl ?_
          refine c_ret ?_
          refine fun aX wX heX hsX => ret2 Tryz.results132 heX rfl rfl (s_take s_nil) ?_
          have e1 : t.accept lsd = ((t.dequeue (t.find lsd)).1, 0, ((t.dequeue (t.find lsd)).2.lessKid (t.find lsd)).own (((t.dequeue (t.find lsd)).2.lessKid (t.find lsd)).find (t.dequeue (t.find lsd)).1)) := by unfold Tb.accept; rw [if_neg (by omega), if_neg h108, if_neg (by rw [← ht_1]; exact h114)]
          rw [e1]
          have okF := Tb.ok_own okW (((t.dequeue (t.find lsd)).2.lessKid (t.find lsd)).find (t.dequeue (t.find lsd)).1)
          rw [← ht_1] at okF ⊢
          exact ⟨_, rfl, okF, rfl, by simp only [Tb.own, upA_upA, upA_at]⟩
        · try simp only [decide_eq_true_eq, decide_eq_false_iff_not, Bool.not_eq_true', Bool.not_eq_false', Int.not_lt, Int.not_le, Decidable.not_not, beq_iff_eq, bne_iff_ne, ne_eq, beq_eq_false_iff_ne] at h114
          refine c_skip ?_
          refine c_seq ?_
          refine c_region ?_
          refine o_T (y_move rfl) rfl ?_
          refine o_L (y_assign rfl) rfl rfl ?_
          refine o_L (y_assign rfl) rfl rfl ?_
          refine o_nil0 rfl ?_
          refine c_ret ?_
          refine fun aX wX heX hsX => ret2 Tryz.results132 heX rfl rfl (s_take s_nil) ?_
          have e1 : t.accept lsd = ((t.dequeue (t.find lsd)).1, 0, ((t.dequeue (t.find lsd)).2.lessKid (t.find lsd))) := by unfold Tb.accept; rw [if_neg (by omega), if_neg h108, if_pos (by rw [← ht_1]; exact h114)]
          rw [e1]
          rw [← ht_1] at okW ⊢
          exact ⟨_, rfl, okW, rfl, rfl⟩

/-- (*e2e/sock.Table).Listener -/
theorem t119 (b : Nat) (t : Tb) (p : Int) (ok : t.Ok) : Trip Tryz.prog 119 #[.pointer (some ⟨b, 0, none⟩), .int .i64 p] [[(b, .cells t.enc 159 (0, 0))]] (fun u S' => u = .int .i64 (t.lis p) ∧ S' = [[(b, .cells t.enc 159 (0, 0))]]) := by
  have ok0 := ok
  obtain ⟨q1, q2, q3, q4, q5, q6, q7, q8, q9, q10, q11, q12⟩ := ok
  have v1 := Tb.lrow_b ok0 p
  refine fn_entry (args := [.pointer (some ⟨b, 0, none⟩), .int .i64 p]) Tryz.func119 rfl Tryz.ntmps119 rfl (fun w0 => ?_)
  refine c_seq ?_
  refine c_region ?_
  refine o_L (y_assign rfl) rfl rfl ?_
  refine o_nil0 rfl ?_
  refine c_seq ?_
  refine c_region ?_
  refine o_T (y_move rfl) rfl ?_
  refine o_T (y_move rfl) rfl ?_
  refine o_callrv en_159 rfl (t159 _ _ _) (s_take s_nil) rfl ?_
  refine o_L (y_assign rfl) rfl rfl ?_
  refine o_nil0 rfl ?_
  refine c_seq ?_
  refine c_seq ?_
  refine c_region ?_
  refine o_T (y_move rfl) rfl ?_
  refine o_T (y_eql rfl rfl) rfl ?_
  refine o_nil1 10 rfl rfl ?_
  refine c_cond rfl (fun h176 => ?_) (fun h176 => ?_)
  · try simp only [decide_eq_true_eq, decide_eq_false_iff_not, Bool.not_eq_true', Bool.not_eq_false', Int.not_lt, Int.not_le, Decidable.not_not, beq_iff_eq, bne_iff_ne, ne_eq, beq_eq_false_iff_ne] at h176
    refine c_seq ?_
    refine c_region ?_
    refine o_L (y_assign rfl) rfl rfl ?_
    refine o_nil0 rfl ?_
    refine c_ret ?_
    refine fun aX wX heX hsX => ret1 Tryz.results119 heX rfl (s_take s_nil) ?_
    exact ⟨congrArg (Value.int .i64) (by unfold Tb.lis; rw [if_pos h176]), rfl⟩
  · try simp only [decide_eq_true_eq, decide_eq_false_iff_not, Bool.not_eq_true', Bool.not_eq_false', Int.not_lt, Int.not_le, Decidable.not_not, beq_iff_eq, bne_iff_ne, ne_eq, beq_eq_false_iff_ne] at h176
    refine c_skip ?_
    refine c_seq ?_
    refine c_region ?_
    refine o_T (y_move rfl) rfl ?_
    refine o_T (y_move rfl) rfl ?_
    refine o_T (y_nilck rfl) rfl ?_
    refine o_T (y_fa fl_159_0 rfl) rfl ?_
    refine o_T (y_ia ar_157 rfl rfl (by omega) (by omega)) rfl ?_
    refine o_T (y_fa fl_156_1 rfl) rfl ?_
    refine o_T (y_fa fl_66_0 rfl) rfl ?_
    refine o_ld one_3 rfl m0 (Tb.gr_rows_e_sd _ (by omega) rfl) rfl ?_
    refine o_L (y_assign rfl) rfl rfl ?_
    refine o_nil0 rfl ?_
    refine c_ret ?_
    refine fun aX wX heX hsX => ret1 Tryz.results119 heX rfl (s_take s_nil) ?_
    exact ⟨congrArg (Value.int .i64) (by unfold Tb.lis; rw [if_neg h176]), rfl⟩

/-- (*e2e/sock.Table).Get -/
theorem t66 (b : Nat) (t : Tb) (sd : Int) : Trip Tryz.prog 66 #[.pointer (some ⟨b, 0, none⟩), .int .i64 sd] [[(b, .cells t.enc 159 (0, 0))]] (fun u S' => ∃ (e' : En) (r' : Int), e' = (t.get sd).1 ∧ r' = (t.get sd).2 ∧ u = .tuple #[.agg e'.enc, .int .i64 r'] ∧ S' = [[(b, .cells (t).enc 159 (0, 0))]]) := by
  
  have fb := t.find_b sd
  refine fn_entry (args := [.pointer (some ⟨b, 0, none⟩), .int .i64 sd]) Tryz.func66 rfl Tryz.ntmps66 rfl (fun w0 => ?_)
  refine c_seq ?_
  refine c_region ?_
  refine o_alloc ze_66 rfl rfl (fun b_1 => ?_)
  refine o_L (y_assign rfl) rfl rfl ?_
  refine o_nil0 rfl ?_
  refine c_seq ?_
  refine c_region ?_
  refine o_T (y_move rfl) rfl ?_
  refine o_T (y_move rfl) rfl ?_
  refine o_callrv en_106 rfl (t106 _ _ _) (s_skip (s_take s_nil)) rfl ?_
  refine o_L (y_assign rfl) rfl rfl ?_
  refine o_nil0 rfl ?_
  refine c_seq ?_
  refine c_seq ?_
  refine c_region ?_
  refine o_T (y_move rfl) rfl ?_
  refine o_T (y_eql rfl rfl) rfl ?_
  refine o_nil1 11 rfl rfl ?_
  refine c_cond rfl (fun h185 => ?_) (fun h185 => ?_)
  · try simp only [decide_eq_true_eq, decide_eq_false_iff_not, Bool.not_eq_true', Bool.not_eq_false', Int.not_lt, Int.not_le, Decidable.not_not, beq_iff_eq, bne_iff_ne, ne_eq, beq_eq_false_iff_ne] at h185
    refine c_seq ?_
    refine c_region ?_
    refine o_T (y_build st_66 rfl fb0) rfl ?_
    refine o_sta ag_66 rfl rfl rfl rfl r0 (setAll_full _ _ rfl) (of_ble rfl) ?_
    refine o_L (y_assign rfl) rfl rfl ?_
    refine o_nil0 rfl ?_
    refine c_ret ?_
    refine fun aX wX heX hsX => retct Tryz.results66 heX hsX rfl rfl ag_66 m0 rfl (s_skip (s_take s_nil)) ?_
    have e1 : t.get sd = (En.zero, 21) := by unfold Tb.get; rw [if_pos h185]
    rw [e1]
    exact ⟨_, _, rfl, rfl, rfl, rfl⟩
  · try simp only [decide_eq_true_eq, decide_eq_false_iff_not, Bool.not_eq_true', Bool.not_eq_false', Int.not_lt, Int.not_le, Decidable.not_not, beq_iff_eq, bne_iff_ne, ne_eq, beq_eq_false_iff_ne] at h185
    refine c_skip ?_
    refine c_seq ?_
    refine c_region ?_
    refine o_T (y_move rfl) rfl ?_
    refine o_T (y_move rfl) rfl ?_
    refine o_T (y_nilck rfl) rfl ?_
    refine o_T (y_fa fl_159_0 rfl) rfl ?_
    refine o_T (y_ia ar_157 rfl rfl (by omega) (by omega)) rfl ?_
    refine o_T (y_fa fl_156_1 rfl) rfl ?_
    refine o_lda ag_66 rfl (ms m0) (Tb.Er_rows_e _ (by omega) rfl) (by simp only [Tb.size]; omega) rfl ?_
    refine o_sta ag_66 rfl rfl rfl rfl r0 (setAll_full _ _ rfl) (of_ble rfl) ?_
    refine o_L (y_assign rfl) rfl rfl ?_
    refine o_nil0 rfl ?_
    refine c_ret ?_
    refine fun aX wX heX hsX => retct Tryz.results66 heX hsX rfl rfl ag_66 m0 rfl (s_skip (s_take s_nil)) ?_
    have e1 : t.get sd = ((t.rows (t.find sd).toNat).e, 0) := by unfold Tb.get; rw [if_neg h185]
    rw [e1]
    exact ⟨_, _, rfl, rfl, rfl, rfl⟩

end Go.Proofs.Qxb6500351aGreat
