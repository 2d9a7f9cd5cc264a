/- MADE BY PROGRAM (tools/gen.py over tools/specs351.py): walks. -/
import Derived.Test.Qxb6500351aGreatFacts
import Derived.Test.Qxb6500351aGreatW43
set_option linter.unusedVariables false
set_option linter.unusedSimpArgs false
namespace Go.Proofs.Qxb6500351aGreat
open Go.Eng
set_option maxRecDepth 20000
set_option maxHeartbeats 4000000
/-- e2e/host.New -/
theorem t64 (a : Int) (l p t : Nat) (c : Nat → Value) : Trip Tryz.prog 64 #[.int .i64 a, .pointer (some ⟨l, 0, none⟩), .pointer (some ⟨p, 0, none⟩), .agg #[c 0, c 1, c 2, c 3], .pointer (some ⟨t, 0, none⟩)] [] (fun u S' => ∃ b, u = .pointer (some ⟨b, 0, none⟩) ∧ S' = [[(b, .cells (Hs.mk a 0 0 (fun _ => 0) (ptr l) (ptr p) c (ptr t)).enc 111 (0, 0))]]) := by
  refine fn_entry (args := [.int .i64 a, .pointer (some ⟨l, 0, none⟩), .pointer (some ⟨p, 0, none⟩), .agg #[c 0, c 1, c 2, c 3], .pointer (some ⟨t, 0, none⟩)]) Tryz.func64 rfl Tryz.ntmps64 rfl (fun w0 => ?_)
  refine c_seq ?_
  refine c_region ?_
  refine o_box rfl rfl rfl rfl (fun b_1 => ?_)
  refine o_L (y_assign rfl) rfl rfl ?_
  refine o_nil0 rfl ?_
  refine c_seq ?_
  refine c_region ?_
  refine o_T (y_move rfl) rfl ?_
  refine o_T (y_move rfl) rfl ?_
  refine o_T (y_move rfl) rfl ?_
  refine o_ldw ag_38 rfl m0 rfl rfl ?_
  refine o_T (y_move rfl) rfl ?_
  refine o_T (y_build st_111 rfl (fill_Hs a (ptr l) (ptr p) (ptr t) c rfl rfl rfl)) rfl ?_
  refine o_box rfl rfl rfl rfl (fun b_2 => ?_)
  refine o_L (y_assign rfl) rfl rfl ?_
  refine o_nil0 rfl ?_
  refine c_ret ?_
  refine fun aX wX heX hsX => ret1 Tryz.results64 heX rfl (s_take s_nil) ?_
  exact ⟨_, rfl, rfl⟩

/-- e2e/tower.Ground -/
theorem t22 (a : Int) (h : 0 ≤ a ∧ a < 256) : Trip Tryz.prog 22 #[.int .i64 a] [] (fun u S' => ∃ q : HP, u = .agg (Bl.mk (ptr q.l) (ptr q.p) (fun i => ptr (q.b i)) (ptr q.t)).enc ∧ S' = [[(q.l, .cells (Lk.mk a (fun _ => 0) 0).enc 146 (0, 0))], [(q.p, .cells (Ipt.init a).enc 153 (0, 0))], [(q.t, .cells Tb.init.enc 159 (0, 0))], q.csG (fun _ => Conn.zero)]) := by
  refine fn_entry (args := [.int .i64 a]) Tryz.func22 rfl Tryz.ntmps22 rfl (fun w0 => ?_)
  refine c_seq ?_
  refine c_region ?_
  refine o_alloc ze_41 rfl rfl (fun b_1 => ?_)
  refine o_nil0 rfl ?_
  refine c_seq ?_
  refine c_region ?_
  refine o_T (y_move rfl) rfl ?_
  refine o_call en_58 rfl (t58 _ (by omega)) s_nil rfl ?_
  rintro v S' ⟨b_2, rfl, rfl⟩
  refine o_L (y_assign rfl) rfl rfl ?_
  refine o_nil0 rfl ?_
  refine c_seq ?_
  refine c_region ?_
  refine o_T (y_move rfl) rfl ?_
  refine o_call en_59 rfl (t59 _ (by omega)) s_nil rfl ?_
  rintro v S' ⟨b_3, rfl, rfl⟩
  refine o_L (y_assign rfl) rfl rfl ?_
  refine o_nil0 rfl ?_
  refine c_seq ?_
  refine c_region ?_
  refine o_call en_60 rfl (t60) s_nil rfl ?_
  rintro v S' ⟨b_4, rfl, rfl⟩
  refine o_L (y_assign rfl) rfl rfl ?_
  refine o_nil0 rfl ?_
  refine c_seq ?_
  refine c_region ?_
  refine o_T (y_move rfl) rfl ?_
  refine o_T (y_move rfl) rfl ?_
  refine o_T (y_move rfl) rfl ?_
  refine o_T (y_build st_41 rfl (fb rfl rfl rfl Bl.s0 (fb rfl rfl rfl Bl.s1 (fb rfl rfl rfl Bl.s6 fb0)))) rfl ?_
  refine o_alloc ze_41 rfl rfl (fun b_5 => ?_)
  refine o_sta ag_41 rfl rfl rfl rfl r0 (setAll_full _ _ rfl) (of_ble rfl) ?_
  refine o_nil0 rfl ?_
  refine c_seq ?_
  refine c_seq ?_
  refine c_region ?_
  refine o_L (y_assign rfl) rfl rfl ?_
  refine o_nil0 rfl ?_
  refine c_block ?_
  refine c_unroll 5 ?_
  refine l_one ?_
  refine c_seq ?_
  refine c_seq ?_
  refine c_region ?_
  refine o_T (y_move rfl) rfl ?_
  refine o_T (y_lss rfl rfl) rfl ?_
  refine o_nil1 20 rfl rfl ?_
  refine c_cond rfl (fun h29 => ?_) (fun h29 => ?_)
  · try simp only [decide_eq_true_eq, decide_eq_false_iff_not, Bool.not_eq_true', Bool.not_eq_false', Int.not_lt, Int.not_le, Decidable.not_not, beq_iff_eq, bne_iff_ne, ne_eq, beq_eq_false_iff_ne] at h29
    refine c_skip ?_
    refine c_seq ?_
    refine c_block ?_
    refine c_seq ?_
    refine c_region ?_
    refine o_call en_61 rfl (t61) s_nil rfl ?_
    rintro v S' ⟨b_6, rfl, rfl⟩
    refine o_L (y_assign rfl) rfl rfl ?_
    refine o_nil0 rfl ?_
    refine c_seq ?_
    refine c_region ?_
    refine o_call en_62 rfl (t62) s_nil rfl ?_
    rintro v S' ⟨b_7, rfl, rfl⟩
    refine o_L (y_assign rfl) rfl rfl ?_
    refine o_nil0 rfl ?_
    refine c_region ?_
    refine o_T (y_move rfl) rfl ?_
    refine o_T (y_move rfl) rfl ?_
    refine o_T (y_move rfl) rfl ?_
    refine o_call en_63 rfl (t63 _ _) s_nil rfl ?_
    rintro v S' ⟨b_8, rfl, rfl⟩
    refine o_T (y_fa fl_41_2 rfl) rfl ?_
    refine o_T (y_ia ar_38 rfl rfl (by omega) (by omega)) rfl ?_
    refine o_st one_37 rfl rfl rfl (rs (rs (rs r0))) (Bl.sr_c _ (by omega) rfl) (by simp only [Bl.size]; omega) ?_
    refine o_nil0 rfl ?_
    refine c_region ?_
    refine o_T (y_move rfl) rfl ?_
    refine o_T (y_add rfl rfl (w64 (by omega))) rfl ?_
    refine o_L (y_assign rfl) rfl rfl ?_
    refine o_nil0 rfl ?_
    refine l_rm 20 ?_
    refine l_one ?_
    refine c_seq ?_
    refine c_seq ?_
    refine c_region ?_
    refine o_T (y_move rfl) rfl ?_
    refine o_T (y_lss rfl rfl) rfl ?_
    refine o_nil1 20 rfl rfl ?_
    refine c_cond rfl (fun h29_1 => ?_) (fun h29_1 => ?_)
    · try simp only [decide_eq_true_eq, decide_eq_false_iff_not, Bool.not_eq_true', Bool.not_eq_false', Int.not_lt, Int.not_le, Decidable.not_not, beq_iff_eq, bne_iff_ne, ne_eq, beq_eq_false_iff_ne] at h29_1
      refine c_skip ?_
      refine c_seq ?_
      refine c_block ?_
      refine c_seq ?_
      refine c_region ?_
      refine o_call en_61 rfl (t61) s_nil rfl ?_
      rintro v S' ⟨b_9, rfl, rfl⟩
      refine o_L (y_assign rfl) rfl rfl ?_
      refine o_nil0 rfl ?_
      refine c_seq ?_
      refine c_region ?_
      refine o_call en_62 rfl (t62) s_nil rfl ?_
      rintro v S' ⟨b_10, rfl, rfl⟩
      refine o_L (y_assign rfl) rfl rfl ?_
      refine o_nil0 rfl ?_
      refine c_region ?_
      refine o_T (y_move rfl) rfl ?_
      refine o_T (y_move rfl) rfl ?_
      refine o_T (y_move rfl) rfl ?_
      refine o_call en_63 rfl (t63 _ _) s_nil rfl ?_
      rintro v S' ⟨b_11, rfl, rfl⟩
      refine o_T (y_fa fl_41_2 rfl) rfl ?_
      refine o_T (y_ia ar_38 rfl rfl (by omega) (by omega)) rfl ?_
      refine o_st one_37 rfl rfl rfl (rs (rs (rs (rs (rs (rs r0)))))) (Bl.sr_c _ (by omega) rfl) (by simp only [Bl.size]; omega) ?_
      refine o_nil0 rfl ?_
      refine c_region ?_
      refine o_T (y_move rfl) rfl ?_
      refine o_T (y_add rfl rfl (w64 (by omega))) rfl ?_
      refine o_L (y_assign rfl) rfl rfl ?_
      refine o_nil0 rfl ?_
      refine l_rm 20 ?_
      refine l_one ?_
      refine c_seq ?_
      refine c_seq ?_
      refine c_region ?_
      refine o_T (y_move rfl) rfl ?_
      refine o_T (y_lss rfl rfl) rfl ?_
      refine o_nil1 20 rfl rfl ?_
      refine c_cond rfl (fun h29_2 => ?_) (fun h29_2 => ?_)
      · try simp only [decide_eq_true_eq, decide_eq_false_iff_not, Bool.not_eq_true', Bool.not_eq_false', Int.not_lt, Int.not_le, Decidable.not_not, beq_iff_eq, bne_iff_ne, ne_eq, beq_eq_false_iff_ne] at h29_2
        refine c_skip ?_
        refine c_seq ?_
        refine c_block ?_
        refine c_seq ?_
        refine c_region ?_
        refine o_call en_61 rfl (t61) s_nil rfl ?_
        rintro v S' ⟨b_12, rfl, rfl⟩
        refine o_L (y_assign rfl) rfl rfl ?_
        refine o_nil0 rfl ?_
        refine c_seq ?_
        refine c_region ?_
        refine o_call en_62 rfl (t62) s_nil rfl ?_
        rintro v S' ⟨b_13, rfl, rfl⟩
        refine o_L (y_assign rfl) rfl rfl ?_
        refine o_nil0 rfl ?_
        refine c_region ?_
        refine o_T (y_move rfl) rfl ?_
        refine o_T (y_move rfl) rfl ?_
        refine o_T (y_move rfl) rfl ?_
        refine o_call en_63 rfl (t63 _ _) s_nil rfl ?_
        rintro v S' ⟨b_14, rfl, rfl⟩
        refine o_T (y_fa fl_41_2 rfl) rfl ?_
        refine o_T (y_ia ar_38 rfl rfl (by omega) (by omega)) rfl ?_
        refine o_st one_37 rfl rfl rfl (rs (rs (rs (rs (rs (rs (rs (rs (rs r0))))))))) (Bl.sr_c _ (by omega) rfl) (by simp only [Bl.size]; omega) ?_
        refine o_nil0 rfl ?_
        refine c_region ?_
        refine o_T (y_move rfl) rfl ?_
        refine o_T (y_add rfl rfl (w64 (by omega))) rfl ?_
        refine o_L (y_assign rfl) rfl rfl ?_
        refine o_nil0 rfl ?_
        refine l_rm 20 ?_
        refine l_one ?_
        refine c_seq ?_
        refine c_seq ?_
        refine c_region ?_
        refine o_T (y_move rfl) rfl ?_
        refine o_T (y_lss rfl rfl) rfl ?_
        refine o_nil1 20 rfl rfl ?_
        refine c_cond rfl (fun h29_3 => ?_) (fun h29_3 => ?_)
        · try simp only [decide_eq_true_eq, decide_eq_false_iff_not, Bool.not_eq_true', Bool.not_eq_false', Int.not_lt, Int.not_le, Decidable.not_not, beq_iff_eq, bne_iff_ne, ne_eq, beq_eq_false_iff_ne] at h29_3
          refine c_skip ?_
          refine c_seq ?_
          refine c_block ?_
          refine c_seq ?_
          refine c_region ?_
          refine o_call en_61 rfl (t61) s_nil rfl ?_
          rintro v S' ⟨b_15, rfl, rfl⟩
          refine o_L (y_assign rfl) rfl rfl ?_
          refine o_nil0 rfl ?_
          refine c_seq ?_
          refine c_region ?_
          refine o_call en_62 rfl (t62) s_nil rfl ?_
          rintro v S' ⟨b_16, rfl, rfl⟩
          refine o_L (y_assign rfl) rfl rfl ?_
          refine o_nil0 rfl ?_
          refine c_region ?_
          refine o_T (y_move rfl) rfl ?_
          refine o_T (y_move rfl) rfl ?_
          refine o_T (y_move rfl) rfl ?_
          refine o_call en_63 rfl (t63 _ _) s_nil rfl ?_
          rintro v S' ⟨b_17, rfl, rfl⟩
          refine o_T (y_fa fl_41_2 rfl) rfl ?_
          refine o_T (y_ia ar_38 rfl rfl (by omega) (by omega)) rfl ?_
          refine o_st one_37 rfl rfl rfl (rs (rs (rs (rs (rs (rs (rs (rs (rs (rs (rs (rs r0)))))))))))) (Bl.sr_c _ (by omega) rfl) (by simp only [Bl.size]; omega) ?_
          refine o_nil0 rfl ?_
          refine c_region ?_
          refine o_T (y_move rfl) rfl ?_
          refine o_T (y_add rfl rfl (w64 (by omega))) rfl ?_
          refine o_L (y_assign rfl) rfl rfl ?_
          refine o_nil0 rfl ?_
          refine l_rm 20 ?_
          refine l_one ?_
          refine c_seq ?_
          refine c_seq ?_
          refine c_region ?_
          refine o_T (y_move rfl) rfl ?_
          refine o_T (y_lss rfl rfl) rfl ?_
          refine o_nil1 20 rfl rfl ?_
          refine c_cond rfl (fun h29_4 => ?_) (fun h29_4 => ?_)
          · try simp only [decide_eq_true_eq, decide_eq_false_iff_not, Bool.not_eq_true', Bool.not_eq_false', Int.not_lt, Int.not_le, Decidable.not_not, beq_iff_eq, bne_iff_ne, ne_eq, beq_eq_false_iff_ne] at h29_4
            exact absurd h29_4 (by decide)
          · try simp only [decide_eq_true_eq, decide_eq_false_iff_not, Bool.not_eq_true', Bool.not_eq_false', Int.not_lt, Int.not_le, Decidable.not_not, beq_iff_eq, bne_iff_ne, ne_eq, beq_eq_false_iff_ne] at h29_4
            refine c_exit ?_
            refine c_seq ?_
            refine c_front (s_get (ks (ks (ks (ks (ks (ks (ks (ks (ks k0))))))))) (s_get (ks (ks (ks (ks (ks (ks (ks (ks (ks (ks k0)))))))))) (s_get (ks (ks (ks (ks (ks (ks (ks (ks (ks k0))))))))) (s_get (ks (ks (ks (ks (ks (ks k0)))))) (s_get (ks (ks (ks (ks (ks (ks (ks k0))))))) (s_get (ks (ks (ks (ks (ks (ks k0)))))) (s_get (ks (ks (ks k0))) (s_get (ks (ks (ks (ks k0)))) (s_get (ks (ks (ks k0))) (s_get k0 (s_get (ks k0) (s_get k0 (s_get k0 (s_get k0 (s_get k0 (s_get k0 (s_get k0 s_nil))))))))))))))))) ?_
            refine c_merge ?_
            refine c_merge ?_
            refine c_merge ?_
            refine c_merge ?_
            refine c_merge ?_
            refine c_merge ?_
            refine c_merge ?_
            refine c_merge ?_
            refine c_merge ?_
            refine c_merge ?_
            refine c_merge ?_
            refine c_region ?_
            refine o_ldw ag_41 rfl (ms m0) rfl rfl ?_
            refine o_sta ag_41 rfl rfl rfl rfl (rs (rs (rs (rs (rs r0))))) (setAll_full _ _ rfl) (of_ble rfl) ?_
            refine o_nil0 rfl ?_
            refine c_ret ?_
            refine fun aX wX heX hsX => retc Tryz.results22 heX hsX rfl ag_41 (ms (ms (ms (ms (ms m0))))) rfl (s_get (ks (ks (ks (ks k0)))) (s_get (ks (ks (ks k0))) (s_get (ks (ks k0)) (s_get k0 s_nil)))) ?_
            exact ⟨⟨0, b_2, b_3, b_4, cv4 b_8 b_11 b_14 b_17, cv4 b_6 b_9 b_12 b_15, cv4 b_7 b_10 b_13 b_16⟩, rfl, rfl⟩
        · try simp only [decide_eq_true_eq, decide_eq_false_iff_not, Bool.not_eq_true', Bool.not_eq_false', Int.not_lt, Int.not_le, Decidable.not_not, beq_iff_eq, bne_iff_ne, ne_eq, beq_eq_false_iff_ne] at h29_3
          exact absurd h29_3 (by decide)
      · try simp only [decide_eq_true_eq, decide_eq_false_iff_not, Bool.not_eq_true', Bool.not_eq_false', Int.not_lt, Int.not_le, Decidable.not_not, beq_iff_eq, bne_iff_ne, ne_eq, beq_eq_false_iff_ne] at h29_2
        exact absurd h29_2 (by decide)
    · try simp only [decide_eq_true_eq, decide_eq_false_iff_not, Bool.not_eq_true', Bool.not_eq_false', Int.not_lt, Int.not_le, Decidable.not_not, beq_iff_eq, bne_iff_ne, ne_eq, beq_eq_false_iff_ne] at h29_1
      exact absurd h29_1 (by decide)
  · try simp only [decide_eq_true_eq, decide_eq_false_iff_not, Bool.not_eq_true', Bool.not_eq_false', Int.not_lt, Int.not_le, Decidable.not_not, beq_iff_eq, bne_iff_ne, ne_eq, beq_eq_false_iff_ne] at h29
    exact absurd h29 (by decide)

/-- e2e/tower.Over -/
theorem t23 (a : Int) (q : HP) : Trip Tryz.prog 23 #[.int .i64 a, .agg (Bl.mk (ptr q.l) (ptr q.p) (fun i => ptr (q.b i)) (ptr q.t)).enc] [] (fun u S' => ∃ b, u = .pointer (some ⟨b, 0, none⟩) ∧ S' = [[(b, .cells (Hs.mk a 0 0 (fun _ => 0) (ptr q.l) (ptr q.p) (fun i => ptr (q.b i)) (ptr q.t)).enc 111 (0, 0))]]) := by
  refine fn_entry (args := [.int .i64 a, .agg (Bl.mk (ptr q.l) (ptr q.p) (fun i => ptr (q.b i)) (ptr q.t)).enc]) Tryz.func23 rfl Tryz.ntmps23 rfl (fun w0 => ?_)
  refine c_seq ?_
  refine c_region ?_
  refine o_box rfl rfl rfl rfl (fun b_1 => ?_)
  refine o_L (y_assign rfl) rfl rfl ?_
  refine o_nil0 rfl ?_
  refine c_seq ?_
  refine c_region ?_
  refine o_T (y_move rfl) rfl ?_
  refine o_T (y_fa fl_41_0 rfl) rfl ?_
  refine o_ld one_35 rfl m0 Bl.g0 rfl ?_
  refine o_T (y_fa fl_41_1 rfl) rfl ?_
  refine o_ld one_36 rfl m0 Bl.g1 rfl ?_
  refine o_T (y_fa fl_41_2 rfl) rfl ?_
  refine o_lda ag_38 rfl m0 Bl.E_c (of_ble rfl) rfl ?_
  refine o_T (y_fa fl_41_3 rfl) rfl ?_
  refine o_ld one_39 rfl m0 Bl.g6 rfl ?_
  refine o_call en_64 rfl (t64 a q.l q.p q.t (fun i => ptr (q.b i))) s_nil rfl ?_
  rintro v S' ⟨b_2, rfl, rfl⟩
  refine o_L (y_assign rfl) rfl rfl ?_
  refine o_nil0 rfl ?_
  refine c_ret ?_
  refine fun aX wX heX hsX => ret1 Tryz.results23 heX rfl (s_take s_nil) ?_
  exact ⟨_, rfl, rfl⟩

/-- e2e/tower.New -/
theorem t24 (a : Int) (h : 0 ≤ a ∧ a < 256) : Trip Tryz.prog 24 #[.int .i64 a] [] (fun u S' => ∃ q : HP, u = .pointer (some ⟨q.h, 0, none⟩) ∧ S' = [[(q.h, .cells (q.hs (Hst.init a) (fun _ => 0)).enc 111 (0, 0))], [(q.l, .cells (Lk.mk a (fun _ => 0) 0).enc 146 (0, 0))], [(q.p, .cells (Ipt.init a).enc 153 (0, 0))], [(q.t, .cells Tb.init.enc 159 (0, 0))], q.csG (fun _ => Conn.zero)]) := by
  refine fn_entry (args := [.int .i64 a]) Tryz.func24 rfl Tryz.ntmps24 rfl (fun w0 => ?_)
  refine c_seq ?_
  refine c_region ?_
  refine o_L (y_assign rfl) rfl rfl ?_
  refine o_nil0 rfl ?_
  refine c_seq ?_
  refine c_region ?_
  refine o_T (y_move rfl) rfl ?_
  refine o_call en_22 rfl (t22 _ (by omega)) s_nil rfl ?_
  rintro v S' ⟨q_1, rfl, rfl⟩
  refine o_alloc ze_41 rfl rfl (fun b_1 => ?_)
  refine o_sta ag_41 rfl rfl rfl rfl r0 (setAll_full _ _ rfl) (of_ble rfl) ?_
  refine o_nil0 rfl ?_
  refine c_seq ?_
  refine c_region ?_
  refine o_T (y_move rfl) rfl ?_
  refine o_ldw ag_41 rfl m0 rfl rfl ?_
  refine o_call en_23 rfl (t23 a q_1) s_nil rfl ?_
  rintro v S' ⟨b_2, rfl, rfl⟩
  refine o_L (y_assign rfl) rfl rfl ?_
  refine o_nil0 rfl ?_
  refine c_ret ?_
  refine fun aX wX heX hsX => ret1 Tryz.results24 heX rfl (s_take (s_skip (s_take (s_take (s_take (s_take s_nil)))))) ?_
  exact ⟨⟨b_2, q_1.l, q_1.p, q_1.t, q_1.b, q_1.s, q_1.r⟩, rfl, rfl⟩

end Go.Proofs.Qxb6500351aGreat
