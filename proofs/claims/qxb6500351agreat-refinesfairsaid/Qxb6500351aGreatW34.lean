/- MADE BY PROGRAM (tools/gen.py over tools/specs351.py): walks. -/
import Derived.Test.Qxb6500351aGreatFacts
import Derived.Test.Qxb6500351aGreatW12
import Derived.Test.Qxb6500351aGreatW33
set_option linter.unusedVariables false
set_option linter.unusedSimpArgs false
namespace Go.Proofs.Qxb6500351aGreat
open Go.Eng
set_option maxRecDepth 20000
set_option maxHeartbeats 4000000
/-- e2e/host.nobody -/
theorem t121 (b : Nat) (g : Seg) (hg : g.Ok) : Trip Tryz.prog 121 #[.agg (segC b g).enc] [byG b g.data 5] (fun u S' => ∃ b2, u = .agg (segC b2 (nobody g)).enc ∧ S' = [byG b2 (nobody g).data 5, byG b g.data 5]) := by
  have hd := BytAt.full hg.bytes (by have := hg.len; omega)
  have hln := hg.len
  have hfl := hg.flags
  refine fn_entry (args := [.agg (segC b g).enc]) Tryz.func121 rfl Tryz.ntmps121 rfl (fun w0 => ?_)
  refine c_seq ?_
  refine c_region ?_
  refine o_box rfl rfl rfl rfl (fun b_1 => ?_)
  refine o_alloc ze_178 rfl rfl (fun b_2 => ?_)
  refine o_nil0 rfl ?_
  refine c_seq ?_
  refine c_region ?_
  refine o_T (y_fa fl_178_1 rfl) rfl ?_
  refine o_ld one_3 rfl (ms m0) Sg.g1 rfl ?_
  refine o_T (y_fa fl_178_0 rfl) rfl ?_
  refine o_ld one_3 rfl (ms m0) Sg.g0 rfl ?_
  refine o_T (y_fa fl_178_3 rfl) rfl ?_
  refine o_ld one_3 rfl (ms m0) Sg.g3 rfl ?_
  refine o_bs0 sz_81 rfl (fun b_3 => ?_)
  refine o_T (y_build st_178 rfl (fb rfl rfl rfl Sg.s0 (fb rfl rfl rfl Sg.s1 (fb rfl rfl rfl Sg.s4 (fb rfl rfl rfl Sg.s2 (fb rfl rfl rfl Sg.s6 fb0)))))) rfl ?_
  refine o_alloc ze_178 rfl rfl (fun b_4 => ?_)
  refine o_sta ag_178 rfl rfl rfl rfl r0 (setAll_full _ _ rfl) (of_ble rfl) ?_
  refine o_nil0 rfl ?_
  refine c_seq ?_
  refine c_seq ?_
  refine c_region ?_
  refine o_T (y_fa fl_178_4 rfl) rfl ?_
  refine o_ld one_3 rfl (ms (ms (ms m0))) Sg.g4 rfl ?_
  refine o_T (y_and rfl rfl (fl2 hg.flags)) rfl ?_
  refine o_T (y_neq rfl rfl) rfl ?_
  refine o_nil1 16 rfl rfl ?_
  refine c_cond rfl (fun h44 => ?_) (fun h44 => ?_)
  · try simp only [decide_eq_true_eq, decide_eq_false_iff_not, Bool.not_eq_true', Bool.not_eq_false', Int.not_lt, Int.not_le, Decidable.not_not, beq_iff_eq, bne_iff_ne, ne_eq, beq_eq_false_iff_ne] at h44
    refine c_seq ?_
    refine c_region ?_
    refine o_ldw ag_178 rfl m0 rfl rfl ?_
    refine o_sta ag_178 rfl rfl rfl rfl (rs (rs r0)) (setAll_full _ _ rfl) (of_ble rfl) ?_
    refine o_nil0 rfl ?_
    refine c_ret ?_
    refine fun aX wX heX hsX => retc Tryz.results121 heX hsX rfl ag_178 (ms (ms m0)) rfl (s_skip (s_take (s_skip (s_skip (s_take s_nil))))) ?_
    have e1 : nobody g = ⟨g.dp, g.sp, g.ack, 0, 8, 0, []⟩ := by unfold nobody; rw [if_pos (by omega)]
    rw [e1]
    exact ⟨_, rfl, rfl⟩
  · try simp only [decide_eq_true_eq, decide_eq_false_iff_not, Bool.not_eq_true', Bool.not_eq_false', Int.not_lt, Int.not_le, Decidable.not_not, beq_iff_eq, bne_iff_ne, ne_eq, beq_eq_false_iff_ne] at h44
    refine c_skip ?_
    refine c_seq ?_
    refine c_region ?_
    refine o_T (y_fa fl_178_6 rfl) rfl ?_
    refine o_ld one_81 rfl (ms (ms (ms m0))) Sg.g6 rfl ?_
    refine o_T (y_len Tryz.underlying81 rfl) rfl ?_
    refine o_L (y_assign rfl) rfl rfl ?_
    refine o_nil0 rfl ?_
    refine c_seq ?_
    refine c_seq ?_
    refine c_region ?_
    refine o_T (y_fa fl_178_4 rfl) rfl ?_
    refine o_ld one_3 rfl (ms (ms (ms m0))) Sg.g4 rfl ?_
    refine o_T (y_and rfl rfl (fl1 hg.flags)) rfl ?_
    refine o_T (y_neq rfl rfl) rfl ?_
    refine o_nil1 24 rfl rfl ?_
    refine c_cond rfl (fun h48 => ?_) (fun h48 => ?_)
    · try simp only [decide_eq_true_eq, decide_eq_false_iff_not, Bool.not_eq_true', Bool.not_eq_false', Int.not_lt, Int.not_le, Decidable.not_not, beq_iff_eq, bne_iff_ne, ne_eq, beq_eq_false_iff_ne] at h48
      refine c_region ?_
      refine o_T (y_move rfl) rfl ?_
      refine o_T (y_add rfl rfl (w64 (by omega))) rfl ?_
      refine o_L (y_assign rfl) rfl rfl ?_
      refine o_nil0 rfl ?_
      refine c_seq ?_
      refine c_seq ?_
      refine c_region ?_
      refine o_T (y_fa fl_178_4 rfl) rfl ?_
      refine o_ld one_3 rfl (ms (ms (ms m0))) Sg.g4 rfl ?_
      refine o_T (y_and rfl rfl (fl4 hg.flags)) rfl ?_
      refine o_T (y_neq rfl rfl) rfl ?_
      refine o_nil1 30 rfl rfl ?_
      refine c_cond rfl (fun h51 => ?_) (fun h51 => ?_)
      · try simp only [decide_eq_true_eq, decide_eq_false_iff_not, Bool.not_eq_true', Bool.not_eq_false', Int.not_lt, Int.not_le, Decidable.not_not, beq_iff_eq, bne_iff_ne, ne_eq, beq_eq_false_iff_ne] at h51
        refine c_region ?_
        refine o_T (y_move rfl) rfl ?_
        refine o_T (y_add rfl rfl (w64 (by omega))) rfl ?_
        refine o_L (y_assign rfl) rfl rfl ?_
        refine o_nil0 rfl ?_
        refine c_seq ?_
        refine c_region ?_
        refine o_T (y_fa fl_178_4 rfl) rfl ?_
        refine o_st one_3 rfl rfl rfl r0 Sg.s4 (of_blt rfl) ?_
        refine o_nil0 rfl ?_
        refine c_seq ?_
        refine c_region ?_
        refine o_T (y_fa fl_178_2 rfl) rfl ?_
        refine o_st one_3 rfl rfl rfl r0 Sg.s2 (of_blt rfl) ?_
        refine o_nil0 rfl ?_
        refine c_seq ?_
        refine c_region ?_
        refine o_T (y_fa fl_178_2 rfl) rfl ?_
        refine o_ld one_3 rfl (ms (ms (ms m0))) Sg.g2 rfl ?_
        refine o_T (y_move rfl) rfl ?_
        refine o_callv en_143 rfl (t143 _ _) rfl ?_
        refine o_T (y_fa fl_178_3 rfl) rfl ?_
        refine o_st one_3 rfl rfl rfl r0 Sg.s3 (of_blt rfl) ?_
        refine o_nil0 rfl ?_
        refine c_seq ?_
        refine c_region ?_
        refine o_ldw ag_178 rfl m0 rfl rfl ?_
        refine o_sta ag_178 rfl rfl rfl rfl (rs (rs r0)) (setAll_full _ _ rfl) (of_ble rfl) ?_
        refine o_nil0 rfl ?_
        refine c_ret ?_
        refine fun aX wX heX hsX => retc Tryz.results121 heX hsX rfl ag_178 (ms (ms m0)) rfl (s_skip (s_take (s_skip (s_skip (s_take s_nil))))) ?_
        have e1 : nobody g = ⟨g.dp, g.sp, 0, seqAdd g.seq ((g.data.length : Int) + 1 + 1), 10, 0, []⟩ := by unfold nobody; rw [if_neg (by omega), if_neg (by omega), if_neg (by omega)]; (try rw [Int.add_zero]); (try rw [Int.add_zero])
        rw [e1]
        exact ⟨_, rfl, rfl⟩
      · try simp only [decide_eq_true_eq, decide_eq_false_iff_not, Bool.not_eq_true', Bool.not_eq_false', Int.not_lt, Int.not_le, Decidable.not_not, beq_iff_eq, bne_iff_ne, ne_eq, beq_eq_false_iff_ne] at h51
        refine c_skip ?_
        refine c_seq ?_
        refine c_region ?_
        refine o_T (y_fa fl_178_4 rfl) rfl ?_
        refine o_st one_3 rfl rfl rfl r0 Sg.s4 (of_blt rfl) ?_
        refine o_nil0 rfl ?_
        refine c_seq ?_
        refine c_region ?_
        refine o_T (y_fa fl_178_2 rfl) rfl ?_
        refine o_st one_3 rfl rfl rfl r0 Sg.s2 (of_blt rfl) ?_
        refine o_nil0 rfl ?_
        refine c_seq ?_
        refine c_region ?_
        refine o_T (y_fa fl_178_2 rfl) rfl ?_
        refine o_ld one_3 rfl (ms (ms (ms m0))) Sg.g2 rfl ?_
        refine o_T (y_move rfl) rfl ?_
        refine o_callv en_143 rfl (t143 _ _) rfl ?_
        refine o_T (y_fa fl_178_3 rfl) rfl ?_
        refine o_st one_3 rfl rfl rfl r0 Sg.s3 (of_blt rfl) ?_
        refine o_nil0 rfl ?_
        refine c_seq ?_
        refine c_region ?_
        refine o_ldw ag_178 rfl m0 rfl rfl ?_
        refine o_sta ag_178 rfl rfl rfl rfl (rs (rs r0)) (setAll_full _ _ rfl) (of_ble rfl) ?_
        refine o_nil0 rfl ?_
        refine c_ret ?_
        refine fun aX wX heX hsX => retc Tryz.results121 heX hsX rfl ag_178 (ms (ms m0)) rfl (s_skip (s_take (s_skip (s_skip (s_take s_nil))))) ?_
        have e1 : nobody g = ⟨g.dp, g.sp, 0, seqAdd g.seq ((g.data.length : Int) + 1), 10, 0, []⟩ := by unfold nobody; rw [if_neg (by omega), if_neg (by omega), if_pos (by omega)]; (try rw [Int.add_zero]); (try rw [Int.add_zero])
        rw [e1]
        exact ⟨_, rfl, rfl⟩
    · try simp only [decide_eq_true_eq, decide_eq_false_iff_not, Bool.not_eq_true', Bool.not_eq_false', Int.not_lt, Int.not_le, Decidable.not_not, beq_iff_eq, bne_iff_ne, ne_eq, beq_eq_false_iff_ne] at h48
      refine c_skip ?_
      refine c_seq ?_
      refine c_seq ?_
      refine c_region ?_
      refine o_T (y_fa fl_178_4 rfl) rfl ?_
      refine o_ld one_3 rfl (ms (ms (ms m0))) Sg.g4 rfl ?_
      refine o_T (y_and rfl rfl (fl4 hg.flags)) rfl ?_
      refine o_T (y_neq rfl rfl) rfl ?_
      refine o_nil1 30 rfl rfl ?_
      refine c_cond rfl (fun h51 => ?_) (fun h51 => ?_)
      · try simp only [decide_eq_true_eq, decide_eq_false_iff_not, Bool.not_eq_true', Bool.not_eq_false', Int.not_lt, Int.not_le, Decidable.not_not, beq_iff_eq, bne_iff_ne, ne_eq, beq_eq_false_iff_ne] at h51
        refine c_region ?_
        refine o_T (y_move rfl) rfl ?_
        refine o_T (y_add rfl rfl (w64 (by omega))) rfl ?_
        refine o_L (y_assign rfl) rfl rfl ?_
        refine o_nil0 rfl ?_
        refine c_seq ?_
        refine c_region ?_
        refine o_T (y_fa fl_178_4 rfl) rfl ?_
        refine o_st one_3 rfl rfl rfl r0 Sg.s4 (of_blt rfl) ?_
        refine o_nil0 rfl ?_
        refine c_seq ?_
        refine c_region ?_
        refine o_T (y_fa fl_178_2 rfl) rfl ?_
        refine o_st one_3 rfl rfl rfl r0 Sg.s2 (of_blt rfl) ?_
        refine o_nil0 rfl ?_
        refine c_seq ?_
        refine c_region ?_
        refine o_T (y_fa fl_178_2 rfl) rfl ?_
        refine o_ld one_3 rfl (ms (ms (ms m0))) Sg.g2 rfl ?_
        refine o_T (y_move rfl) rfl ?_
        refine o_callv en_143 rfl (t143 _ _) rfl ?_
        refine o_T (y_fa fl_178_3 rfl) rfl ?_
        refine o_st one_3 rfl rfl rfl r0 Sg.s3 (of_blt rfl) ?_
        refine o_nil0 rfl ?_
        refine c_seq ?_
        refine c_region ?_
        refine o_ldw ag_178 rfl m0 rfl rfl ?_
        refine o_sta ag_178 rfl rfl rfl rfl (rs (rs r0)) (setAll_full _ _ rfl) (of_ble rfl) ?_
        refine o_nil0 rfl ?_
        refine c_ret ?_
        refine fun aX wX heX hsX => retc Tryz.results121 heX hsX rfl ag_178 (ms (ms m0)) rfl (s_skip (s_take (s_skip (s_skip (s_take s_nil))))) ?_
        have e1 : nobody g = ⟨g.dp, g.sp, 0, seqAdd g.seq ((g.data.length : Int) + 1), 10, 0, []⟩ := by unfold nobody; rw [if_neg (by omega), if_pos (by omega), if_neg (by omega)]; (try rw [Int.add_zero]); (try rw [Int.add_zero])
        rw [e1]
        exact ⟨_, rfl, rfl⟩
      · try simp only [decide_eq_true_eq, decide_eq_false_iff_not, Bool.not_eq_true', Bool.not_eq_false', Int.not_lt, Int.not_le, Decidable.not_not, beq_iff_eq, bne_iff_ne, ne_eq, beq_eq_false_iff_ne] at h51
        refine c_skip ?_
        refine c_seq ?_
        refine c_region ?_
        refine o_T (y_fa fl_178_4 rfl) rfl ?_
        refine o_st one_3 rfl rfl rfl r0 Sg.s4 (of_blt rfl) ?_
        refine o_nil0 rfl ?_
        refine c_seq ?_
        refine c_region ?_
        refine o_T (y_fa fl_178_2 rfl) rfl ?_
        refine o_st one_3 rfl rfl rfl r0 Sg.s2 (of_blt rfl) ?_
        refine o_nil0 rfl ?_
        refine c_seq ?_
        refine c_region ?_
        refine o_T (y_fa fl_178_2 rfl) rfl ?_
        refine o_ld one_3 rfl (ms (ms (ms m0))) Sg.g2 rfl ?_
        refine o_T (y_move rfl) rfl ?_
        refine o_callv en_143 rfl (t143 _ _) rfl ?_
        refine o_T (y_fa fl_178_3 rfl) rfl ?_
        refine o_st one_3 rfl rfl rfl r0 Sg.s3 (of_blt rfl) ?_
        refine o_nil0 rfl ?_
        refine c_seq ?_
        refine c_region ?_
        refine o_ldw ag_178 rfl m0 rfl rfl ?_
        refine o_sta ag_178 rfl rfl rfl rfl (rs (rs r0)) (setAll_full _ _ rfl) (of_ble rfl) ?_
        refine o_nil0 rfl ?_
        refine c_ret ?_
        refine fun aX wX heX hsX => retc Tryz.results121 heX hsX rfl ag_178 (ms (ms m0)) rfl (s_skip (s_take (s_skip (s_skip (s_take s_nil))))) ?_
        have e1 : nobody g = ⟨g.dp, g.sp, 0, seqAdd g.seq ((g.data.length : Int)), 10, 0, []⟩ := by unfold nobody; rw [if_neg (by omega), if_pos (by omega), if_pos (by omega)]; (try rw [Int.add_zero]); (try rw [Int.add_zero])
        rw [e1]
        exact ⟨_, rfl, rfl⟩

/-- (*e2e/host.Host).Clock -/
theorem t26 (q : HP) (H : Hst) (lk : Lk) (dr : Nat → Int)  (ok : H.Ok) : Trip Tryz.prog 26 #[.pointer (some ⟨q.h, 0, none⟩)] [[(q.h, .cells (q.hs H dr).enc 111 (0, 0))]] (fun u S' => u = .int .i64 H.clock ∧ S' = [[(q.h, .cells (q.hs H dr).enc 111 (0, 0))]]) := by
  have ok0 := ok
  have oa := ok.addr
  have oc := ok.clock
  have ol := ok.lost
  have op := ok.p
  have opa := ok.pa
  have oc4 := ok.c
  have ot := ok.t
  refine fn_entry (args := [.pointer (some ⟨q.h, 0, none⟩)]) Tryz.func26 rfl Tryz.ntmps26 rfl (fun w0 => ?_)
  refine c_seq ?_
  refine c_region ?_
  refine o_L (y_assign rfl) rfl rfl ?_
  refine o_nil0 rfl ?_
  refine c_seq ?_
  refine c_region ?_
  refine o_T (y_move rfl) rfl ?_
  refine o_T (y_nilck rfl) rfl ?_
  refine o_T (y_fa fl_111_1 rfl) rfl ?_
  refine o_ld one_3 rfl m0 Hs.g1 rfl ?_
  refine o_L (y_assign rfl) rfl rfl ?_
  refine o_nil0 rfl ?_
  refine c_ret ?_
  refine fun aX wX heX hsX => ret1 Tryz.results26 heX rfl (s_take s_nil) ?_
  exact ⟨rfl, rfl⟩

/-- (*e2e/host.Host).Lost -/
theorem t27 (q : HP) (H : Hst) (lk : Lk) (dr : Nat → Int)  (ok : H.Ok) : Trip Tryz.prog 27 #[.pointer (some ⟨q.h, 0, none⟩)] [[(q.h, .cells (q.hs H dr).enc 111 (0, 0))]] (fun u S' => u = .int .i64 H.lost ∧ S' = [[(q.h, .cells (q.hs H dr).enc 111 (0, 0))]]) := by
  have ok0 := ok
  have oa := ok.addr
  have oc := ok.clock
  have ol := ok.lost
  have op := ok.p
  have opa := ok.pa
  have oc4 := ok.c
  have ot := ok.t
  refine fn_entry (args := [.pointer (some ⟨q.h, 0, none⟩)]) Tryz.func27 rfl Tryz.ntmps27 rfl (fun w0 => ?_)
  refine c_seq ?_
  refine c_region ?_
  refine o_L (y_assign rfl) rfl rfl ?_
  refine o_nil0 rfl ?_
  refine c_seq ?_
  refine c_region ?_
  refine o_T (y_move rfl) rfl ?_
  refine o_T (y_nilck rfl) rfl ?_
  refine o_T (y_fa fl_111_2 rfl) rfl ?_
  refine o_ld one_3 rfl m0 Hs.g2 rfl ?_
  refine o_L (y_assign rfl) rfl rfl ?_
  refine o_nil0 rfl ?_
  refine c_ret ?_
  refine fun aX wX heX hsX => ret1 Tryz.results27 heX rfl (s_take s_nil) ?_
  exact ⟨rfl, rfl⟩

/-- (*e2e/host.Host).Socks -/
theorem t28 (q : HP) (H : Hst) (lk : Lk) (dr : Nat → Int)  (ok : H.Ok) : Trip Tryz.prog 28 #[.pointer (some ⟨q.h, 0, none⟩)] [[(q.h, .cells (q.hs H dr).enc 111 (0, 0))], [(q.t, .cells H.t.enc 159 (0, 0))]] (fun u S' => ∃ b2, u = inV b2 H.t.list ∧ S' = [inG b2 H.t.list 3, [(q.h, .cells (q.hs H dr).enc 111 (0, 0))], [(q.t, .cells H.t.enc 159 (0, 0))]]) := by
  have ok0 := ok
  have oa := ok.addr
  have oc := ok.clock
  have ol := ok.lost
  have op := ok.p
  have opa := ok.pa
  have oc4 := ok.c
  have ot := ok.t
  refine fn_entry (args := [.pointer (some ⟨q.h, 0, none⟩)]) Tryz.func28 rfl Tryz.ntmps28 rfl (fun w0 => ?_)
  refine c_seq ?_
  refine c_region ?_
  refine o_L (y_assign rfl) rfl rfl ?_
  refine o_nil0 rfl ?_
  refine c_seq ?_
  refine c_region ?_
  refine o_T (y_move rfl) rfl ?_
  refine o_T (y_nilck rfl) rfl ?_
  refine o_T (y_fa fl_111_7 rfl) rfl ?_
  refine o_ld one_39 rfl m0 Hs.g17 rfl ?_
  refine o_call en_65 rfl (t65 _ _) (s_skip (s_take s_nil)) rfl ?_
  rintro v S' ⟨b_1, rfl, rfl⟩
  refine o_L (y_assign rfl) rfl rfl ?_
  refine o_nil0 rfl ?_
  refine c_ret ?_
  refine fun aX wX heX hsX => ret1 Tryz.results28 heX rfl (s_get k0 (s_get (ks k0) (s_get k0 s_nil))) ?_
  exact ⟨_, rfl, rfl⟩

/-- (*e2e/host.Host).Listen -/
theorem t89 (q : HP) (H : Hst) (lk : Lk) (dr : Nat → Int) (p : Int) (ok : H.Ok) (h5 : H.t.nextSd < 1152921504606846976) : Trip Tryz.prog 89 #[.pointer (some ⟨q.h, 0, none⟩), .int .i64 p] [[(q.h, .cells (q.hs H dr).enc 111 (0, 0))], [(q.t, .cells H.t.enc 159 (0, 0))]] (fun u S' => ∃ t' : Tb, t' = (H.t.listen p).2.2 ∧ t'.Ok ∧ u = .tuple #[.int .i64 (H.t.listen p).1, .int .i64 (H.t.listen p).2.1] ∧ S' = [[(q.h, .cells (q.hs H dr).enc 111 (0, 0))], [(q.t, .cells (t').enc 159 (0, 0))]]) := by
  have ok0 := ok
  have oa := ok.addr
  have oc := ok.clock
  have ol := ok.lost
  have op := ok.p
  have opa := ok.pa
  have oc4 := ok.c
  have ot := ok.t
  refine fn_entry (args := [.pointer (some ⟨q.h, 0, none⟩), .int .i64 p]) Tryz.func89 rfl Tryz.ntmps89 rfl (fun w0 => ?_)
  refine c_seq ?_
  refine c_region ?_
  refine o_L (y_assign rfl) rfl rfl ?_
  refine o_L (y_assign rfl) rfl rfl ?_
  refine o_nil0 rfl ?_
  refine c_seq ?_
  refine c_region ?_
  refine o_T (y_move rfl) rfl ?_
  refine o_T (y_nilck rfl) rfl ?_
  refine o_T (y_fa fl_111_7 rfl) rfl ?_
  refine o_ld one_39 rfl m0 Hs.g17 rfl ?_
  refine o_T (y_move rfl) rfl ?_
  refine o_call en_129 rfl (t129 _ _ _ (by assumption) (by omega)) (s_skip (s_take s_nil)) rfl ?_
  rintro v S' ⟨t_1, ht_1, kt_1, rfl, rfl⟩
  refine o_T (y_extract rfl rfl) rfl ?_
  refine o_T (y_extract rfl rfl) rfl ?_
  refine o_L (y_assign rfl) rfl rfl ?_
  refine o_L (y_assign rfl) rfl rfl ?_
  refine o_nil0 rfl ?_
  refine c_ret ?_
  refine fun aX wX heX hsX => ret2 Tryz.results89 heX rfl rfl (s_get (ks k0) (s_get k0 s_nil)) ?_
  exact ⟨_, ht_1, kt_1, rfl, rfl⟩

/-- (*e2e/host.Host).Accept -/
theorem t93 (q : HP) (H : Hst) (lk : Lk) (dr : Nat → Int) (p : Int) (ok : H.Ok) (hk : -998 ≤ (H.t.rows (H.t.find p).toNat).kids) : Trip Tryz.prog 93 #[.pointer (some ⟨q.h, 0, none⟩), .int .i64 p] [[(q.h, .cells (q.hs H dr).enc 111 (0, 0))], [(q.t, .cells H.t.enc 159 (0, 0))]] (fun u S' => ∃ t' : Tb, t' = (H.t.accept p).2.2 ∧ t'.Ok ∧ u = .tuple #[.int .i64 (H.t.accept p).1, .int .i64 (H.t.accept p).2.1] ∧ S' = [[(q.h, .cells (q.hs H dr).enc 111 (0, 0))], [(q.t, .cells (t').enc 159 (0, 0))]]) := by
  have ok0 := ok
  have oa := ok.addr
  have oc := ok.clock
  have ol := ok.lost
  have op := ok.p
  have opa := ok.pa
  have oc4 := ok.c
  have ot := ok.t
  refine fn_entry (args := [.pointer (some ⟨q.h, 0, none⟩), .int .i64 p]) Tryz.func93 rfl Tryz.ntmps93 rfl (fun w0 => ?_)
  refine c_seq ?_
  refine c_region ?_
  refine o_L (y_assign rfl) rfl rfl ?_
  refine o_L (y_assign rfl) rfl rfl ?_
  refine o_nil0 rfl ?_
  refine c_seq ?_
  refine c_region ?_
  refine o_T (y_move rfl) rfl ?_
  refine o_T (y_nilck rfl) rfl ?_
  refine o_T (y_fa fl_111_7 rfl) rfl ?_
  refine o_ld one_39 rfl m0 Hs.g17 rfl ?_
  refine o_T (y_move rfl) rfl ?_
  refine o_call en_132 rfl (t132 _ _ _ (by assumption) hk) (s_skip (s_take s_nil)) rfl ?_
  rintro v S' ⟨t_1, ht_1, kt_1, rfl, rfl⟩
  refine o_T (y_extract rfl rfl) rfl ?_
  refine o_T (y_extract rfl rfl) rfl ?_
  refine o_L (y_assign rfl) rfl rfl ?_
  refine o_L (y_assign rfl) rfl rfl ?_
  refine o_nil0 rfl ?_
  refine c_ret ?_
  refine fun aX wX heX hsX => ret2 Tryz.results93 heX rfl rfl (s_get (ks k0) (s_get k0 s_nil)) ?_
  exact ⟨_, ht_1, kt_1, rfl, rfl⟩

end Go.Proofs.Qxb6500351aGreat
