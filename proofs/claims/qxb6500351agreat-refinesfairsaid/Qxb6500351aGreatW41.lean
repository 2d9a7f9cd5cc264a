/- MADE BY PROGRAM (tools/gen.py over tools/specs351.py): walks. -/
import Derived.Test.Qxb6500351aGreatFacts
import Derived.Test.Qxb6500351aGreatW40
set_option linter.unusedVariables false
set_option linter.unusedSimpArgs false
namespace Go.Proofs.Qxb6500351aGreat
open Go.Eng
set_option maxRecDepth 20000
set_option maxHeartbeats 4000000
/-- (*e2e/host.Host).Close -/
theorem t104 (q : HP) (H : Hst) (lk : Lk) (dr : Nat → Int) (sd : Int) (ok : H.Ok) (hlk : lk.addr = H.addr) (hlo : H.lost + 200 ≤ 1152921504606846976) (hsh : H.lisB sd = true → H.ShutOk sd) (hsl : H.oursB sd = true → 0 ≤ (H.ent sd).slot ∧ (H.ent sd).slot < 4) : Trip Tryz.prog 104 #[.pointer (some ⟨q.h, 0, none⟩), .int .i64 sd] [[(q.h, .cells (q.hs H dr).enc 111 (0, 0))], [(q.l, .cells lk.enc 146 (0, 0))], [(q.p, .cells H.p.enc 153 (0, 0))], [(q.t, .cells H.t.enc 159 (0, 0))], q.csG H.c] (fun u S' => ((H.closeE sd) ≠ 0 ∧ u = .tuple #[.slice none 0 0, .int .i64 (H.closeE sd)] ∧ S' = [[(q.h, .cells (q.hs H dr).enc 111 (0, 0))], [(q.l, .cells lk.enc 146 (0, 0))], [(q.p, .cells H.p.enc 153 (0, 0))], [(q.t, .cells H.t.enc 159 (0, 0))], q.csG H.c]) ∨ ((H.closeE sd) = 0 ∧ ∃ (lk' : Lk) (dr' : Nat → Int) (v' : Value) (gv' gd' : List Chunk), lk'.addr = H.addr ∧ u = .tuple #[v', .int .i64 0] ∧ Lst 81 1 rowR v' (H.closeF sd) gv' gd' ∧ S' = [gv', gd', [(q.h, .cells (q.hs (H.closeH sd) dr').enc 111 (0, 0))], [(q.l, .cells lk'.enc 146 (0, 0))], [(q.p, .cells ((H.closeH sd)).p.enc 153 (0, 0))], [(q.t, .cells ((H.closeH sd)).t.enc 159 (0, 0))], q.csG ((H.closeH sd)).c])) := by
  have ok0 := ok
  have oa := ok.addr
  have oc := ok.clock
  have ol := ok.lost
  have op := ok.p
  have opa := ok.pa
  have oc4 := ok.c
  have ot := ok.t
  have hfr : ([] : List (List Int)).length ≤ 900000 := Nat.zero_le _
  have hlo1 := hlo
  have hlo : H.lost + 50 ≤ 1152921504606846976 := by omega
  refine fn_entry (args := [.pointer (some ⟨q.h, 0, none⟩), .int .i64 sd]) Tryz.func104 rfl Tryz.ntmps104 rfl (fun w0 => ?_)
  refine c_seq ?_
  refine c_region ?_
  refine o_L (y_assign rfl) rfl rfl ?_
  refine o_L (y_assign rfl) rfl rfl ?_
  refine o_nil0 rfl ?_
  refine c_seq ?_
  refine c_seq ?_
  refine c_region ?_
  refine o_T (y_move rfl) rfl ?_
  refine o_T (y_move rfl) rfl ?_
  refine o_call en_138 rfl (t138 _ _ lk _ _ (by assumption)) (s_take (s_skip (s_skip (s_take s_nil)))) rfl ?_
  rintro v S' ⟨rfl, rfl⟩
  refine o_nil1 14 rfl rfl ?_
  refine c_cond rfl (fun h89 => ?_) (fun h89 => ?_)
  · try simp only [decide_eq_true_eq, decide_eq_false_iff_not, Bool.not_eq_true', Bool.not_eq_false', Int.not_lt, Int.not_le, Decidable.not_not, beq_iff_eq, bne_iff_ne, ne_eq, beq_eq_false_iff_ne] at h89
    refine c_seq ?_
    obtain ⟨hq1, hq2⟩ := hsh (by assumption)
    refine c_region ?_
    refine o_T (y_move rfl) rfl ?_
    refine o_T (y_move rfl) rfl ?_
    refine o_call en_139 rfl (t139 _ _ _ _ _ (by assumption) (by assumption) (by omega) (by assumption) (by assumption)) (s_get k0 (s_get (ks k0) (s_get (ks k0) (s_get k0 (s_get k0 s_nil))))) rfl ?_
    rintro v S' ⟨lk_1, dr_1, v_1, gv_1, gd_1, hlk_1, rfl, hl_1, rfl⟩
    refine o_L (y_assign rfl) rfl rfl ?_
    refine o_nil0 rfl ?_
    refine c_seq ?_
    refine c_region ?_
    refine o_T (y_move rfl) rfl ?_
    refine o_L (y_assign rfl) rfl rfl ?_
    refine o_L (y_assign rfl) rfl rfl ?_
    refine o_nil0 rfl ?_
    refine c_ret ?_
    refine fun aX wX heX hsX => ret2 Tryz.results104 heX rfl rfl (s_take (s_take (s_take (s_take (s_take (s_take (s_take s_nil))))))) ?_
    have e1 : H.closeE sd = 0 := by unfold Hst.closeE; rw [if_pos h89]
    have e2 : H.closeF sd = H.shutF sd H.t.list := by unfold Hst.closeF; rw [if_pos h89]
    have e3 : H.closeH sd = H.shutdown sd := by unfold Hst.closeH; rw [if_pos h89]
    rw [e2, e3]
    exact .inr ⟨e1, _, _, _, _, _, by assumption, rfl, hl_1, rfl⟩
  · try simp only [decide_eq_true_eq, decide_eq_false_iff_not, Bool.not_eq_true', Bool.not_eq_false', Int.not_lt, Int.not_le, Decidable.not_not, beq_iff_eq, bne_iff_ne, ne_eq, beq_eq_false_iff_ne] at h89
    refine c_skip ?_
    refine c_seq ?_
    refine c_region ?_
    refine o_T (y_move rfl) rfl ?_
    refine o_T (y_move rfl) rfl ?_
    refine o_call en_134 rfl (t134 _ _ lk _ _ (by assumption)) (s_take (s_take s_nil)) rfl ?_
    rintro v S' ⟨en_1, er_1, hen_1, hob_1, rfl, rfl⟩
    refine o_T (y_move rfl) rfl ?_
    refine o_T (y_extract rfl rfl) rfl ?_
    refine o_T (y_extract rfl rfl) rfl ?_
    refine o_alloc ze_66 rfl rfl (fun b_1 => ?_)
    refine o_sta ag_66 rfl rfl rfl rfl r0 (setAll_full _ _ rfl) (of_ble rfl) ?_
    refine o_L (y_assign rfl) rfl rfl ?_
    refine o_nil0 rfl ?_
    refine c_seq ?_
    refine c_seq ?_
    refine c_region ?_
    refine o_T (y_move rfl) rfl ?_
    refine o_T (y_not rfl) rfl ?_
    refine o_nil1 26 rfl rfl ?_
    refine c_cond rfl (fun h94 => ?_) (fun h94 => ?_)
    · try simp only [decide_eq_true_eq, decide_eq_false_iff_not, Bool.not_eq_true', Bool.not_eq_false', Int.not_lt, Int.not_le, Decidable.not_not, beq_iff_eq, bne_iff_ne, ne_eq, beq_eq_false_iff_ne] at h94
      refine c_seq ?_
      refine c_region ?_
      refine o_L (y_assign rfl) rfl rfl ?_
      refine o_L (y_assign rfl) rfl rfl ?_
      refine o_nil0 rfl ?_
      refine c_ret ?_
      refine fun aX wX heX hsX => ret2 Tryz.results104 heX rfl rfl (s_get (ks k0) (s_get (ks (ks k0)) (s_get (ks (ks k0)) (s_get (ks k0) (s_get (ks k0) s_nil))))) ?_
      subst hob_1
      subst hen_1
      have e1 : H.closeE sd = 21 := by unfold Hst.closeE; rw [if_neg (by rw [h89]; decide), if_neg (by rw [h94]; decide)]
      exact .inl ⟨by rw [e1]; decide, by rw [e1], rfl⟩
    · try simp only [decide_eq_true_eq, decide_eq_false_iff_not, Bool.not_eq_true', Bool.not_eq_false', Int.not_lt, Int.not_le, Decidable.not_not, beq_iff_eq, bne_iff_ne, ne_eq, beq_eq_false_iff_ne] at h94
      refine c_skip ?_
      refine c_seq ?_
      have henk : en_1.Ok := by rw [hen_1]; exact Tb.get_ok ot sd
      have hk4 := hsl (by rw [← hob_1]; assumption)
      rw [← hen_1] at hk4
      have okk := oc4 en_1.slot.toNat
      have hln : (Conn.close ⟨(H.c en_1.slot.toNat).x, (H.c en_1.slot.toNat).s, (H.c en_1.slot.toNat).r⟩).2.1.length ≤ 14 := Conn.close_len okk
      have hsgs := Conn.sg_close okk
      refine c_front (s_get (ks (ks (ks (ks (ks k0))))) (s_get k0 (s_get k0 (s_get k0 (s_get k0 (s_get k0 s_nil)))))) ?_
      refine c_open q (H.c) (k := en_1.slot.toNat) (by omega) ?_
      refine c_draw #[true, true, true, true, true, true, true, false, true, true, true, true, true] rfl (n := 13) rfl ?_
      refine d_T 0 rfl (by kernel_rfl) rfl (y_move rfl) rfl ?_
      refine d_T 1 rfl (by kernel_rfl) rfl (y_fa fl_66_5 rfl) rfl ?_
      refine d_ld 2 rfl (by kernel_rfl) one_3 rfl (fun x hx => hx) (ms (ms (ms (ms m0)))) En.g5 rfl ?_
      refine d_T 3 rfl (by kernel_rfl) rfl (y_nilck rfl) rfl ?_
      refine d_T 4 rfl (by kernel_rfl) rfl (y_fa fl_111_6 rfl) rfl ?_
      refine d_T 5 rfl (by kernel_rfl) rfl (y_ia ar_38 rfl rfl (by omega) (by omega)) rfl ?_
      refine d_ld 6 rfl (by kernel_rfl) one_37 rfl (fun x hx => hx) (ms (ms (ms (ms (ms m0))))) (Hs.gr_c _ (by omega) rfl) rfl ?_
      refine d_hard 7 rfl (by kernel_rfl) ?_
      refine o_call en_141 rfl (t141 _ (q.s en_1.slot.toNat) (q.r en_1.slot.toNat) ((H.c) en_1.slot.toNat).x _ _ okk) (s_take (s_take (s_take s_nil))) rfl ?_
      rintro v S' (⟨hd_1, rfl, rfl, he_1⟩ | ⟨hd_2, v_2, gv_2, gd_2, rfl, hl_2, rfl, hk_1⟩)
      · skip
        refine o_stop (fun h => nomatch h) ?_
        refine d_T 8 rfl (by kernel_rfl) rfl (y_move rfl) rfl ?_
        refine d_T 9 rfl (by kernel_rfl) rfl (y_extract rfl rfl) rfl ?_
        refine d_T 10 rfl (by kernel_rfl) rfl (y_extract rfl rfl) rfl ?_
        refine d_L 11 rfl (by kernel_rfl) rfl (y_assign rfl) rfl rfl ?_
        refine d_L 12 rfl (by kernel_rfl) rfl (y_assign rfl) rfl rfl ?_
        refine d_nil0 (by kernel_rfl) rfl ?_
        refine c_seq ?_
        refine c_seq ?_
        refine c_region ?_
        refine o_T (y_move rfl) rfl ?_
        refine o_T (y_neq rfl rfl) rfl ?_
        refine o_nil1 39 rfl rfl ?_
        refine c_cond rfl (fun h98 => ?_) (fun h98 => ?_)
        · try simp only [decide_eq_true_eq, decide_eq_false_iff_not, Bool.not_eq_true', Bool.not_eq_false', Int.not_lt, Int.not_le, Decidable.not_not, beq_iff_eq, bne_iff_ne, ne_eq, beq_eq_false_iff_ne] at h98
          refine c_seq ?_
          refine c_shut q (H.c) (k := en_1.slot.toNat) (by omega) (H.c en_1.slot.toNat) ?_
          refine c_row (g' := q.csG (H.c)) q0 (by rw [upA_same _ _ _ rfl]) ?_
          refine c_region ?_
          refine o_T (y_move rfl) rfl ?_
          refine o_L (y_assign rfl) rfl rfl ?_
          refine o_L (y_assign rfl) rfl rfl ?_
          refine o_nil0 rfl ?_
          refine c_ret ?_
          refine fun aX wX heX hsX => ret2 Tryz.results104 heX rfl rfl (s_get (ks (ks k0)) (s_get (ks (ks (ks k0))) (s_get (ks (ks (ks k0))) (s_get (ks (ks k0)) (s_get k0 s_nil))))) ?_
          subst hob_1
          subst hen_1
          have e1 : H.closeE sd = (H.cn sd).close.2.2 := by unfold Hst.closeE; rw [if_neg (by rw [h89]; decide), if_pos h94]
          exact .inl ⟨by rw [e1]; assumption, by rw [e1]; rfl, rfl⟩
        · try simp only [decide_eq_true_eq, decide_eq_false_iff_not, Bool.not_eq_true', Bool.not_eq_false', Int.not_lt, Int.not_le, Decidable.not_not, beq_iff_eq, bne_iff_ne, ne_eq, beq_eq_false_iff_ne] at h98
          first | (exfalso; omega) | exact absurd rfl h98 | exact absurd h98 (by decide)
      · skip
        refine o_stop (fun h => nomatch h) ?_
        refine d_T 8 rfl (by kernel_rfl) rfl (y_move rfl) rfl ?_
        refine d_T 9 rfl (by kernel_rfl) rfl (y_extract rfl rfl) rfl ?_
        refine d_T 10 rfl (by kernel_rfl) rfl (y_extract rfl rfl) rfl ?_
        refine d_L 11 rfl (by kernel_rfl) rfl (y_assign rfl) rfl rfl ?_
        refine d_L 12 rfl (by kernel_rfl) rfl (y_assign rfl) rfl rfl ?_
        refine d_nil0 (by kernel_rfl) rfl ?_
        refine c_seq ?_
        refine c_seq ?_
        refine c_region ?_
        refine o_T (y_move rfl) rfl ?_
        refine o_T (y_neq rfl rfl) rfl ?_
        refine o_nil1 39 rfl rfl ?_
        refine c_cond rfl (fun h98 => ?_) (fun h98 => ?_)
        · try simp only [decide_eq_true_eq, decide_eq_false_iff_not, Bool.not_eq_true', Bool.not_eq_false', Int.not_lt, Int.not_le, Decidable.not_not, beq_iff_eq, bne_iff_ne, ne_eq, beq_eq_false_iff_ne] at h98
          first | (exfalso; omega) | exact absurd rfl h98 | exact absurd h98 (by decide)
        · try simp only [decide_eq_true_eq, decide_eq_false_iff_not, Bool.not_eq_true', Bool.not_eq_false', Int.not_lt, Int.not_le, Decidable.not_not, beq_iff_eq, bne_iff_ne, ne_eq, beq_eq_false_iff_ne] at h98
          refine c_skip ?_
          refine c_seq ?_
          refine c_front (s_get (ks (ks k0)) (s_get (ks (ks k0)) (s_get (ks (ks k0)) (s_get (ks (ks k0)) (s_get k0 (s_get k0 (s_get k0 (s_get k0 (s_get k0 (s_get k0 (s_get k0 s_nil))))))))))) ?_
          refine c_shut q (H.c) (k := en_1.slot.toNat) (by omega) (((H.c en_1.slot.toNat).close).1) ?_
          refine c_region ?_
          refine o_T (y_move rfl) rfl ?_
          refine o_lbs0 (R := rowR) sz_51 rfl (fun v_3 gv_3 hl_3 => ?_)
          refine o_ldw ag_66 rfl (ms (ms (ms (ms (ms m0))))) rfl rfl ?_
          refine o_T (y_move rfl) rfl ?_
          refine o_call en_127 rfl (t127 _ _ _ _ _ _ _ _ _ _ _ _ _ (by assumption) (by assumption) hl_3 (by assumption) hl_2 (by assumption) (by first | exact len_bnd hfr hln | omega) (by first | exact lost_bnd hlo hln | omega)) (s_get (ks (ks (ks (ks (ks (ks k0)))))) (s_get (ks (ks (ks (ks (ks (ks (ks k0))))))) (s_get (ks (ks (ks (ks (ks (ks (ks k0))))))) (s_get k0 (s_get k0 (s_get (ks k0) (s_get (ks k0) s_nil))))))) rfl ?_
          rintro v S' ⟨lk_2, dr_2, v_4, gv_4, gd_3, hlk_2, rfl, hl_4, rfl⟩
          refine o_L (y_assign rfl) rfl rfl ?_
          refine o_nil0 rfl ?_
          refine c_seq ?_
          refine c_region ?_
          refine o_T (y_move rfl) rfl ?_
          refine o_L (y_assign rfl) rfl rfl ?_
          refine o_L (y_assign rfl) rfl rfl ?_
          refine o_nil0 rfl ?_
          refine c_ret ?_
          refine fun aX wX heX hsX => ret2 Tryz.results104 heX rfl rfl (s_get k0 (s_get k0 (s_get k0 (s_get k0 (s_get k0 (s_get (ks (ks k0)) (s_get k0 s_nil))))))) ?_
          subst hob_1
          subst hen_1
          have e1 : H.closeE sd = (H.cn sd).close.2.2 := by unfold Hst.closeE; rw [if_neg (by rw [h89]; decide), if_pos h94]
          have e2 : H.closeF sd = H.emitF (H.ent sd) (H.cn sd).close.2.1 := by unfold Hst.closeF; rw [if_neg (by rw [h89]; decide)]
          have e3 : H.closeH sd = H.aft sd (H.cn sd).close.1 (H.cn sd).close.2.1 := by unfold Hst.closeH; rw [if_neg (by rw [h89]; decide)]
          rw [e2, e3]
          exact .inr ⟨by rw [e1]; assumption, _, _, _, _, _, by assumption, rfl, hl_4.to (List.nil_append _), rfl⟩

end Go.Proofs.Qxb6500351aGreat
