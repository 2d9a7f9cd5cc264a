/- MADE BY PROGRAM (tools/gen.py over tools/specs351.py): walks. -/
import Derived.Test.Qxb6500351aGreatFacts
import Derived.Test.Qxb6500351aGreatW12
import Derived.Test.Qxb6500351aGreatW32
set_option linter.unusedVariables false
set_option linter.unusedSimpArgs false
namespace Go.Proofs.Qxb6500351aGreat
open Go.Eng
set_option maxRecDepth 20000
set_option maxHeartbeats 4000000
/-- (*e2e/host.Host).Info -/
theorem t32 (q : HP) (H : Hst) (lk : Lk) (dr : Nat → Int) (sd : Int) (ok : H.Ok) (hsl : H.err sd = 0 → (H.ent sd).kind = 2 → 0 ≤ (H.ent sd).slot ∧ (H.ent sd).slot < 4) : Trip Tryz.prog 32 #[.pointer (some ⟨q.h, 0, none⟩), .int .i64 sd] [[(q.h, .cells (q.hs H dr).enc 111 (0, 0))], [(q.t, .cells H.t.enc 159 (0, 0))], q.csG H.c] (fun u S' => (H.err sd ≠ 0 ∧ u = .tuple #[.agg Si.zero.enc, .int .i64 21] ∧ S' = [[(q.h, .cells (q.hs H dr).enc 111 (0, 0))], [(q.t, .cells H.t.enc 159 (0, 0))], q.csG H.c]) ∨ (H.err sd = 0 ∧ ∃ (e' : En) (ci : Ci) (b : Nat), e' = H.ent sd ∧ ci = H.infoC sd ∧ u = .tuple #[.agg (Si.mk e' (.pointer (some ⟨b, 0, none⟩))).enc, .int .i64 0] ∧ S' = [[(b, .cells ci.enc 95 (0, 0))], [(q.h, .cells (q.hs H dr).enc 111 (0, 0))], [(q.t, .cells H.t.enc 159 (0, 0))], q.csG H.c])) := by
  have ok0 := ok
  have oa := ok.addr
  have oc := ok.clock
  have ol := ok.lost
  have op := ok.p
  have opa := ok.pa
  have oc4 := ok.c
  have ot := ok.t
  refine fn_entry (args := [.pointer (some ⟨q.h, 0, none⟩), .int .i64 sd]) Tryz.func32 rfl Tryz.ntmps32 rfl (fun w0 => ?_)
  refine c_seq ?_
  refine c_region ?_
  refine o_alloc ze_69 rfl rfl (fun b_1 => ?_)
  refine o_L (y_assign rfl) rfl rfl ?_
  refine o_nil0 rfl ?_
  refine c_seq ?_
  refine c_region ?_
  refine o_T (y_move rfl) rfl ?_
  refine o_T (y_nilck rfl) rfl ?_
  refine o_T (y_fa fl_111_7 rfl) rfl ?_
  refine o_ld one_39 rfl (ms m0) Hs.g17 rfl ?_
  refine o_T (y_move rfl) rfl ?_
  refine o_call en_66 rfl (t66 _ _ _) (s_skip (s_skip (s_take s_nil))) rfl ?_
  rintro v S' ⟨en_1, er_1, hen_1, her_1, rfl, rfl⟩
  refine o_T (y_move rfl) rfl ?_
  refine o_T (y_extract rfl rfl) rfl ?_
  refine o_T (y_extract rfl rfl) rfl ?_
  refine o_alloc ze_66 rfl rfl (fun b_2 => ?_)
  refine o_sta ag_66 rfl rfl rfl rfl r0 (setAll_full _ _ rfl) (of_ble rfl) ?_
  refine o_L (y_assign rfl) rfl rfl ?_
  refine o_nil0 rfl ?_
  refine c_seq ?_
  refine c_seq ?_
  unfold Hst.err Hst.ent at hsl
  rw [← hen_1, ← her_1] at hsl
  refine c_region ?_
  refine o_T (y_move rfl) rfl ?_
  refine o_T (y_neq rfl rfl) rfl ?_
  refine o_nil1 19 rfl rfl ?_
  refine c_cond rfl (fun h59 => ?_) (fun h59 => ?_)
  · try simp only [decide_eq_true_eq, decide_eq_false_iff_not, Bool.not_eq_true', Bool.not_eq_false', Int.not_lt, Int.not_le, Decidable.not_not, beq_iff_eq, bne_iff_ne, ne_eq, beq_eq_false_iff_ne] at h59
    refine c_seq ?_
    refine c_region ?_
    refine o_T (y_build st_69 rfl fb0) rfl ?_
    refine o_sta ag_69 rfl rfl rfl rfl (rs (rs r0)) (setAll_full _ _ rfl) (of_ble rfl) ?_
    refine o_L (y_assign rfl) rfl rfl ?_
    refine o_nil0 rfl ?_
    refine c_ret ?_
    refine fun aX wX heX hsX => retct Tryz.results32 heX hsX rfl rfl ag_69 (ms (ms m0)) rfl (s_get (ks (ks (ks k0))) (s_get (ks k0) (s_get (ks (ks k0)) s_nil))) ?_
    subst her_1
    subst hen_1
    exact .inl ⟨h59, rfl, rfl⟩
  · try simp only [decide_eq_true_eq, decide_eq_false_iff_not, Bool.not_eq_true', Bool.not_eq_false', Int.not_lt, Int.not_le, Decidable.not_not, beq_iff_eq, bne_iff_ne, ne_eq, beq_eq_false_iff_ne] at h59
    refine c_skip ?_
    refine c_seq ?_
    refine c_region ?_
    refine o_ldw ag_66 rfl m0 rfl rfl ?_
    refine o_T (y_build st_69 rfl (fill_Si _)) rfl ?_
    refine o_alloc ze_69 rfl rfl (fun b_3 => ?_)
    refine o_sta ag_69 rfl rfl rfl rfl r0 (setAll_full _ _ rfl) (of_ble rfl) ?_
    refine o_nil0 rfl ?_
    refine c_seq ?_
    refine c_seq ?_
    refine c_region ?_
    refine o_T (y_fa fl_66_1 rfl) rfl ?_
    refine o_ld one_3 rfl (ms m0) En.g1 rfl ?_
    refine o_T (y_eql rfl rfl) rfl ?_
    refine o_nil1 25 rfl rfl ?_
    refine c_cond rfl (fun h63 => ?_) (fun h63 => ?_)
    · try simp only [decide_eq_true_eq, decide_eq_false_iff_not, Bool.not_eq_true', Bool.not_eq_false', Int.not_lt, Int.not_le, Decidable.not_not, beq_iff_eq, bne_iff_ne, ne_eq, beq_eq_false_iff_ne] at h63
      have hk4 := hsl h59 h63
      have okk := oc4 en_1.slot.toNat
      refine c_front (s_get (ks (ks (ks (ks (ks k0))))) (s_get k0 (s_get k0 (s_get k0 (s_get k0 (s_get k0 s_nil)))))) ?_
      refine c_open q (H.c) (k := en_1.slot.toNat) (by omega) ?_
      refine c_draw #[true, true, true, true, true, true, true, false, true, false] rfl (n := 10) rfl ?_
      refine d_T 0 rfl (by kernel_rfl) rfl (y_move rfl) rfl ?_
      refine d_T 1 rfl (by kernel_rfl) rfl (y_fa fl_66_5 rfl) rfl ?_
      refine d_ld 2 rfl (by kernel_rfl) one_3 rfl (fun x hx => hx) (ms (ms (ms (ms (ms m0))))) En.g5 rfl ?_
      refine d_T 3 rfl (by kernel_rfl) rfl (y_nilck rfl) rfl ?_
      refine d_T 4 rfl (by kernel_rfl) rfl (y_fa fl_111_6 rfl) rfl ?_
      refine d_T 5 rfl (by kernel_rfl) rfl (y_ia ar_38 rfl rfl (by omega) (by omega)) rfl ?_
      refine d_ld 6 rfl (by kernel_rfl) one_37 rfl (fun x hx => hx) (ms (ms (ms (ms (ms (ms (ms (ms m0)))))))) (Hs.gr_c _ (by omega) rfl) rfl ?_
      refine d_hard 7 rfl (by kernel_rfl) ?_
      refine o_call en_67 rfl (t67 _ (q.s en_1.slot.toNat) (q.r en_1.slot.toNat) ((H.c) en_1.slot.toNat).x _ _ okk) (s_take (s_take (s_take s_nil))) rfl ?_
      rintro v S' ⟨b_4, rfl, rfl⟩
      refine o_stop (fun h => nomatch h) ?_
      refine d_T 8 rfl (by kernel_rfl) rfl (y_fa fl_69_1 rfl) rfl ?_
      refine d_hard 9 rfl (by kernel_rfl) ?_
      refine o_st one_67 rfl rfl rfl (rs (rs (rs (rs (rs r0))))) Si.s8 (of_blt rfl) ?_
      refine o_stop (fun h => nomatch h) ?_
      refine d_nil0 (by kernel_rfl) rfl ?_
      refine c_seq ?_
      refine c_front (s_get (ks k0) (s_get (ks k0) (s_get (ks k0) (s_get (ks k0) (s_get k0 (s_get k0 (s_get k0 (s_get k0 (s_get k0 (s_get k0 s_nil)))))))))) ?_
      refine c_shut q (H.c) (k := en_1.slot.toNat) (by omega) (H.c en_1.slot.toNat) ?_
      refine c_row (g' := q.csG (H.c)) q0 (by rw [upA_same _ _ _ rfl]) ?_
      refine c_region ?_
      refine o_ldw ag_69 rfl (ms (ms m0)) rfl rfl ?_
      refine o_sta ag_69 rfl rfl rfl rfl (rs (rs (rs (rs (rs r0))))) (setAll_full _ _ rfl) (of_ble rfl) ?_
      refine o_L (y_assign rfl) rfl rfl ?_
      refine o_nil0 rfl ?_
      refine c_ret ?_
      refine fun aX wX heX hsX => retct Tryz.results32 heX hsX rfl rfl ag_69 (ms (ms (ms (ms (ms m0))))) rfl (s_get (ks k0) (s_get (ks (ks (ks (ks (ks k0))))) (s_get (ks (ks (ks k0))) (s_get k0 s_nil)))) ?_
      subst her_1
      subst hen_1
      have e1 : H.infoC sd = (H.c (H.ent sd).slot.toNat).info := by unfold Hst.infoC; rw [if_pos (show (H.ent sd).kind = 2 from h63)]
      exact .inr ⟨h59, _, _, _, rfl, e1.symm, rfl, rfl⟩
    · try simp only [decide_eq_true_eq, decide_eq_false_iff_not, Bool.not_eq_true', Bool.not_eq_false', Int.not_lt, Int.not_le, Decidable.not_not, beq_iff_eq, bne_iff_ne, ne_eq, beq_eq_false_iff_ne] at h63
      refine c_region ?_
      refine o_T (y_build st_95 rfl fb0) rfl ?_
      refine o_box rfl rfl rfl rfl (fun b_5 => ?_)
      refine o_T (y_fa fl_69_1 rfl) rfl ?_
      refine o_st one_67 rfl rfl rfl (rs r0) Si.s8 (of_blt rfl) ?_
      refine o_nil0 rfl ?_
      refine c_seq ?_
      refine c_region ?_
      refine o_ldw ag_69 rfl (ms m0) rfl rfl ?_
      refine o_sta ag_69 rfl rfl rfl rfl (rs (rs (rs (rs r0)))) (setAll_full _ _ rfl) (of_ble rfl) ?_
      refine o_L (y_assign rfl) rfl rfl ?_
      refine o_nil0 rfl ?_
      refine c_ret ?_
      refine fun aX wX heX hsX => retct Tryz.results32 heX hsX rfl rfl ag_69 (ms (ms (ms (ms m0)))) rfl (s_get k0 (s_get (ks (ks (ks (ks k0)))) (s_get (ks (ks k0)) (s_get (ks (ks (ks k0))) s_nil)))) ?_
      subst her_1
      subst hen_1
      have e1 : H.infoC sd = Ci.zero := by unfold Hst.infoC; rw [if_neg (show ¬ (H.ent sd).kind = 2 from h63)]
      exact .inr ⟨h59, _, _, _, rfl, e1.symm, rfl, rfl⟩

end Go.Proofs.Qxb6500351aGreat
