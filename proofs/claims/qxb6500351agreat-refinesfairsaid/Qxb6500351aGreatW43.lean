/- MADE BY PROGRAM (tools/gen.py over tools/specs351.py): walks. -/
import Derived.Test.Qxb6500351aGreatFacts
import Derived.Test.Qxb6500351aGreatW42
set_option linter.unusedVariables false
set_option linter.unusedSimpArgs false
namespace Go.Proofs.Qxb6500351aGreat
open Go.Eng
set_option maxRecDepth 20000
set_option maxHeartbeats 4000000
/-- (*e2e/host.Host).Check -/
theorem t25 (q : HP) (H : Hst) (lk : Lk) (dr : Nat → Int)  (ok : H.Ok) (hlk : lk.addr = H.addr) (hck : H.ChkOk) : Trip Tryz.prog 25 #[.pointer (some ⟨q.h, 0, none⟩)] [[(q.h, .cells (q.hs H dr).enc 111 (0, 0))], [(q.l, .cells lk.enc 146 (0, 0))], [(q.p, .cells H.p.enc 153 (0, 0))], [(q.t, .cells H.t.enc 159 (0, 0))], q.csG H.c] (fun u S' => u = .bool true ∧ S' = [[(q.h, .cells (q.hs H dr).enc 111 (0, 0))], [(q.l, .cells lk.enc 146 (0, 0))], [(q.p, .cells H.p.enc 153 (0, 0))], [(q.t, .cells H.t.enc 159 (0, 0))], q.csG H.c]) := by
  have ok0 := ok
  have oa := ok.addr
  have oc := ok.clock
  have ol := ok.lost
  have op := ok.p
  have opa := ok.pa
  have oc4 := ok.c
  have ot := ok.t
  have hll := H.t.list_len
  have hlk2 : 0 ≤ lk.addr ∧ lk.addr < 256 := by omega
  refine fn_entry (args := [.pointer (some ⟨q.h, 0, none⟩)]) Tryz.func25 rfl Tryz.ntmps25 rfl (fun w0 => ?_)
  refine c_seq ?_
  refine c_region ?_
  refine o_L (y_assign rfl) rfl rfl ?_
  refine o_nil0 rfl ?_
  refine c_seq ?_
  refine c_region ?_
  refine o_alloc ze_108 rfl rfl (fun b_1 => ?_)
  refine o_nil0 rfl ?_
  refine c_seq ?_
  refine c_row (g' := [(b_1, .cells (uV (fun _ => false)) 108 (0, 0))]) q0 rfl ?_
  refine c_region ?_
  refine o_T (y_move rfl) rfl ?_
  refine o_T (y_nilck rfl) rfl ?_
  refine o_T (y_fa fl_111_7 rfl) rfl ?_
  refine o_ld one_39 rfl (ms m0) Hs.g17 rfl ?_
  refine o_call en_65 rfl (t65 _ _) (s_skip (s_skip (s_skip (s_skip (s_take s_nil))))) rfl ?_
  rintro v S' ⟨b_2, rfl, rfl⟩
  refine o_L (y_assign rfl) rfl rfl ?_
  refine o_nil0 rfl ?_
  refine c_seq ?_
  refine c_seq ?_
  refine c_region ?_
  refine o_L (y_assign rfl) rfl rfl ?_
  refine o_nil0 rfl ?_
  refine c_block ?_
  refine c_loopG (ι := Nat × (Nat → Bool)) (fun i_ => [(5, .int .i64 (i_.1 : Int))]) (fun i_ => [[(b_1, .cells (uV i_.2) 108 (0, 0))]]) (fun i_ => i_.1 ≤ H.t.list.length ∧ ∀ s, s < 4 → (i_.2 s = true ↔ H.used i_.1 s)) (fun i_ => H.t.list.length - i_.1) (0, fun _ => false) (by exact ⟨Nat.zero_le _, fun s hs => Hst.used_zero⟩) ⟨by first | rfl | exact gteI rfl (by omega), trivial⟩ (s_get (ks (ks k0)) (s_get k0 (s_get k0 (s_get k0 (s_get k0 (s_get k0 (s_get k0 s_nil))))))) ?_
  rintro ⟨k, f⟩ ⟨g1, g2⟩
  try dsimp only [List.cons_append, List.nil_append] at *
  refine c_seq ?_
  refine c_seq ?_
  refine c_region ?_
  refine o_T (y_move rfl) rfl ?_
  refine o_T (y_move rfl) rfl ?_
  refine o_T (y_len Tryz.underlying46 rfl) rfl ?_
  refine o_T (y_lss rfl rfl) rfl ?_
  refine o_nil1 18 rfl rfl ?_
  refine c_cond rfl (fun h76 => ?_) (fun h76 => ?_)
  · try simp only [decide_eq_true_eq, decide_eq_false_iff_not, Bool.not_eq_true', Bool.not_eq_false', Int.not_lt, Int.not_le, Decidable.not_not, beq_iff_eq, bne_iff_ne, ne_eq, beq_eq_false_iff_ne] at h76
    refine c_skip ?_
    refine c_seq ?_
    refine c_block ?_
    refine c_seq ?_
    refine c_draw #[true, true, true, true, true, true, true, true, false, true, true, true, true, false, true] rfl (n := 15) rfl ?_
    refine d_T 0 rfl (by kernel_rfl) rfl (y_move rfl) rfl ?_
    refine d_T 1 rfl (by kernel_rfl) rfl (y_nilck rfl) rfl ?_
    refine d_T 2 rfl (by kernel_rfl) rfl (y_fa fl_111_7 rfl) rfl ?_
    refine d_ld 3 rfl (by kernel_rfl) one_39 rfl (fun x hx => hx) (ms (ms (ms m0))) Hs.g17 rfl ?_
    refine d_T 4 rfl (by kernel_rfl) rfl (y_move rfl) rfl ?_
    refine d_T 5 rfl (by kernel_rfl) rfl (y_move rfl) rfl ?_
    refine d_T 6 rfl (by kernel_rfl) rfl (y_is sl_46 rfl rfl (by omega) (by omega)) rfl ?_
    refine d_ld 7 rfl (by kernel_rfl) one_3 rfl (fun x hx => hx) (ms m0) (iV_get k (by omega) (by omega)) rfl ?_
    refine d_hard2A 12 8 (l := [8, 12]) rfl rfl (by kernel_rfl) (by first | exact .inl rfl | exact .inr rfl) ze_66 rfl rfl (fun b_3 => ?_) ?_
    · skip
      refine d_hard 8 rfl (by kernel_rfl) ?_
      refine o_call en_66 rfl (t66 _ _ _) (s_skip (s_skip (s_skip (s_take s_nil)))) rfl ?_
      rintro v S' ⟨en_1, er_1, hen_1, her_1, rfl, rfl⟩
      refine o_stop (fun h => nomatch h) ?_
      refine d_T 9 rfl (by kernel_rfl) rfl (y_move rfl) rfl ?_
      refine d_T 10 rfl (by kernel_rfl) rfl (y_extract rfl rfl) rfl ?_
      refine d_T 11 rfl (by kernel_rfl) rfl (y_extract rfl rfl) rfl ?_
      refine d_hard 13 rfl (by kernel_rfl) ?_
      refine o_sta ag_66 rfl rfl rfl rfl (rs r0) (setAll_full _ _ rfl) (of_ble rfl) ?_
      refine o_stop (fun h => nomatch h) ?_
      refine d_L 14 rfl (by kernel_rfl) rfl (y_assign rfl) rfl rfl ?_
      refine d_nil0 (by kernel_rfl) rfl ?_
      refine c_seq ?_
      refine c_seq ?_
      obtain ⟨hr1, hr2⟩ := hck.row k (by omega)
      unfold Hst.err at hr1
      unfold Hst.cn Hst.ent at hr2
      rw [← her_1] at hr1
      rw [← hen_1] at hr2
      refine c_region ?_
      refine o_T (y_move rfl) rfl ?_
      refine o_T (y_neq rfl rfl) rfl ?_
      refine o_nil1 34 rfl rfl ?_
      refine c_cond rfl (fun h78 => ?_) (fun h78 => ?_)
      · try simp only [decide_eq_true_eq, decide_eq_false_iff_not, Bool.not_eq_true', Bool.not_eq_false', Int.not_lt, Int.not_le, Decidable.not_not, beq_iff_eq, bne_iff_ne, ne_eq, beq_eq_false_iff_ne] at h78
        exfalso; omega
      · try simp only [decide_eq_true_eq, decide_eq_false_iff_not, Bool.not_eq_true', Bool.not_eq_false', Int.not_lt, Int.not_le, Decidable.not_not, beq_iff_eq, bne_iff_ne, ne_eq, beq_eq_false_iff_ne] at h78
        refine c_skip ?_
        refine c_seq ?_
        refine c_seq ?_
        refine c_region ?_
        refine o_T (y_fa fl_66_1 rfl) rfl ?_
        refine o_ld one_3 rfl (ms m0) En.g1 rfl ?_
        refine o_T (y_neq rfl rfl) rfl ?_
        refine o_nil1 37 rfl rfl ?_
        refine c_cond rfl (fun h81 => ?_) (fun h81 => ?_)
        · try simp only [decide_eq_true_eq, decide_eq_false_iff_not, Bool.not_eq_true', Bool.not_eq_false', Int.not_lt, Int.not_le, Decidable.not_not, beq_iff_eq, bne_iff_ne, ne_eq, beq_eq_false_iff_ne] at h81
          refine c_exit ?_
          refine c_region ?_
          refine o_T (y_move rfl) rfl ?_
          refine o_T (y_add rfl rfl (w64 (by omega))) rfl ?_
          refine o_L (y_assign rfl) rfl rfl ?_
          refine o_nil0 rfl ?_
          subst her_1
          subst hen_1
          refine ⟨(k + 1, f), ⟨⟨by omega, fun s hs => (g2 s hs).trans (Hst.used_skip h81).symm⟩, by dsimp only; omega⟩, ⟨gteI rfl (by dsimp only; omega), trivial⟩, ⟨rfl, rfl⟩, _, ((s_get (ks (ks k0)) (s_get (ks (ks k0)) (s_get k0 (s_get (ks k0) (s_get (ks k0) (s_get (ks k0) (s_get (ks k0) s_nil))))))))⟩
        · try simp only [decide_eq_true_eq, decide_eq_false_iff_not, Bool.not_eq_true', Bool.not_eq_false', Int.not_lt, Int.not_le, Decidable.not_not, beq_iff_eq, bne_iff_ne, ne_eq, beq_eq_false_iff_ne] at h81
          refine c_skip ?_
          refine c_seq ?_
          refine c_seq ?_
          obtain ⟨hr3, hr4, hr5, hr6⟩ := hr2 h81
          refine c_region ?_
          refine o_T (y_fa fl_66_5 rfl) rfl ?_
          refine o_ld one_3 rfl (ms m0) En.g5 rfl ?_
          refine o_T (y_lss rfl rfl) rfl ?_
          refine o_T (y_move rfl) rfl ?_
          refine o_split 41 rfl (fun h84 => ?_) (fun h84 => ?_)
          · try simp only [decide_eq_true_eq, decide_eq_false_iff_not, Bool.not_eq_true', Bool.not_eq_false', Int.not_lt, Int.not_le, Decidable.not_not, beq_iff_eq, bne_iff_ne, ne_eq, beq_eq_false_iff_ne] at h84
            exfalso; omega
          · try simp only [decide_eq_true_eq, decide_eq_false_iff_not, Bool.not_eq_true', Bool.not_eq_false', Int.not_lt, Int.not_le, Decidable.not_not, beq_iff_eq, bne_iff_ne, ne_eq, beq_eq_false_iff_ne] at h84
            refine o_take rfl rfl rfl ?_
            refine o_T (y_fa fl_66_5 rfl) rfl ?_
            refine o_take rfl rfl rfl ?_
            refine o_ld one_3 rfl (ms m0) En.g5 rfl ?_
            refine o_take rfl rfl rfl ?_
            refine o_T (y_geq rfl rfl) rfl ?_
            refine o_T (y_pickF rfl rfl) rfl ?_
            refine o_T (y_move rfl) rfl ?_
            refine o_split 46 rfl (fun h84_1 => ?_) (fun h84_1 => ?_)
            · try simp only [decide_eq_true_eq, decide_eq_false_iff_not, Bool.not_eq_true', Bool.not_eq_false', Int.not_lt, Int.not_le, Decidable.not_not, beq_iff_eq, bne_iff_ne, ne_eq, beq_eq_false_iff_ne] at h84_1
              exfalso; omega
            · try simp only [decide_eq_true_eq, decide_eq_false_iff_not, Bool.not_eq_true', Bool.not_eq_false', Int.not_lt, Int.not_le, Decidable.not_not, beq_iff_eq, bne_iff_ne, ne_eq, beq_eq_false_iff_ne] at h84_1
              refine o_take rfl rfl rfl ?_
              refine o_T (y_fa fl_66_5 rfl) rfl ?_
              refine o_take rfl rfl rfl ?_
              refine o_ld one_3 rfl (ms m0) En.g5 rfl ?_
              refine o_take rfl rfl rfl ?_
              refine o_T (y_ia ar_108 rfl rfl (by omega) (by omega)) rfl ?_
              refine o_take rfl rfl rfl ?_
              refine o_ld one_4 rfl (ms (ms m0)) (uV_get _ (by omega) rfl) rfl ?_
              refine o_T (y_pickF rfl rfl) rfl ?_
              refine o_nil1 51 rfl rfl ?_
              refine c_cond rfl (fun h84_2 => ?_) (fun h84_2 => ?_)
              · try simp only [decide_eq_true_eq, decide_eq_false_iff_not, Bool.not_eq_true', Bool.not_eq_false', Int.not_lt, Int.not_le, Decidable.not_not, beq_iff_eq, bne_iff_ne, ne_eq, beq_eq_false_iff_ne] at h84_2
                obtain ⟨j, hj, hj1, hj2⟩ := (g2 _ (by omega)).1 h84_2; exact absurd hj2 (hr6 j hj hj1)
              · try simp only [decide_eq_true_eq, decide_eq_false_iff_not, Bool.not_eq_true', Bool.not_eq_false', Int.not_lt, Int.not_le, Decidable.not_not, beq_iff_eq, bne_iff_ne, ne_eq, beq_eq_false_iff_ne] at h84_2
                refine c_skip ?_
                refine c_seq ?_
                refine c_region ?_
                refine o_T (y_fa fl_66_5 rfl) rfl ?_
                refine o_ld one_3 rfl (ms m0) En.g5 rfl ?_
                refine o_T (y_ia ar_108 rfl rfl (by omega) (by omega)) rfl ?_
                refine o_st one_4 rfl rfl rfl (rs (rs r0)) (uV_set _ (by omega) rfl) (by rw [uV_size]; omega) ?_
                refine o_nil0 rfl ?_
                refine c_seq ?_
                have okk := oc4 en_1.slot.toNat
                refine c_front (s_get (ks (ks (ks (ks (ks (ks (ks k0))))))) (s_get k0 (s_get k0 (s_get k0 (s_get k0 (s_get k0 (s_get k0 (s_get k0 s_nil)))))))) ?_
                refine c_open q (H.c) (k := en_1.slot.toNat) (by omega) ?_
                refine c_draw #[true, true, true, true, true, true, true, false, true, true, true, true] rfl (n := 12) rfl ?_
                refine d_T 0 rfl (by kernel_rfl) rfl (y_move rfl) rfl ?_
                refine d_T 1 rfl (by kernel_rfl) rfl (y_fa fl_66_5 rfl) rfl ?_
                refine d_ld 2 rfl (by kernel_rfl) one_3 rfl (fun x hx => hx) (ms (ms (ms (ms (ms m0))))) En.g5 rfl ?_
                refine d_T 3 rfl (by kernel_rfl) rfl (y_nilck rfl) rfl ?_
                refine d_T 4 rfl (by kernel_rfl) rfl (y_fa fl_111_6 rfl) rfl ?_
                refine d_T 5 rfl (by kernel_rfl) rfl (y_ia ar_38 rfl rfl (by omega) (by omega)) rfl ?_
                refine d_ld 6 rfl (by kernel_rfl) one_37 rfl (fun x hx => hx) (ms (ms (ms (ms (ms (ms (ms (ms m0)))))))) (Hs.gr_c _ (by omega) rfl) rfl ?_
                refine d_hard 7 rfl (by kernel_rfl) ?_
                refine o_call en_67 rfl (t67 _ (q.s en_1.slot.toNat) (q.r en_1.slot.toNat) ((H.c) en_1.slot.toNat).x _ _ okk) (s_take (s_take (s_take s_nil))) rfl ?_
                rintro v S' ⟨b_4, rfl, rfl⟩
                refine o_stop (fun h => nomatch h) ?_
                refine d_T 8 rfl (by kernel_rfl) rfl (y_nilck rfl) rfl ?_
                refine d_T 9 rfl (by kernel_rfl) rfl (y_fa fl_95_0 rfl) rfl ?_
                refine d_hard 10 rfl (by kernel_rfl) ?_
                refine o_ld one_3 rfl m0 Ci.g0 rfl ?_
                refine o_stop (fun _ => (fun x hx => (ms hx))) ?_
                refine d_L 11 rfl (by kernel_rfl) rfl (y_assign rfl) rfl rfl ?_
                refine d_nil0 (by kernel_rfl) rfl ?_
                refine c_seq ?_
                refine c_seq ?_
                refine c_front (s_get (ks k0) (s_get (ks k0) (s_get (ks k0) (s_get (ks k0) (s_get k0 (s_get k0 (s_get k0 (s_get k0 (s_get k0 (s_get k0 (s_get k0 (s_get k0 s_nil)))))))))))) ?_
                refine c_shut q (H.c) (k := en_1.slot.toNat) (by omega) (H.c en_1.slot.toNat) ?_
                refine c_row (g' := q.csG (H.c)) q0 (by rw [upA_same _ _ _ rfl]) ?_
                refine c_region ?_
                refine o_T (y_move rfl) rfl ?_
                refine o_T (y_eql rfl rfl) rfl ?_
                refine o_nil1 67 rfl rfl ?_
                refine c_cond rfl (fun h89 => ?_) (fun h89 => ?_)
                · try simp only [decide_eq_true_eq, decide_eq_false_iff_not, Bool.not_eq_true', Bool.not_eq_false', Int.not_lt, Int.not_le, Decidable.not_not, beq_iff_eq, bne_iff_ne, ne_eq, beq_eq_false_iff_ne] at h89
                  exact absurd h89 hr4
                · try simp only [decide_eq_true_eq, decide_eq_false_iff_not, Bool.not_eq_true', Bool.not_eq_false', Int.not_lt, Int.not_le, Decidable.not_not, beq_iff_eq, bne_iff_ne, ne_eq, beq_eq_false_iff_ne] at h89
                  refine c_skip ?_
                  refine c_seq ?_
                  refine c_joinE (ι := Unit) (fun i => [(77, .bool false)]) (fun i => True) (fun _ _ h => h) ?_ ?_
                  · skip
                    refine c_region ?_
                    refine o_T (y_fa fl_66_7 rfl) rfl ?_
                    refine o_ld one_4 rfl (ms (ms (ms m0))) En.g7 rfl ?_
                    refine o_T (y_move rfl) rfl ?_
                    refine o_split 70 rfl (fun h92 => ?_) (fun h92 => ?_)
                    · try simp only [decide_eq_true_eq, decide_eq_false_iff_not, Bool.not_eq_true', Bool.not_eq_false', Int.not_lt, Int.not_le, Decidable.not_not, beq_iff_eq, bne_iff_ne, ne_eq, beq_eq_false_iff_ne] at h92
                      refine o_take rfl rfl rfl ?_
                      refine o_T (y_move rfl) rfl ?_
                      refine o_take rfl rfl rfl ?_
                      refine o_T (y_neq rfl rfl) rfl ?_
                      refine o_T (y_pickT rfl rfl) rfl ?_
                      refine o_T (y_move rfl) rfl ?_
                      refine o_split 74 rfl (fun h92_1 => ?_) (fun h92_1 => ?_)
                      · try simp only [decide_eq_true_eq, decide_eq_false_iff_not, Bool.not_eq_true', Bool.not_eq_false', Int.not_lt, Int.not_le, Decidable.not_not, beq_iff_eq, bne_iff_ne, ne_eq, beq_eq_false_iff_ne] at h92_1
                        refine o_take rfl rfl rfl ?_
                        refine o_T (y_move rfl) rfl ?_
                        refine o_take rfl rfl rfl ?_
                        refine o_T (y_neq rfl rfl) rfl ?_
                        refine o_T (y_pickT rfl rfl) rfl ?_
                        refine o_nil1 77 rfl rfl ?_
                        refine ⟨(), trivial, ⟨gte rfl (congrArg Value.bool (by first | rfl | exact decide_eq_false (fun z => by rcases hr5 (by assumption) with w | w <;> first | exact z w | exact absurd w (by assumption)))), trivial⟩, ⟨rfl, rfl⟩, _, ((s_take (s_take (s_take (s_take (s_take (s_take (s_take (s_take (s_take s_nil))))))))))⟩
                      · try simp only [decide_eq_true_eq, decide_eq_false_iff_not, Bool.not_eq_true', Bool.not_eq_false', Int.not_lt, Int.not_le, Decidable.not_not, beq_iff_eq, bne_iff_ne, ne_eq, beq_eq_false_iff_ne] at h92_1
                        refine o_pass rfl rfl rfl rfl rfl ?_
                        refine o_pass rfl rfl rfl rfl rfl ?_
                        refine o_T (y_pickF rfl rfl) rfl ?_
                        refine o_nil1 77 rfl rfl ?_
                        refine ⟨(), trivial, ⟨gte rfl (congrArg Value.bool (by first | rfl | exact decide_eq_false (fun z => by rcases hr5 (by assumption) with w | w <;> first | exact z w | exact absurd w (by assumption)))), trivial⟩, ⟨rfl, rfl⟩, _, ((s_take (s_take (s_take (s_take (s_take (s_take (s_take (s_take (s_take s_nil))))))))))⟩
                    · try simp only [decide_eq_true_eq, decide_eq_false_iff_not, Bool.not_eq_true', Bool.not_eq_false', Int.not_lt, Int.not_le, Decidable.not_not, beq_iff_eq, bne_iff_ne, ne_eq, beq_eq_false_iff_ne] at h92
                      refine o_pass rfl rfl rfl rfl rfl ?_
                      refine o_pass rfl rfl rfl rfl rfl ?_
                      refine o_T (y_pickF rfl rfl) rfl ?_
                      refine o_T (y_move rfl) rfl ?_
                      refine o_pass rfl rfl rfl rfl rfl ?_
                      refine o_pass rfl rfl rfl rfl rfl ?_
                      refine o_T (y_pickF rfl rfl) rfl ?_
                      refine o_nil1 77 rfl rfl ?_
                      refine ⟨(), trivial, ⟨gte rfl (congrArg Value.bool (by first | rfl | exact decide_eq_false (fun z => by rcases hr5 (by assumption) with w | w <;> first | exact z w | exact absurd w (by assumption)))), trivial⟩, ⟨rfl, rfl⟩, _, ((s_take (s_take (s_take (s_take (s_take (s_take (s_take (s_take (s_take s_nil))))))))))⟩
                  · rintro ⟨⟩ hI
                    try dsimp only at hI
                    refine c_condF rfl ?_
                    refine c_skip ?_
                    refine c_region ?_
                    refine o_T (y_move rfl) rfl ?_
                    refine o_T (y_add rfl rfl (w64 (by omega))) rfl ?_
                    refine o_L (y_assign rfl) rfl rfl ?_
                    refine o_nil0 rfl ?_
                    subst her_1
                    subst hen_1
                    refine ⟨(k + 1, upA f (H.ent (H.t.list.getD k 0)).slot.toNat true), ⟨⟨by omega, Hst.used_add h81 g2⟩, by dsimp only; omega⟩, ⟨gteI rfl (by dsimp only; omega), trivial⟩, ⟨rfl, rfl⟩, _, ((s_get (ks (ks (ks (ks k0)))) (s_get (ks (ks (ks (ks k0)))) (s_get (ks (ks k0)) (s_get (ks (ks (ks k0))) (s_get (ks (ks (ks k0))) (s_get (ks (ks (ks k0))) (s_get k0 s_nil))))))))⟩
    · skip
      refine o_call en_66 rfl (t66 _ _ _) (s_skip (s_skip (s_take s_nil))) rfl ?_
      rintro v S' ⟨en_2, er_2, hen_2, her_2, rfl, rfl⟩
      refine o_stop (fun h => nomatch h) ?_
      refine d_T 9 rfl (by kernel_rfl) rfl (y_move rfl) rfl ?_
      refine d_T 10 rfl (by kernel_rfl) rfl (y_extract rfl rfl) rfl ?_
      refine d_T 11 rfl (by kernel_rfl) rfl (y_extract rfl rfl) rfl ?_
      refine d_hardA 12 rfl (by kernel_rfl) ze_66 rfl rfl (fun b_5 => ?_)
      refine d_hard 13 rfl (by kernel_rfl) ?_
      refine o_sta ag_66 rfl rfl rfl rfl r0 (setAll_full _ _ rfl) (of_ble rfl) ?_
      refine o_stop (fun h => nomatch h) ?_
      refine d_L 14 rfl (by kernel_rfl) rfl (y_assign rfl) rfl rfl ?_
      refine d_nil0 (by kernel_rfl) rfl ?_
      refine c_seq ?_
      refine c_seq ?_
      obtain ⟨hr1, hr2⟩ := hck.row k (by omega)
      unfold Hst.err at hr1
      unfold Hst.cn Hst.ent at hr2
      rw [← her_2] at hr1
      rw [← hen_2] at hr2
      refine c_region ?_
      refine o_T (y_move rfl) rfl ?_
      refine o_T (y_neq rfl rfl) rfl ?_
      refine o_nil1 34 rfl rfl ?_
      refine c_cond rfl (fun h78 => ?_) (fun h78 => ?_)
      · try simp only [decide_eq_true_eq, decide_eq_false_iff_not, Bool.not_eq_true', Bool.not_eq_false', Int.not_lt, Int.not_le, Decidable.not_not, beq_iff_eq, bne_iff_ne, ne_eq, beq_eq_false_iff_ne] at h78
        exfalso; omega
      · try simp only [decide_eq_true_eq, decide_eq_false_iff_not, Bool.not_eq_true', Bool.not_eq_false', Int.not_lt, Int.not_le, Decidable.not_not, beq_iff_eq, bne_iff_ne, ne_eq, beq_eq_false_iff_ne] at h78
        refine c_skip ?_
        refine c_seq ?_
        refine c_seq ?_
        refine c_region ?_
        refine o_T (y_fa fl_66_1 rfl) rfl ?_
        refine o_ld one_3 rfl m0 En.g1 rfl ?_
        refine o_T (y_neq rfl rfl) rfl ?_
        refine o_nil1 37 rfl rfl ?_
        refine c_cond rfl (fun h81 => ?_) (fun h81 => ?_)
        · try simp only [decide_eq_true_eq, decide_eq_false_iff_not, Bool.not_eq_true', Bool.not_eq_false', Int.not_lt, Int.not_le, Decidable.not_not, beq_iff_eq, bne_iff_ne, ne_eq, beq_eq_false_iff_ne] at h81
          refine c_exit ?_
          refine c_region ?_
          refine o_T (y_move rfl) rfl ?_
          refine o_T (y_add rfl rfl (w64 (by omega))) rfl ?_
          refine o_L (y_assign rfl) rfl rfl ?_
          refine o_nil0 rfl ?_
          subst her_2
          subst hen_2
          refine ⟨(k + 1, f), ⟨⟨by omega, fun s hs => (g2 s hs).trans (Hst.used_skip h81).symm⟩, by dsimp only; omega⟩, ⟨gteI rfl (by dsimp only; omega), trivial⟩, ⟨rfl, rfl⟩, _, ((s_get (ks (ks k0)) (s_get (ks (ks k0)) (s_get (ks k0) (s_get (ks k0) (s_get (ks k0) (s_get (ks k0) (s_get (ks k0) s_nil))))))))⟩
        · try simp only [decide_eq_true_eq, decide_eq_false_iff_not, Bool.not_eq_true', Bool.not_eq_false', Int.not_lt, Int.not_le, Decidable.not_not, beq_iff_eq, bne_iff_ne, ne_eq, beq_eq_false_iff_ne] at h81
          refine c_skip ?_
          refine c_seq ?_
          refine c_seq ?_
          obtain ⟨hr3, hr4, hr5, hr6⟩ := hr2 h81
          refine c_region ?_
          refine o_T (y_fa fl_66_5 rfl) rfl ?_
          refine o_ld one_3 rfl m0 En.g5 rfl ?_
          refine o_T (y_lss rfl rfl) rfl ?_
          refine o_T (y_move rfl) rfl ?_
          refine o_split 41 rfl (fun h84 => ?_) (fun h84 => ?_)
          · try simp only [decide_eq_true_eq, decide_eq_false_iff_not, Bool.not_eq_true', Bool.not_eq_false', Int.not_lt, Int.not_le, Decidable.not_not, beq_iff_eq, bne_iff_ne, ne_eq, beq_eq_false_iff_ne] at h84
            exfalso; omega
          · try simp only [decide_eq_true_eq, decide_eq_false_iff_not, Bool.not_eq_true', Bool.not_eq_false', Int.not_lt, Int.not_le, Decidable.not_not, beq_iff_eq, bne_iff_ne, ne_eq, beq_eq_false_iff_ne] at h84
            refine o_take rfl rfl rfl ?_
            refine o_T (y_fa fl_66_5 rfl) rfl ?_
            refine o_take rfl rfl rfl ?_
            refine o_ld one_3 rfl m0 En.g5 rfl ?_
            refine o_take rfl rfl rfl ?_
            refine o_T (y_geq rfl rfl) rfl ?_
            refine o_T (y_pickF rfl rfl) rfl ?_
            refine o_T (y_move rfl) rfl ?_
            refine o_split 46 rfl (fun h84_1 => ?_) (fun h84_1 => ?_)
            · try simp only [decide_eq_true_eq, decide_eq_false_iff_not, Bool.not_eq_true', Bool.not_eq_false', Int.not_lt, Int.not_le, Decidable.not_not, beq_iff_eq, bne_iff_ne, ne_eq, beq_eq_false_iff_ne] at h84_1
              exfalso; omega
            · try simp only [decide_eq_true_eq, decide_eq_false_iff_not, Bool.not_eq_true', Bool.not_eq_false', Int.not_lt, Int.not_le, Decidable.not_not, beq_iff_eq, bne_iff_ne, ne_eq, beq_eq_false_iff_ne] at h84_1
              refine o_take rfl rfl rfl ?_
              refine o_T (y_fa fl_66_5 rfl) rfl ?_
              refine o_take rfl rfl rfl ?_
              refine o_ld one_3 rfl m0 En.g5 rfl ?_
              refine o_take rfl rfl rfl ?_
              refine o_T (y_ia ar_108 rfl rfl (by omega) (by omega)) rfl ?_
              refine o_take rfl rfl rfl ?_
              refine o_ld one_4 rfl (ms (ms m0)) (uV_get _ (by omega) rfl) rfl ?_
              refine o_T (y_pickF rfl rfl) rfl ?_
              refine o_nil1 51 rfl rfl ?_
              refine c_cond rfl (fun h84_2 => ?_) (fun h84_2 => ?_)
              · try simp only [decide_eq_true_eq, decide_eq_false_iff_not, Bool.not_eq_true', Bool.not_eq_false', Int.not_lt, Int.not_le, Decidable.not_not, beq_iff_eq, bne_iff_ne, ne_eq, beq_eq_false_iff_ne] at h84_2
                obtain ⟨j, hj, hj1, hj2⟩ := (g2 _ (by omega)).1 h84_2; exact absurd hj2 (hr6 j hj hj1)
              · try simp only [decide_eq_true_eq, decide_eq_false_iff_not, Bool.not_eq_true', Bool.not_eq_false', Int.not_lt, Int.not_le, Decidable.not_not, beq_iff_eq, bne_iff_ne, ne_eq, beq_eq_false_iff_ne] at h84_2
                refine c_skip ?_
                refine c_seq ?_
                refine c_region ?_
                refine o_T (y_fa fl_66_5 rfl) rfl ?_
                refine o_ld one_3 rfl m0 En.g5 rfl ?_
                refine o_T (y_ia ar_108 rfl rfl (by omega) (by omega)) rfl ?_
                refine o_st one_4 rfl rfl rfl (rs (rs r0)) (uV_set _ (by omega) rfl) (by rw [uV_size]; omega) ?_
                refine o_nil0 rfl ?_
                refine c_seq ?_
                have okk := oc4 en_2.slot.toNat
                refine c_front (s_get (ks (ks (ks (ks (ks (ks (ks k0))))))) (s_get k0 (s_get k0 (s_get k0 (s_get k0 (s_get k0 (s_get k0 (s_get k0 s_nil)))))))) ?_
                refine c_open q (H.c) (k := en_2.slot.toNat) (by omega) ?_
                refine c_draw #[true, true, true, true, true, true, true, false, true, true, true, true] rfl (n := 12) rfl ?_
                refine d_T 0 rfl (by kernel_rfl) rfl (y_move rfl) rfl ?_
                refine d_T 1 rfl (by kernel_rfl) rfl (y_fa fl_66_5 rfl) rfl ?_
                refine d_ld 2 rfl (by kernel_rfl) one_3 rfl (fun x hx => hx) (ms (ms (ms (ms m0)))) En.g5 rfl ?_
                refine d_T 3 rfl (by kernel_rfl) rfl (y_nilck rfl) rfl ?_
                refine d_T 4 rfl (by kernel_rfl) rfl (y_fa fl_111_6 rfl) rfl ?_
                refine d_T 5 rfl (by kernel_rfl) rfl (y_ia ar_38 rfl rfl (by omega) (by omega)) rfl ?_
                refine d_ld 6 rfl (by kernel_rfl) one_37 rfl (fun x hx => hx) (ms (ms (ms (ms (ms (ms (ms (ms m0)))))))) (Hs.gr_c _ (by omega) rfl) rfl ?_
                refine d_hard 7 rfl (by kernel_rfl) ?_
                refine o_call en_67 rfl (t67 _ (q.s en_2.slot.toNat) (q.r en_2.slot.toNat) ((H.c) en_2.slot.toNat).x _ _ okk) (s_take (s_take (s_take s_nil))) rfl ?_
                rintro v S' ⟨b_6, rfl, rfl⟩
                refine o_stop (fun h => nomatch h) ?_
                refine d_T 8 rfl (by kernel_rfl) rfl (y_nilck rfl) rfl ?_
                refine d_T 9 rfl (by kernel_rfl) rfl (y_fa fl_95_0 rfl) rfl ?_
                refine d_hard 10 rfl (by kernel_rfl) ?_
                refine o_ld one_3 rfl m0 Ci.g0 rfl ?_
                refine o_stop (fun _ => (fun x hx => (ms hx))) ?_
                refine d_L 11 rfl (by kernel_rfl) rfl (y_assign rfl) rfl rfl ?_
                refine d_nil0 (by kernel_rfl) rfl ?_
                refine c_seq ?_
                refine c_seq ?_
                refine c_front (s_get (ks k0) (s_get (ks k0) (s_get (ks k0) (s_get (ks k0) (s_get k0 (s_get k0 (s_get k0 (s_get k0 (s_get k0 (s_get k0 (s_get k0 (s_get k0 s_nil)))))))))))) ?_
                refine c_shut q (H.c) (k := en_2.slot.toNat) (by omega) (H.c en_2.slot.toNat) ?_
                refine c_row (g' := q.csG (H.c)) q0 (by rw [upA_same _ _ _ rfl]) ?_
                refine c_region ?_
                refine o_T (y_move rfl) rfl ?_
                refine o_T (y_eql rfl rfl) rfl ?_
                refine o_nil1 67 rfl rfl ?_
                refine c_cond rfl (fun h89 => ?_) (fun h89 => ?_)
                · try simp only [decide_eq_true_eq, decide_eq_false_iff_not, Bool.not_eq_true', Bool.not_eq_false', Int.not_lt, Int.not_le, Decidable.not_not, beq_iff_eq, bne_iff_ne, ne_eq, beq_eq_false_iff_ne] at h89
                  exact absurd h89 hr4
                · try simp only [decide_eq_true_eq, decide_eq_false_iff_not, Bool.not_eq_true', Bool.not_eq_false', Int.not_lt, Int.not_le, Decidable.not_not, beq_iff_eq, bne_iff_ne, ne_eq, beq_eq_false_iff_ne] at h89
                  refine c_skip ?_
                  refine c_seq ?_
                  refine c_region ?_
                  refine o_T (y_fa fl_66_7 rfl) rfl ?_
                  refine o_ld one_4 rfl (ms (ms m0)) En.g7 rfl ?_
                  refine o_T (y_move rfl) rfl ?_
                  refine o_split 70 rfl (fun h92 => ?_) (fun h92 => ?_)
                  · try simp only [decide_eq_true_eq, decide_eq_false_iff_not, Bool.not_eq_true', Bool.not_eq_false', Int.not_lt, Int.not_le, Decidable.not_not, beq_iff_eq, bne_iff_ne, ne_eq, beq_eq_false_iff_ne] at h92
                    refine o_take rfl rfl rfl ?_
                    refine o_T (y_move rfl) rfl ?_
                    refine o_take rfl rfl rfl ?_
                    refine o_T (y_neq rfl rfl) rfl ?_
                    refine o_T (y_pickT rfl rfl) rfl ?_
                    refine o_T (y_move rfl) rfl ?_
                    refine o_split 74 rfl (fun h92_1 => ?_) (fun h92_1 => ?_)
                    · try simp only [decide_eq_true_eq, decide_eq_false_iff_not, Bool.not_eq_true', Bool.not_eq_false', Int.not_lt, Int.not_le, Decidable.not_not, beq_iff_eq, bne_iff_ne, ne_eq, beq_eq_false_iff_ne] at h92_1
                      refine o_take rfl rfl rfl ?_
                      refine o_T (y_move rfl) rfl ?_
                      refine o_take rfl rfl rfl ?_
                      refine o_T (y_neq rfl rfl) rfl ?_
                      refine o_T (y_pickT rfl rfl) rfl ?_
                      refine o_nil1 77 rfl rfl ?_
                      refine c_cond rfl (fun h92_2 => ?_) (fun h92_2 => ?_)
                      · try simp only [decide_eq_true_eq, decide_eq_false_iff_not, Bool.not_eq_true', Bool.not_eq_false', Int.not_lt, Int.not_le, Decidable.not_not, beq_iff_eq, bne_iff_ne, ne_eq, beq_eq_false_iff_ne] at h92_2
                        exfalso; rcases hr5 h92 with z | z <;> omega
                      · try simp only [decide_eq_true_eq, decide_eq_false_iff_not, Bool.not_eq_true', Bool.not_eq_false', Int.not_lt, Int.not_le, Decidable.not_not, beq_iff_eq, bne_iff_ne, ne_eq, beq_eq_false_iff_ne] at h92_2
                        refine c_skip ?_
                        refine c_region ?_
                        refine o_T (y_move rfl) rfl ?_
                        refine o_T (y_add rfl rfl (w64 (by omega))) rfl ?_
                        refine o_L (y_assign rfl) rfl rfl ?_
                        refine o_nil0 rfl ?_
                        subst her_2
                        subst hen_2
                        refine ⟨(k + 1, upA f (H.ent (H.t.list.getD k 0)).slot.toNat true), ⟨⟨by omega, Hst.used_add h81 g2⟩, by dsimp only; omega⟩, ⟨gteI rfl (by dsimp only; omega), trivial⟩, ⟨rfl, rfl⟩, _, ((s_get (ks (ks (ks (ks k0)))) (s_get (ks (ks (ks (ks k0)))) (s_get (ks (ks (ks k0))) (s_get (ks (ks (ks k0))) (s_get (ks (ks (ks k0))) (s_get (ks (ks (ks k0))) (s_get k0 s_nil))))))))⟩
                    · try simp only [decide_eq_true_eq, decide_eq_false_iff_not, Bool.not_eq_true', Bool.not_eq_false', Int.not_lt, Int.not_le, Decidable.not_not, beq_iff_eq, bne_iff_ne, ne_eq, beq_eq_false_iff_ne] at h92_1
                      refine o_pass rfl rfl rfl rfl rfl ?_
                      refine o_pass rfl rfl rfl rfl rfl ?_
                      refine o_T (y_pickF rfl rfl) rfl ?_
                      refine o_nil1 77 rfl rfl ?_
                      refine c_condF rfl ?_
                      refine c_skip ?_
                      refine c_region ?_
                      refine o_T (y_move rfl) rfl ?_
                      refine o_T (y_add rfl rfl (w64 (by omega))) rfl ?_
                      refine o_L (y_assign rfl) rfl rfl ?_
                      refine o_nil0 rfl ?_
                      subst her_2
                      subst hen_2
                      refine ⟨(k + 1, upA f (H.ent (H.t.list.getD k 0)).slot.toNat true), ⟨⟨by omega, Hst.used_add h81 g2⟩, by dsimp only; omega⟩, ⟨gteI rfl (by dsimp only; omega), trivial⟩, ⟨rfl, rfl⟩, _, ((s_get (ks (ks (ks (ks k0)))) (s_get (ks (ks (ks (ks k0)))) (s_get (ks (ks (ks k0))) (s_get (ks (ks (ks k0))) (s_get (ks (ks (ks k0))) (s_get (ks (ks (ks k0))) (s_get k0 s_nil))))))))⟩
                  · try simp only [decide_eq_true_eq, decide_eq_false_iff_not, Bool.not_eq_true', Bool.not_eq_false', Int.not_lt, Int.not_le, Decidable.not_not, beq_iff_eq, bne_iff_ne, ne_eq, beq_eq_false_iff_ne] at h92
                    refine o_pass rfl rfl rfl rfl rfl ?_
                    refine o_pass rfl rfl rfl rfl rfl ?_
                    refine o_T (y_pickF rfl rfl) rfl ?_
                    refine o_T (y_move rfl) rfl ?_
                    refine o_pass rfl rfl rfl rfl rfl ?_
                    refine o_pass rfl rfl rfl rfl rfl ?_
                    refine o_T (y_pickF rfl rfl) rfl ?_
                    refine o_nil1 77 rfl rfl ?_
                    refine c_condF rfl ?_
                    refine c_skip ?_
                    refine c_region ?_
                    refine o_T (y_move rfl) rfl ?_
                    refine o_T (y_add rfl rfl (w64 (by omega))) rfl ?_
                    refine o_L (y_assign rfl) rfl rfl ?_
                    refine o_nil0 rfl ?_
                    subst her_2
                    subst hen_2
                    refine ⟨(k + 1, upA f (H.ent (H.t.list.getD k 0)).slot.toNat true), ⟨⟨by omega, Hst.used_add h81 g2⟩, by dsimp only; omega⟩, ⟨gteI rfl (by dsimp only; omega), trivial⟩, ⟨rfl, rfl⟩, _, ((s_get (ks (ks (ks (ks k0)))) (s_get (ks (ks (ks (ks k0)))) (s_get (ks (ks (ks k0))) (s_get (ks (ks (ks k0))) (s_get (ks (ks (ks k0))) (s_get (ks (ks (ks k0))) (s_get k0 s_nil))))))))⟩
  · try simp only [decide_eq_true_eq, decide_eq_false_iff_not, Bool.not_eq_true', Bool.not_eq_false', Int.not_lt, Int.not_le, Decidable.not_not, beq_iff_eq, bne_iff_ne, ne_eq, beq_eq_false_iff_ne] at h76
    refine c_exit ?_
    refine c_seq ?_
    refine c_seq ?_
    obtain rfl : k = H.t.list.length := by omega
    refine c_region ?_
    refine o_L (y_assign rfl) rfl rfl ?_
    refine o_nil0 rfl ?_
    refine c_block ?_
    refine c_loopG (ι := Nat) (fun i => [(9, .int .i64 (i : Int))]) (fun i => []) (fun i => i ≤ 4) (fun i => 4 - i) 0 (by omega) ⟨by first | rfl | exact gteI rfl (by omega), trivial⟩ (s_take (s_take (s_take (s_take (s_take (s_take (s_take s_nil))))))) ?_
    rintro k hI
    try dsimp only at hI
    refine c_seq ?_
    refine c_seq ?_
    refine c_region ?_
    refine o_T (y_move rfl) rfl ?_
    refine o_T (y_lss rfl rfl) rfl ?_
    refine o_nil1 79 rfl rfl ?_
    refine c_cond rfl (fun h96 => ?_) (fun h96 => ?_)
    · try simp only [decide_eq_true_eq, decide_eq_false_iff_not, Bool.not_eq_true', Bool.not_eq_false', Int.not_lt, Int.not_le, Decidable.not_not, beq_iff_eq, bne_iff_ne, ne_eq, beq_eq_false_iff_ne] at h96
      refine c_skip ?_
      refine c_seq ?_
      refine c_block ?_
      refine c_seq ?_
      refine c_region ?_
      refine o_T (y_move rfl) rfl ?_
      refine o_T (y_ia ar_108 rfl rfl (by omega) (by omega)) rfl ?_
      refine o_ld one_4 rfl m0 (uV_get _ (by omega) rfl) rfl ?_
      refine o_T (y_not rfl) rfl ?_
      refine o_nil1 85 rfl rfl ?_
      refine c_cond rfl (fun h97 => ?_) (fun h97 => ?_)
      · try simp only [decide_eq_true_eq, decide_eq_false_iff_not, Bool.not_eq_true', Bool.not_eq_false', Int.not_lt, Int.not_le, Decidable.not_not, beq_iff_eq, bne_iff_ne, ne_eq, beq_eq_false_iff_ne] at h97
        refine c_seq ?_
        have okk := oc4 k
        refine c_front (s_get (ks (ks (ks (ks (ks (ks k0)))))) (s_get k0 (s_get k0 (s_get k0 (s_get k0 (s_get k0 (s_get k0 s_nil))))))) ?_
        refine c_open q (H.c) (k := k) (by omega) ?_
        refine c_region ?_
        refine o_T (y_move rfl) rfl ?_
        refine o_T (y_move rfl) rfl ?_
        refine o_T (y_nilck rfl) rfl ?_
        refine o_T (y_fa fl_111_6 rfl) rfl ?_
        refine o_T (y_ia ar_38 rfl rfl (by omega) (by omega)) rfl ?_
        refine o_ld one_37 rfl (ms (ms (ms (ms (ms (ms (ms m0))))))) (Hs.gr_c _ (by omega) rfl) rfl ?_
        refine o_call en_67 rfl (t67 _ (q.s k) (q.r k) ((H.c) k).x _ _ okk) (s_take (s_take (s_take s_nil))) rfl ?_
        rintro v S' ⟨b_7, rfl, rfl⟩
        refine o_T (y_nilck rfl) rfl ?_
        refine o_T (y_fa fl_95_0 rfl) rfl ?_
        refine o_ld one_3 rfl m0 Ci.g0 rfl ?_
        refine o_T (y_neq rfl rfl) rfl ?_
        refine o_nil1 96 rfl rfl ?_
        refine c_cond rfl (fun h98 => ?_) (fun h98 => ?_)
        · try simp only [decide_eq_true_eq, decide_eq_false_iff_not, Bool.not_eq_true', Bool.not_eq_false', Int.not_lt, Int.not_le, Decidable.not_not, beq_iff_eq, bne_iff_ne, ne_eq, beq_eq_false_iff_ne] at h98
          exact absurd (hck.free k (by omega) (fun j hj hj1 hj2 => absurd ((g2 k (by omega)).2 ⟨j, by omega, hj1, hj2⟩) (fun z => nomatch (h97.symm.trans z : false = true)))) h98
        · try simp only [decide_eq_true_eq, decide_eq_false_iff_not, Bool.not_eq_true', Bool.not_eq_false', Int.not_lt, Int.not_le, Decidable.not_not, beq_iff_eq, bne_iff_ne, ne_eq, beq_eq_false_iff_ne] at h98
          refine c_skip ?_
          refine c_front (s_get (ks k0) (s_get (ks k0) (s_get (ks k0) (s_get (ks k0) (s_get k0 (s_get k0 (s_get k0 (s_get k0 (s_get k0 (s_get k0 (s_get k0 s_nil))))))))))) ?_
          refine c_shut q (H.c) (k := k) (by omega) (H.c k) ?_
          refine c_row (g' := q.csG (H.c)) q0 (by rw [upA_same _ _ _ rfl]) ?_
          refine c_region ?_
          refine o_T (y_move rfl) rfl ?_
          refine o_T (y_add rfl rfl (w64 (by omega))) rfl ?_
          refine o_L (y_assign rfl) rfl rfl ?_
          refine o_nil0 rfl ?_
          refine ⟨(k + 1), ⟨by omega, by first | omega | (dsimp only; omega)⟩, ⟨by first | rfl | exact gteI rfl (by omega), trivial⟩, ⟨rfl, rfl⟩, _, ((s_get (ks (ks k0)) (s_get (ks (ks k0)) (s_get (ks (ks k0)) (s_get (ks (ks k0)) (s_get (ks (ks k0)) (s_get (ks (ks k0)) (s_get k0 s_nil))))))))⟩
      · try simp only [decide_eq_true_eq, decide_eq_false_iff_not, Bool.not_eq_true', Bool.not_eq_false', Int.not_lt, Int.not_le, Decidable.not_not, beq_iff_eq, bne_iff_ne, ne_eq, beq_eq_false_iff_ne] at h97
        refine c_skip ?_
        refine c_region ?_
        refine o_T (y_move rfl) rfl ?_
        refine o_T (y_add rfl rfl (w64 (by omega))) rfl ?_
        refine o_L (y_assign rfl) rfl rfl ?_
        refine o_nil0 rfl ?_
        refine ⟨(k + 1), ⟨by omega, by first | omega | (dsimp only; omega)⟩, ⟨by first | rfl | exact gteI rfl (by omega), trivial⟩, ⟨rfl, rfl⟩, _, ((s_take (s_take (s_take (s_take (s_take (s_take (s_take s_nil))))))))⟩
    · try simp only [decide_eq_true_eq, decide_eq_false_iff_not, Bool.not_eq_true', Bool.not_eq_false', Int.not_lt, Int.not_le, Decidable.not_not, beq_iff_eq, bne_iff_ne, ne_eq, beq_eq_false_iff_ne] at h96
      refine c_exit ?_
      refine c_seq ?_
      refine c_seq ?_
      refine c_draw #[true, true, true, true, true, true, true, true, true, true] rfl (n := 10) rfl ?_
      refine d_T 0 rfl (by kernel_rfl) rfl (y_move rfl) rfl ?_
      refine d_T 1 rfl (by kernel_rfl) rfl (y_nilck rfl) rfl ?_
      refine d_T 2 rfl (by kernel_rfl) rfl (y_fa fl_111_4 rfl) rfl ?_
      refine d_ld 3 rfl (by kernel_rfl) one_35 rfl (fun x hx => hx) (ms (ms (ms m0))) Hs.g11 rfl ?_
      refine d_T 5 rfl (by kernel_rfl) rfl (y_move rfl) rfl ?_
      refine d_T 6 rfl (by kernel_rfl) rfl (y_nilck rfl) rfl ?_
      refine d_T 7 rfl (by kernel_rfl) rfl (y_fa fl_111_0 rfl) rfl ?_
      refine d_ld 8 rfl (by kernel_rfl) one_3 rfl (fun x hx => hx) (ms (ms (ms m0))) Hs.g0 rfl ?_
      refine d_hard 4 rfl (by kernel_rfl) ?_
      refine o_callrv en_68 rfl (t68 _ _ (by assumption)) (s_skip (s_skip (s_skip (s_skip (s_take s_nil))))) rfl ?_
      refine o_stop (fun _ => (fun x hx => hx)) ?_
      refine d_T 9 rfl (by kernel_rfl) rfl (y_neq rfl rfl) rfl ?_
      refine d_nil1 106 (by kernel_rfl) rfl rfl ?_
      refine c_cond rfl (fun h103 => ?_) (fun h103 => ?_)
      · try simp only [decide_eq_true_eq, decide_eq_false_iff_not, Bool.not_eq_true', Bool.not_eq_false', Int.not_lt, Int.not_le, Decidable.not_not, beq_iff_eq, bne_iff_ne, ne_eq, beq_eq_false_iff_ne] at h103
        exfalso; omega
      · try simp only [decide_eq_true_eq, decide_eq_false_iff_not, Bool.not_eq_true', Bool.not_eq_false', Int.not_lt, Int.not_le, Decidable.not_not, beq_iff_eq, bne_iff_ne, ne_eq, beq_eq_false_iff_ne] at h103
        refine c_skip ?_
        refine c_seq ?_
        refine c_draw #[true, true, true, true, true, true, true, true, true, true, true] rfl (n := 11) rfl ?_
        refine d_T 0 rfl (by kernel_rfl) rfl (y_move rfl) rfl ?_
        refine d_T 1 rfl (by kernel_rfl) rfl (y_nilck rfl) rfl ?_
        refine d_T 2 rfl (by kernel_rfl) rfl (y_fa fl_111_5 rfl) rfl ?_
        refine d_ld 3 rfl (by kernel_rfl) one_36 rfl (fun x hx => hx) (ms (ms (ms m0))) Hs.g12 rfl ?_
        refine d_T 5 rfl (by kernel_rfl) rfl (y_move rfl) rfl ?_
        refine d_T 6 rfl (by kernel_rfl) rfl (y_nilck rfl) rfl ?_
        refine d_T 7 rfl (by kernel_rfl) rfl (y_fa fl_111_0 rfl) rfl ?_
        refine d_ld 8 rfl (by kernel_rfl) one_3 rfl (fun x hx => hx) (ms (ms (ms m0))) Hs.g0 rfl ?_
        refine d_hard 4 rfl (by kernel_rfl) ?_
        refine o_callrv en_69 rfl (t69 _ _) (s_skip (s_skip (s_skip (s_skip (s_skip (s_take s_nil)))))) rfl ?_
        refine o_stop (fun _ => (fun x hx => hx)) ?_
        refine d_T 9 rfl (by kernel_rfl) rfl (y_eql rfl rfl) rfl ?_
        refine d_L 10 rfl (by kernel_rfl) rfl (y_assign rfl) rfl rfl ?_
        refine d_nil0 (by kernel_rfl) rfl ?_
        refine c_ret ?_
        refine fun aX wX heX hsX => ret1 Tryz.results25 heX rfl (s_get (ks (ks (ks k0))) (s_get (ks (ks (ks k0))) (s_get (ks (ks (ks k0))) (s_get (ks (ks k0)) (s_get (ks (ks k0)) s_nil))))) ?_
        exact ⟨congrArg Value.bool (decide_eq_true opa), rfl⟩

end Go.Proofs.Qxb6500351aGreat
