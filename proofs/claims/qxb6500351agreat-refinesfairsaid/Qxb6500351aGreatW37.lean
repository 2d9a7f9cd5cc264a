/- MADE BY PROGRAM (tools/gen.py over tools/specs351.py): walks. -/
import Derived.Test.Qxb6500351aGreatFacts
import Derived.Test.Qxb6500351aGreatW12
import Derived.Test.Qxb6500351aGreatW36
set_option linter.unusedVariables false
set_option linter.unusedSimpArgs false
namespace Go.Proofs.Qxb6500351aGreat
open Go.Eng
set_option maxRecDepth 20000
set_option maxHeartbeats 4000000
/-- (*e2e/host.Host).Input -/
theorem t79 (q : HP) (H : Hst) (lk : Lk) (dr : Nat → Int) (b2 o n cap e : Nat) (cs : Array Value) (l : List Int) (ok : H.Ok) (hlk : lk.addr = H.addr) (hlo : H.lost + 50 ≤ 1152921504606846976) (hy : BytAt o n cap cs l) (hD : ∀ s g, H.segIn l = some (s, g) → H.DispOk s g) : Trip Tryz.prog 79 #[.pointer (some ⟨q.h, 0, none⟩), .slice (some ⟨b2, o, none⟩) n cap] [[(q.h, .cells (q.hs H dr).enc 111 (0, 0))], [(q.l, .cells lk.enc 146 (0, 0))], [(q.p, .cells H.p.enc 153 (0, 0))], [(q.t, .cells H.t.enc 159 (0, 0))], q.csG H.c, [(b2, .cells cs e (0, 0))]] (fun u S' => ∃ (lk' : Lk) (dr' : Nat → Int) (v' : Value) (gv' gd' : List Chunk), lk'.addr = H.addr ∧ u = v' ∧ Lst 81 1 rowR v' (H.inputF l) gv' gd' ∧ S' = [gv', gd', [(q.h, .cells (q.hs (H.inputH l) dr').enc 111 (0, 0))], [(q.l, .cells lk'.enc 146 (0, 0))], [(q.p, .cells ((H.inputH l)).p.enc 153 (0, 0))], [(q.t, .cells ((H.inputH l)).t.enc 159 (0, 0))], q.csG ((H.inputH l)).c, [(b2, .cells cs e (0, 0))]]) := by
  have ok0 := ok
  have oa := ok.addr
  have oc := ok.clock
  have ol := ok.lost
  have op := ok.p
  have opa := ok.pa
  have oc4 := ok.c
  have ot := ok.t
  have hn := hy.n_eq
  have hb := hy.bytes
  have hly := hy.len
  have hlk2 : 0 ≤ lk.addr ∧ lk.addr < 256 := by omega
  refine fn_entry (args := [.pointer (some ⟨q.h, 0, none⟩), .slice (some ⟨b2, o, none⟩) n cap]) Tryz.func79 rfl Tryz.ntmps79 rfl (fun w0 => ?_)
  refine c_seq ?_
  refine c_region ?_
  refine o_L (y_assign rfl) rfl rfl ?_
  refine o_nil0 rfl ?_
  refine c_seq ?_
  refine c_region ?_
  refine o_lbs0 (R := rowR) sz_51 rfl (fun v_1 gv_1 hl_1 => ?_)
  refine o_L (y_assign rfl) rfl rfl ?_
  refine o_nil0 rfl ?_
  refine c_seq ?_
  refine c_region ?_
  refine o_T (y_move rfl) rfl ?_
  refine o_T (y_nilck rfl) rfl ?_
  refine o_T (y_fa fl_111_4 rfl) rfl ?_
  refine o_ld one_35 rfl (ms (ms m0)) Hs.g11 rfl ?_
  refine o_T (y_move rfl) rfl ?_
  refine o_call en_114 rfl (t114 _ _ _ _ _ _ _ _ _ (by assumption) hy) (s_skip (s_skip (s_skip (s_take (s_skip (s_skip (s_skip (s_take s_nil)))))))) rfl ?_
  rintro v S' (⟨lk_1, hlk_1, hd_1, rfl, rfl⟩ | ⟨lk_2, b_1, hlk_2, hd_2, rfl, rfl⟩)
  · skip
    refine o_T (y_move rfl) rfl ?_
    refine o_T (y_extract rfl rfl) rfl ?_
    refine o_T (y_extract rfl rfl) rfl ?_
    refine o_alloc ze_170 rfl rfl (fun b_2 => ?_)
    refine o_sta ag_170 rfl rfl rfl rfl r0 (setAll_full _ _ rfl) (of_ble rfl) ?_
    refine o_L (y_assign rfl) rfl rfl ?_
    refine o_nil0 rfl ?_
    refine c_seq ?_
    refine c_seq ?_
    refine c_region ?_
    refine o_T (y_move rfl) rfl ?_
    refine o_T (y_neq rfl rfl) rfl ?_
    refine o_nil1 23 rfl rfl ?_
    refine c_cond rfl (fun h12 => ?_) (fun h12 => ?_)
    · try simp only [decide_eq_true_eq, decide_eq_false_iff_not, Bool.not_eq_true', Bool.not_eq_false', Int.not_lt, Int.not_le, Decidable.not_not, beq_iff_eq, bne_iff_ne, ne_eq, beq_eq_false_iff_ne] at h12
      refine c_seq ?_
      rw [hlk] at hd_1
      refine c_draw #[true, true, true, true, true, true, true, true, true, false] rfl (n := 10) rfl ?_
      refine d_T 0 rfl (by kernel_rfl) rfl (y_move rfl) rfl ?_
      refine d_T 1 rfl (by kernel_rfl) rfl (y_nilck rfl) rfl ?_
      refine d_T 2 rfl (by kernel_rfl) rfl (y_fa fl_111_3 rfl) rfl ?_
      refine d_T 3 rfl (by kernel_rfl) rfl (y_ia ar_109 rfl rfl (by omega) (by omega)) rfl ?_
      refine d_ld 4 rfl (by kernel_rfl) one_3 rfl (fun x hx => hx) (ms (ms (ms (ms (ms m0))))) (Hs.gr_dropped _ (by omega) rfl) rfl ?_
      refine d_T 5 rfl (by kernel_rfl) rfl (y_add rfl rfl rfl) rfl ?_
      refine d_T 6 rfl (by kernel_rfl) rfl (y_nilck rfl) rfl ?_
      refine d_T 7 rfl (by kernel_rfl) rfl (y_fa fl_111_3 rfl) rfl ?_
      refine d_T 8 rfl (by kernel_rfl) rfl (y_ia ar_109 rfl rfl (by omega) (by omega)) rfl ?_
      refine d_hard 9 rfl (by kernel_rfl) ?_
      refine o_st one_3 rfl rfl rfl (rs (rs (rs (rs (rs r0))))) (Hs.sr_dropped _ (by omega) rfl) (by simp only [Hs.size]; omega) ?_
      refine o_stop (fun h => nomatch h) ?_
      refine d_nil0 (by kernel_rfl) rfl ?_
      refine c_seq ?_
      refine c_region ?_
      refine o_T (y_move rfl) rfl ?_
      refine o_L (y_assign rfl) rfl rfl ?_
      refine o_nil0 rfl ?_
      refine c_ret ?_
      refine fun aX wX heX hsX => ret1 Tryz.results79 heX rfl (s_get (ks (ks (ks k0))) (s_get (ks (ks (ks k0))) (s_get (ks (ks (ks k0))) (s_get (ks k0) (s_get (ks (ks k0)) (s_get (ks (ks k0)) (s_get (ks (ks k0)) (s_get (ks k0) s_nil)))))))) ?_
      have e1 : H.segIn l = none := by unfold Hst.segIn; rw [if_pos (by omega)]
      have e2 : H.pIn l = H := by unfold Hst.pIn; rw [if_neg (by omega)]
      have e3 : H.inputF l = [] := by unfold Hst.inputF; rw [e1]
      have e4 : H.inputH l = H := by unfold Hst.inputH; rw [e1]; exact e2
      rw [e3, e4]
      exact ⟨_, _, _, _, _, hlk_1.trans hlk, rfl, hl_1, rfl⟩
    · try simp only [decide_eq_true_eq, decide_eq_false_iff_not, Bool.not_eq_true', Bool.not_eq_false', Int.not_lt, Int.not_le, Decidable.not_not, beq_iff_eq, bne_iff_ne, ne_eq, beq_eq_false_iff_ne] at h12
      first | (exfalso; omega) | exact absurd rfl h12 | exact absurd h12 (by decide)
  · skip
    refine o_T (y_move rfl) rfl ?_
    refine o_T (y_extract rfl rfl) rfl ?_
    refine o_T (y_extract rfl rfl) rfl ?_
    refine o_alloc ze_170 rfl rfl (fun b_3 => ?_)
    refine o_sta ag_170 rfl rfl rfl rfl r0 (setAll_full _ _ rfl) (of_ble rfl) ?_
    refine o_L (y_assign rfl) rfl rfl ?_
    refine o_nil0 rfl ?_
    refine c_seq ?_
    refine c_seq ?_
    refine c_region ?_
    refine o_T (y_move rfl) rfl ?_
    refine o_T (y_neq rfl rfl) rfl ?_
    refine o_nil1 23 rfl rfl ?_
    refine c_cond rfl (fun h12 => ?_) (fun h12 => ?_)
    · try simp only [decide_eq_true_eq, decide_eq_false_iff_not, Bool.not_eq_true', Bool.not_eq_false', Int.not_lt, Int.not_le, Decidable.not_not, beq_iff_eq, bne_iff_ne, ne_eq, beq_eq_false_iff_ne] at h12
      first | (exfalso; omega) | exact absurd rfl h12 | exact absurd h12 (by decide)
    · try simp only [decide_eq_true_eq, decide_eq_false_iff_not, Bool.not_eq_true', Bool.not_eq_false', Int.not_lt, Int.not_le, Decidable.not_not, beq_iff_eq, bne_iff_ne, ne_eq, beq_eq_false_iff_ne] at h12
      refine c_skip ?_
      refine c_seq ?_
      refine c_seq ?_
      rw [hlk] at hd_2
      have hpb := frPay_b hb
      have hpl : (frPay l).length ≤ 140737488355328 := by unfold frPay; rw [List.length_take, List.length_drop]; omega
      have hdX := BytAt.full hpb hpl
      refine c_region ?_
      refine o_T (y_fa fl_170_2 rfl) rfl ?_
      refine o_ld one_3 rfl m0 Fr.g2 rfl ?_
      refine o_T (y_neq rfl rfl) rfl ?_
      refine o_nil1 36 rfl rfl ?_
      refine c_cond rfl (fun h16 => ?_) (fun h16 => ?_)
      · try simp only [decide_eq_true_eq, decide_eq_false_iff_not, Bool.not_eq_true', Bool.not_eq_false', Int.not_lt, Int.not_le, Decidable.not_not, beq_iff_eq, bne_iff_ne, ne_eq, beq_eq_false_iff_ne] at h16
        refine c_seq ?_
        refine c_draw #[true, true, true, true, true, true, true, true, true, false] rfl (n := 10) rfl ?_
        refine d_T 0 rfl (by kernel_rfl) rfl (y_move rfl) rfl ?_
        refine d_T 1 rfl (by kernel_rfl) rfl (y_nilck rfl) rfl ?_
        refine d_T 2 rfl (by kernel_rfl) rfl (y_fa fl_111_3 rfl) rfl ?_
        refine d_T 3 rfl (by kernel_rfl) rfl (y_ia ar_109 rfl rfl (by omega) (by omega)) rfl ?_
        refine d_ld 4 rfl (by kernel_rfl) one_3 rfl (fun x hx => hx) (ms (ms (ms (ms (ms (ms m0)))))) (Hs.gr_dropped _ (by omega) rfl) rfl ?_
        refine d_T 5 rfl (by kernel_rfl) rfl (y_add rfl rfl rfl) rfl ?_
        refine d_T 6 rfl (by kernel_rfl) rfl (y_nilck rfl) rfl ?_
        refine d_T 7 rfl (by kernel_rfl) rfl (y_fa fl_111_3 rfl) rfl ?_
        refine d_T 8 rfl (by kernel_rfl) rfl (y_ia ar_109 rfl rfl (by omega) (by omega)) rfl ?_
        refine d_hard 9 rfl (by kernel_rfl) ?_
        refine o_st one_3 rfl rfl rfl (rs (rs (rs (rs (rs (rs r0)))))) (Hs.sr_dropped _ (by omega) rfl) (by simp only [Hs.size]; omega) ?_
        refine o_stop (fun h => nomatch h) ?_
        refine d_nil0 (by kernel_rfl) rfl ?_
        refine c_seq ?_
        refine c_region ?_
        refine o_T (y_move rfl) rfl ?_
        refine o_L (y_assign rfl) rfl rfl ?_
        refine o_nil0 rfl ?_
        refine c_ret ?_
        refine fun aX wX heX hsX => ret1 Tryz.results79 heX rfl (s_get (ks (ks (ks (ks k0)))) (s_get (ks (ks (ks (ks k0)))) (s_get (ks (ks (ks (ks k0)))) (s_get (ks (ks k0)) (s_get (ks (ks (ks k0))) (s_get (ks (ks (ks k0))) (s_get (ks (ks (ks k0))) (s_get (ks (ks k0)) s_nil)))))))) ?_
        have e1 : H.segIn l = none := by unfold Hst.segIn; rw [if_neg (by omega), if_pos (by omega)]
        have e2 : H.pIn l = H := by unfold Hst.pIn; rw [if_neg (by omega)]
        have e3 : H.inputF l = [] := by unfold Hst.inputF; rw [e1]
        have e4 : H.inputH l = H := by unfold Hst.inputH; rw [e1]; exact e2
        rw [e3, e4]
        exact ⟨_, _, _, _, _, hlk_2.trans hlk, rfl, hl_1, rfl⟩
      · try simp only [decide_eq_true_eq, decide_eq_false_iff_not, Bool.not_eq_true', Bool.not_eq_false', Int.not_lt, Int.not_le, Decidable.not_not, beq_iff_eq, bne_iff_ne, ne_eq, beq_eq_false_iff_ne] at h16
        refine c_skip ?_
        refine c_seq ?_
        refine c_draw #[true, true, true, true, true, true, false, true, true, true, true, false, true] rfl (n := 13) rfl ?_
        refine d_T 0 rfl (by kernel_rfl) rfl (y_move rfl) rfl ?_
        refine d_T 1 rfl (by kernel_rfl) rfl (y_nilck rfl) rfl ?_
        refine d_T 2 rfl (by kernel_rfl) rfl (y_fa fl_111_5 rfl) rfl ?_
        refine d_ld 3 rfl (by kernel_rfl) one_36 rfl (fun x hx => hx) (ms (ms (ms (ms (ms (ms m0)))))) Hs.g12 rfl ?_
        refine d_T 4 rfl (by kernel_rfl) rfl (y_fa fl_170_3 rfl) rfl ?_
        refine d_ld 5 rfl (by kernel_rfl) one_81 rfl (fun x hx => hx) m0 Fr.g3 rfl ?_
        refine d_hard2A 10 6 (l := [6, 10]) rfl rfl (by kernel_rfl) (by first | exact .inl rfl | exact .inr rfl) ze_174 rfl rfl (fun b_4 => ?_) ?_
        · skip
          refine d_hard 6 rfl (by kernel_rfl) ?_
          refine o_call en_115 rfl (t115 _ _ _ _ _ _ _ _ _ (by assumption) hdX) (s_get (ks (ks (ks (ks (ks (ks (ks (ks k0)))))))) (s_get (ks (ks k0)) s_nil)) rfl ?_
          rintro v S' (⟨hd_3, rfl, rfl⟩ | ⟨hd_4, b_5, rfl, rfl⟩)
          · skip
            refine o_stop (fun h => nomatch h) ?_
            refine d_T 7 rfl (by kernel_rfl) rfl (y_move rfl) rfl ?_
            refine d_T 8 rfl (by kernel_rfl) rfl (y_extract rfl rfl) rfl ?_
            refine d_T 9 rfl (by kernel_rfl) rfl (y_extract rfl rfl) rfl ?_
            refine d_hard 11 rfl (by kernel_rfl) ?_
            refine o_sta ag_174 rfl rfl rfl rfl (rs (rs r0)) (setAll_full _ _ rfl) (of_ble rfl) ?_
            refine o_stop (fun h => nomatch h) ?_
            refine d_L 12 rfl (by kernel_rfl) rfl (y_assign rfl) rfl rfl ?_
            refine d_nil0 (by kernel_rfl) rfl ?_
            refine c_seq ?_
            refine c_seq ?_
            refine c_region ?_
            refine o_T (y_move rfl) rfl ?_
            refine o_T (y_neq rfl rfl) rfl ?_
            refine o_nil1 58 rfl rfl ?_
            refine c_cond rfl (fun h21 => ?_) (fun h21 => ?_)
            · try simp only [decide_eq_true_eq, decide_eq_false_iff_not, Bool.not_eq_true', Bool.not_eq_false', Int.not_lt, Int.not_le, Decidable.not_not, beq_iff_eq, bne_iff_ne, ne_eq, beq_eq_false_iff_ne] at h21
              refine c_seq ?_
              refine c_draw #[true, true, true, true, true, true, true, true, true, false] rfl (n := 10) rfl ?_
              refine d_T 0 rfl (by kernel_rfl) rfl (y_move rfl) rfl ?_
              refine d_T 1 rfl (by kernel_rfl) rfl (y_nilck rfl) rfl ?_
              refine d_T 2 rfl (by kernel_rfl) rfl (y_fa fl_111_3 rfl) rfl ?_
              refine d_T 3 rfl (by kernel_rfl) rfl (y_ia ar_109 rfl rfl (by omega) (by omega)) rfl ?_
              refine d_ld 4 rfl (by kernel_rfl) one_3 rfl (fun x hx => hx) (ms (ms (ms (ms (ms (ms (ms (ms m0)))))))) (Hs.gr_dropped _ (by omega) rfl) rfl ?_
              refine d_T 5 rfl (by kernel_rfl) rfl (y_add rfl rfl rfl) rfl ?_
              refine d_T 6 rfl (by kernel_rfl) rfl (y_nilck rfl) rfl ?_
              refine d_T 7 rfl (by kernel_rfl) rfl (y_fa fl_111_3 rfl) rfl ?_
              refine d_T 8 rfl (by kernel_rfl) rfl (y_ia ar_109 rfl rfl (by omega) (by omega)) rfl ?_
              refine d_hard 9 rfl (by kernel_rfl) ?_
              refine o_st one_3 rfl rfl rfl (rs (rs (rs (rs (rs (rs (rs (rs r0)))))))) (Hs.sr_dropped _ (by omega) rfl) (by simp only [Hs.size]; omega) ?_
              refine o_stop (fun h => nomatch h) ?_
              refine d_nil0 (by kernel_rfl) rfl ?_
              refine c_seq ?_
              refine c_region ?_
              refine o_T (y_move rfl) rfl ?_
              refine o_L (y_assign rfl) rfl rfl ?_
              refine o_nil0 rfl ?_
              refine c_ret ?_
              refine fun aX wX heX hsX => ret1 Tryz.results79 heX rfl (s_get (ks (ks (ks (ks (ks (ks k0)))))) (s_get (ks (ks (ks (ks (ks (ks k0)))))) (s_get (ks (ks (ks (ks (ks (ks k0)))))) (s_get (ks (ks (ks (ks k0)))) (s_get k0 (s_get (ks (ks (ks (ks k0)))) (s_get (ks (ks (ks (ks k0)))) (s_get (ks (ks (ks k0))) s_nil)))))))) ?_
              have e1 : H.segIn l = none := by unfold Hst.segIn; rw [if_neg (by omega), if_neg (by omega), if_pos (by omega)]
              have e2 : H.pIn l = { H with p := (H.p.inp (frPay l)).2.1 } := by unfold Hst.pIn; rw [if_pos ⟨by omega, by omega⟩]
              have e3 : H.inputF l = [] := by unfold Hst.inputF; rw [e1]
              have e4 : H.inputH l = { H with p := (H.p.inp (frPay l)).2.1 } := by unfold Hst.inputH; rw [e1]; exact e2
              rw [e3, e4]
              exact ⟨_, _, _, _, _, hlk_2.trans hlk, rfl, hl_1, rfl⟩
            · try simp only [decide_eq_true_eq, decide_eq_false_iff_not, Bool.not_eq_true', Bool.not_eq_false', Int.not_lt, Int.not_le, Decidable.not_not, beq_iff_eq, bne_iff_ne, ne_eq, beq_eq_false_iff_ne] at h21
              first | (exfalso; omega) | exact absurd rfl h21 | exact absurd h21 (by decide)
          · skip
            refine o_stop (fun h => nomatch h) ?_
            refine d_T 7 rfl (by kernel_rfl) rfl (y_move rfl) rfl ?_
            refine d_T 8 rfl (by kernel_rfl) rfl (y_extract rfl rfl) rfl ?_
            refine d_T 9 rfl (by kernel_rfl) rfl (y_extract rfl rfl) rfl ?_
            refine d_hard 11 rfl (by kernel_rfl) ?_
            refine o_sta ag_174 rfl rfl rfl rfl (rs (rs (rs r0))) (setAll_full _ _ rfl) (of_ble rfl) ?_
            refine o_stop (fun h => nomatch h) ?_
            refine d_L 12 rfl (by kernel_rfl) rfl (y_assign rfl) rfl rfl ?_
            refine d_nil0 (by kernel_rfl) rfl ?_
            refine c_seq ?_
            refine c_seq ?_
            refine c_region ?_
            refine o_T (y_move rfl) rfl ?_
            refine o_T (y_neq rfl rfl) rfl ?_
            refine o_nil1 58 rfl rfl ?_
            refine c_cond rfl (fun h21 => ?_) (fun h21 => ?_)
            · try simp only [decide_eq_true_eq, decide_eq_false_iff_not, Bool.not_eq_true', Bool.not_eq_false', Int.not_lt, Int.not_le, Decidable.not_not, beq_iff_eq, bne_iff_ne, ne_eq, beq_eq_false_iff_ne] at h21
              first | (exfalso; omega) | exact absurd rfl h21 | exact absurd h21 (by decide)
            · try simp only [decide_eq_true_eq, decide_eq_false_iff_not, Bool.not_eq_true', Bool.not_eq_false', Int.not_lt, Int.not_le, Decidable.not_not, beq_iff_eq, bne_iff_ne, ne_eq, beq_eq_false_iff_ne] at h21
              refine c_skip ?_
              refine c_seq ?_
              refine c_seq ?_
              refine c_region ?_
              refine o_T (y_fa fl_174_2 rfl) rfl ?_
              refine o_ld one_3 rfl (ms (ms (ms m0))) Dg.g2 rfl ?_
              refine o_T (y_neq rfl rfl) rfl ?_
              refine o_nil1 71 rfl rfl ?_
              refine c_cond rfl (fun h25 => ?_) (fun h25 => ?_)
              · try simp only [decide_eq_true_eq, decide_eq_false_iff_not, Bool.not_eq_true', Bool.not_eq_false', Int.not_lt, Int.not_le, Decidable.not_not, beq_iff_eq, bne_iff_ne, ne_eq, beq_eq_false_iff_ne] at h25
                refine c_seq ?_
                refine c_draw #[true, true, true, true, true, true, true, true, true, false] rfl (n := 10) rfl ?_
                refine d_T 0 rfl (by kernel_rfl) rfl (y_move rfl) rfl ?_
                refine d_T 1 rfl (by kernel_rfl) rfl (y_nilck rfl) rfl ?_
                refine d_T 2 rfl (by kernel_rfl) rfl (y_fa fl_111_3 rfl) rfl ?_
                refine d_T 3 rfl (by kernel_rfl) rfl (y_ia ar_109 rfl rfl (by omega) (by omega)) rfl ?_
                refine d_ld 4 rfl (by kernel_rfl) one_3 rfl (fun x hx => hx) (ms (ms (ms (ms (ms (ms (ms (ms (ms m0))))))))) (Hs.gr_dropped _ (by omega) rfl) rfl ?_
                refine d_T 5 rfl (by kernel_rfl) rfl (y_add rfl rfl rfl) rfl ?_
                refine d_T 6 rfl (by kernel_rfl) rfl (y_nilck rfl) rfl ?_
                refine d_T 7 rfl (by kernel_rfl) rfl (y_fa fl_111_3 rfl) rfl ?_
                refine d_T 8 rfl (by kernel_rfl) rfl (y_ia ar_109 rfl rfl (by omega) (by omega)) rfl ?_
                refine d_hard 9 rfl (by kernel_rfl) ?_
                refine o_st one_3 rfl rfl rfl (rs (rs (rs (rs (rs (rs (rs (rs (rs r0))))))))) (Hs.sr_dropped _ (by omega) rfl) (by simp only [Hs.size]; omega) ?_
                refine o_stop (fun h => nomatch h) ?_
                refine d_nil0 (by kernel_rfl) rfl ?_
                refine c_seq ?_
                refine c_region ?_
                refine o_T (y_move rfl) rfl ?_
                refine o_L (y_assign rfl) rfl rfl ?_
                refine o_nil0 rfl ?_
                refine c_ret ?_
                refine fun aX wX heX hsX => ret1 Tryz.results79 heX rfl (s_get (ks (ks (ks (ks (ks (ks (ks k0))))))) (s_get (ks (ks (ks (ks (ks (ks (ks k0))))))) (s_get (ks (ks (ks (ks (ks (ks (ks k0))))))) (s_get (ks (ks (ks (ks (ks k0))))) (s_get (ks k0) (s_get (ks (ks (ks (ks (ks k0))))) (s_get (ks (ks (ks (ks (ks k0))))) (s_get (ks (ks (ks (ks k0)))) s_nil)))))))) ?_
                have e1 : H.segIn l = none := by unfold Hst.segIn; rw [if_neg (by omega), if_neg (by omega), if_neg (by omega), if_pos (by omega)]
                have e2 : H.pIn l = { H with p := (H.p.inp (frPay l)).2.1 } := by unfold Hst.pIn; rw [if_pos ⟨by omega, by omega⟩]
                have e3 : H.inputF l = [] := by unfold Hst.inputF; rw [e1]
                have e4 : H.inputH l = { H with p := (H.p.inp (frPay l)).2.1 } := by unfold Hst.inputH; rw [e1]; exact e2
                rw [e3, e4]
                exact ⟨_, _, _, _, _, hlk_2.trans hlk, rfl, hl_1, rfl⟩
              · try simp only [decide_eq_true_eq, decide_eq_false_iff_not, Bool.not_eq_true', Bool.not_eq_false', Int.not_lt, Int.not_le, Decidable.not_not, beq_iff_eq, bne_iff_ne, ne_eq, beq_eq_false_iff_ne] at h25
                refine c_skip ?_
                refine c_seq ?_
                have hdB := (Ipt.inp_data op hpb).1
                have hdL := (Ipt.inp_data op hpb).2
                have hdX := BytAt.full hdB (by omega)
                have hs2 := hpb.getD 2
                refine c_region ?_
                refine o_T (y_fa fl_174_0 rfl) rfl ?_
                refine o_ld one_3 rfl (ms (ms (ms m0))) Dg.g0 rfl ?_
                refine o_T (y_fa fl_174_1 rfl) rfl ?_
                refine o_ld one_3 rfl (ms (ms (ms m0))) Dg.g1 rfl ?_
                refine o_T (y_fa fl_174_3 rfl) rfl ?_
                refine o_ld one_81 rfl (ms (ms (ms m0))) Dg.g3 rfl ?_
                refine o_call en_116 rfl (t116 _ _ _ _ _ _ _ _ _ hdX (by omega) (by omega)) (s_take s_nil) rfl ?_
                rintro v S' (⟨hd_5, rfl, rfl⟩ | ⟨hd_6, b_6, rfl, rfl⟩)
                · skip
                  refine o_T (y_move rfl) rfl ?_
                  refine o_T (y_extract rfl rfl) rfl ?_
                  refine o_T (y_extract rfl rfl) rfl ?_
                  refine o_alloc ze_178 rfl rfl (fun b_7 => ?_)
                  refine o_sta ag_178 rfl rfl rfl rfl r0 (setAll_full _ _ rfl) (of_ble rfl) ?_
                  refine o_L (y_assign rfl) rfl rfl ?_
                  refine o_nil0 rfl ?_
                  refine c_seq ?_
                  refine c_seq ?_
                  refine c_region ?_
                  refine o_T (y_move rfl) rfl ?_
                  refine o_T (y_neq rfl rfl) rfl ?_
                  refine o_nil1 93 rfl rfl ?_
                  refine c_cond rfl (fun h30 => ?_) (fun h30 => ?_)
                  · try simp only [decide_eq_true_eq, decide_eq_false_iff_not, Bool.not_eq_true', Bool.not_eq_false', Int.not_lt, Int.not_le, Decidable.not_not, beq_iff_eq, bne_iff_ne, ne_eq, beq_eq_false_iff_ne] at h30
                    refine c_seq ?_
                    refine c_draw #[true, true, true, true, true, true, true, true, true, false] rfl (n := 10) rfl ?_
                    refine d_T 0 rfl (by kernel_rfl) rfl (y_move rfl) rfl ?_
                    refine d_T 1 rfl (by kernel_rfl) rfl (y_nilck rfl) rfl ?_
                    refine d_T 2 rfl (by kernel_rfl) rfl (y_fa fl_111_3 rfl) rfl ?_
                    refine d_T 3 rfl (by kernel_rfl) rfl (y_ia ar_109 rfl rfl (by omega) (by omega)) rfl ?_
                    refine d_ld 4 rfl (by kernel_rfl) one_3 rfl (fun x hx => hx) (ms (ms (ms (ms (ms (ms (ms (ms (ms (ms m0)))))))))) (Hs.gr_dropped _ (by omega) rfl) rfl ?_
                    refine d_T 5 rfl (by kernel_rfl) rfl (y_add rfl rfl rfl) rfl ?_
                    refine d_T 6 rfl (by kernel_rfl) rfl (y_nilck rfl) rfl ?_
                    refine d_T 7 rfl (by kernel_rfl) rfl (y_fa fl_111_3 rfl) rfl ?_
                    refine d_T 8 rfl (by kernel_rfl) rfl (y_ia ar_109 rfl rfl (by omega) (by omega)) rfl ?_
                    refine d_hard 9 rfl (by kernel_rfl) ?_
                    refine o_st one_3 rfl rfl rfl (rs (rs (rs (rs (rs (rs (rs (rs (rs (rs r0)))))))))) (Hs.sr_dropped _ (by omega) rfl) (by simp only [Hs.size]; omega) ?_
                    refine o_stop (fun h => nomatch h) ?_
                    refine d_nil0 (by kernel_rfl) rfl ?_
                    refine c_seq ?_
                    refine c_region ?_
                    refine o_T (y_move rfl) rfl ?_
                    refine o_L (y_assign rfl) rfl rfl ?_
                    refine o_nil0 rfl ?_
                    refine c_ret ?_
                    refine fun aX wX heX hsX => ret1 Tryz.results79 heX rfl (s_get (ks (ks (ks (ks (ks (ks (ks (ks k0)))))))) (s_get (ks (ks (ks (ks (ks (ks (ks (ks k0)))))))) (s_get (ks (ks (ks (ks (ks (ks (ks (ks k0)))))))) (s_get (ks (ks (ks (ks (ks (ks k0)))))) (s_get (ks (ks k0)) (s_get (ks (ks (ks (ks (ks (ks k0)))))) (s_get (ks (ks (ks (ks (ks (ks k0)))))) (s_get (ks (ks (ks (ks (ks k0))))) s_nil)))))))) ?_
                    have e1 : H.segIn l = none := by unfold Hst.segIn; rw [if_neg (by omega), if_neg (by omega), if_neg (by omega), if_neg (by omega), if_pos (by omega)]
                    have e2 : H.pIn l = { H with p := (H.p.inp (frPay l)).2.1 } := by unfold Hst.pIn; rw [if_pos ⟨by omega, by omega⟩]
                    have e3 : H.inputF l = [] := by unfold Hst.inputF; rw [e1]
                    have e4 : H.inputH l = { H with p := (H.p.inp (frPay l)).2.1 } := by unfold Hst.inputH; rw [e1]; exact e2
                    rw [e3, e4]
                    exact ⟨_, _, _, _, _, hlk_2.trans hlk, rfl, hl_1, rfl⟩
                  · try simp only [decide_eq_true_eq, decide_eq_false_iff_not, Bool.not_eq_true', Bool.not_eq_false', Int.not_lt, Int.not_le, Decidable.not_not, beq_iff_eq, bne_iff_ne, ne_eq, beq_eq_false_iff_ne] at h30
                    first | (exfalso; omega) | exact absurd rfl h30 | exact absurd h30 (by decide)
                · skip
                  refine o_T (y_move rfl) rfl ?_
                  refine o_T (y_extract rfl rfl) rfl ?_
                  refine o_T (y_extract rfl rfl) rfl ?_
                  refine o_alloc ze_178 rfl rfl (fun b_8 => ?_)
                  refine o_sta ag_178 rfl rfl rfl rfl r0 (setAll_full _ _ rfl) (of_ble rfl) ?_
                  refine o_L (y_assign rfl) rfl rfl ?_
                  refine o_nil0 rfl ?_
                  refine c_seq ?_
                  refine c_seq ?_
                  refine c_region ?_
                  refine o_T (y_move rfl) rfl ?_
                  refine o_T (y_neq rfl rfl) rfl ?_
                  refine o_nil1 93 rfl rfl ?_
                  refine c_cond rfl (fun h30 => ?_) (fun h30 => ?_)
                  · try simp only [decide_eq_true_eq, decide_eq_false_iff_not, Bool.not_eq_true', Bool.not_eq_false', Int.not_lt, Int.not_le, Decidable.not_not, beq_iff_eq, bne_iff_ne, ne_eq, beq_eq_false_iff_ne] at h30
                    first | (exfalso; omega) | exact absurd rfl h30 | exact absurd h30 (by decide)
                  · try simp only [decide_eq_true_eq, decide_eq_false_iff_not, Bool.not_eq_true', Bool.not_eq_false', Int.not_lt, Int.not_le, Decidable.not_not, beq_iff_eq, bne_iff_ne, ne_eq, beq_eq_false_iff_ne] at h30
                    refine c_skip ?_
                    refine c_seq ?_
                    obtain ⟨g, hgg⟩ : ∃ g, g = (segDec ((frPay l).getD 2 0) H.p.addr (H.p.inp (frPay l)).2.2).2 := ⟨_, rfl⟩
                    have hgo : g.Ok := by rw [hgg]; exact segDec_isOk hdB (by omega)
                    have hd := BytAt.full hgo.bytes (by have := hgo.len; omega)
                    refine c_row (g' := [(b_8, .cells (segC b_6 g).enc 178 (0, 0))]) q0 (by rw [hgg]) ?_
                    refine c_row (g' := byG b_6 g.data 5) (qs q0) (by rw [hgg]) ?_
                    obtain ⟨Hp, hHp⟩ : ∃ Hp, Hp = ({ H with p := (H.p.inp (frPay l)).2.1 } : Hst) := ⟨_, rfl⟩
                    refine c_row (g' := [(q.h, .cells (q.hs Hp dr).enc 111 (0, 0))]) (qs (qs (qs (qs (qs (qs (qs (qs (qs (qs (qs q0))))))))))) (by rw [hHp] <;> rfl) ?_
                    refine c_row (g' := [(q.p, .cells Hp.p.enc 153 (0, 0))]) (qs (qs (qs q0))) (by rw [hHp] <;> rfl) ?_
                    refine c_row (g' := [(q.t, .cells Hp.t.enc 159 (0, 0))]) (qs (qs (qs (qs (qs (qs (qs (qs (qs (qs (qs (qs q0)))))))))))) (by rw [hHp] <;> rfl) ?_
                    refine c_row (g' := q.csG Hp.c) (qs (qs (qs (qs (qs (qs (qs (qs (qs (qs (qs (qs (qs q0))))))))))))) (by rw [hHp] <;> rfl) ?_
                    have hHa : Hp.addr = H.addr := by rw [hHp]
                    have hlk9 := (hlk_2.trans hlk).trans hHa.symm
                    have okp : Hp.Ok := by rw [hHp]; exact ⟨oa, oc, ol, Ipt.ok_inp op hpb, (Ipt.inp_addr _ _).1.trans opa, oc4, ot⟩
                    have hlo9 : Hp.lost = H.lost := by rw [hHp]
                    have hsg1 : H.segIn l = some ((frPay l).getD 2 0, g) := by unfold Hst.segIn; rw [if_neg (by omega), if_neg (by omega), if_neg (by omega), if_neg (by omega), if_neg (by omega), hgg]
                    have hDO : Hp.DispOk ((frPay l).getD 2 0) g := by rw [hHp]; exact Hst.disp_p (hD _ _ hsg1) _
                    have hs2 := hpb.getD 2
                    have hgsp := hgo.sp
                    have hgdp := hgo.dp
                    have hno := nobody_ok hgo
                    have hln0 : ([] : List (List Int)).length ≤ 900000 := Nat.zero_le _
                    have okpt := okp.t
                    refine c_draw #[true, true, true, true, true, true, true, true, true, true, true, true] rfl (n := 12) rfl ?_
                    refine d_T 0 rfl (by kernel_rfl) rfl (y_move rfl) rfl ?_
                    refine d_T 1 rfl (by kernel_rfl) rfl (y_nilck rfl) rfl ?_
                    refine d_T 2 rfl (by kernel_rfl) rfl (y_fa fl_111_7 rfl) rfl ?_
                    refine d_ld 3 rfl (by kernel_rfl) one_39 rfl (fun x hx => hx) (ms (ms (ms (ms (ms (ms (ms (ms (ms (ms (ms m0))))))))))) Hs.g17 rfl ?_
                    refine d_T 4 rfl (by kernel_rfl) rfl (y_fa fl_178_1 rfl) rfl ?_
                    refine d_ld 5 rfl (by kernel_rfl) one_3 rfl (fun x hx => hx) m0 Sg.g1 rfl ?_
                    refine d_T 6 rfl (by kernel_rfl) rfl (y_fa fl_174_0 rfl) rfl ?_
                    refine d_ld 7 rfl (by kernel_rfl) one_3 rfl (fun x hx => hx) (ms (ms (ms (ms (ms m0))))) Dg.g0 rfl ?_
                    refine d_T 8 rfl (by kernel_rfl) rfl (y_fa fl_178_0 rfl) rfl ?_
                    refine d_ld 9 rfl (by kernel_rfl) one_3 rfl (fun x hx => hx) m0 Sg.g0 rfl ?_
                    refine d_hard 10 rfl (by kernel_rfl) ?_
                    refine o_callrv en_117 rfl (t117 _ _ _ _ _ (by assumption) (by omega) (by omega) (by omega)) (s_skip (s_skip (s_skip (s_skip (s_skip (s_skip (s_skip (s_skip (s_skip (s_skip (s_skip (s_skip (s_take s_nil))))))))))))) rfl ?_
                    refine o_stop (fun _ => (fun x hx => hx)) ?_
                    refine d_L 11 rfl (by kernel_rfl) rfl (y_assign rfl) rfl rfl ?_
                    refine d_nil0 (by kernel_rfl) rfl ?_
                    refine c_seq ?_
                    refine c_seq ?_
                    refine c_region ?_
                    refine o_T (y_move rfl) rfl ?_
                    refine o_T (y_neq rfl rfl) rfl ?_
                    refine o_nil1 116 rfl rfl ?_
                    refine c_cond rfl (fun h35 => ?_) (fun h35 => ?_)
                    · try simp only [decide_eq_true_eq, decide_eq_false_iff_not, Bool.not_eq_true', Bool.not_eq_false', Int.not_lt, Int.not_le, Decidable.not_not, beq_iff_eq, bne_iff_ne, ne_eq, beq_eq_false_iff_ne] at h35
                      refine c_seq ?_
                      obtain ⟨hr1, hr2, hr3⟩ := hDO.row h35
                      refine c_region ?_
                      refine o_T (y_move rfl) rfl ?_
                      refine o_T (y_move rfl) rfl ?_
                      refine o_T (y_move rfl) rfl ?_
                      refine o_ldw ag_178 rfl m0 rfl rfl ?_
                      refine o_call en_118 rfl (t118 _ _ _ _ _ _ _ _ _ _ _ (by assumption) (by assumption) hl_1 (by omega) (by omega) (by assumption) (by assumption) (by assumption) (by assumption)) (s_get (ks (ks (ks (ks (ks (ks (ks (ks (ks (ks (ks k0))))))))))) (s_get (ks (ks (ks (ks (ks (ks (ks k0))))))) (s_get (ks (ks (ks k0))) (s_get (ks (ks (ks (ks (ks (ks (ks (ks (ks k0))))))))) (s_get (ks (ks (ks (ks (ks (ks (ks (ks (ks k0))))))))) (s_get (ks (ks (ks (ks (ks (ks (ks k0))))))) (s_get (ks (ks (ks (ks (ks (ks (ks k0))))))) (s_get (ks k0) s_nil)))))))) rfl ?_
                      rintro v S' ⟨lk_3, dr_1, v_2, gv_2, gd_1, hlk_3, rfl, hl_2, rfl⟩
                      refine o_L (y_assign rfl) rfl rfl ?_
                      refine o_nil0 rfl ?_
                      refine c_ret ?_
                      refine fun aX wX heX hsX => ret1 Tryz.results79 heX rfl (s_take (s_take (s_take (s_take (s_take (s_take (s_take (s_skip (s_skip (s_skip (s_skip (s_skip (s_take s_nil))))))))))))) ?_
                      have e1 : H.segIn l = some ((frPay l).getD 2 0, g) := by unfold Hst.segIn; rw [if_neg (by omega), if_neg (by omega), if_neg (by omega), if_neg (by omega), if_neg (by omega), hgg]
                      have e2 : H.pIn l = Hp := by unfold Hst.pIn; rw [if_pos ⟨by omega, by omega⟩, hHp]
                      have e3 : H.inputF l = Hp.dispF ((frPay l).getD 2 0) g := by unfold Hst.inputF; rw [e1, e2]
                      have e4 : H.inputH l = Hp.dispH ((frPay l).getD 2 0) g := by unfold Hst.inputH; rw [e1, e2]
                      rw [e3, e4]
                      unfold Hst.dispF Hst.dispH
                      rw [if_pos h35, if_pos h35]
                      exact ⟨_, _, _, _, _, hlk_3.trans hHa, rfl, hl_2.to (List.nil_append _), rfl⟩
                    · try simp only [decide_eq_true_eq, decide_eq_false_iff_not, Bool.not_eq_true', Bool.not_eq_false', Int.not_lt, Int.not_le, Decidable.not_not, beq_iff_eq, bne_iff_ne, ne_eq, beq_eq_false_iff_ne] at h35
                      refine c_skip ?_
                      refine c_seq ?_
                      refine c_seq ?_
                      refine c_region ?_
                      refine o_T (y_fa fl_178_4 rfl) rfl ?_
                      refine o_ld one_3 rfl m0 Sg.g4 rfl ?_
                      refine o_T (y_eql rfl rfl) rfl ?_
                      refine o_nil1 124 rfl rfl ?_
                      refine c_cond rfl (fun h38 => ?_) (fun h38 => ?_)
                      · try simp only [decide_eq_true_eq, decide_eq_false_iff_not, Bool.not_eq_true', Bool.not_eq_false', Int.not_lt, Int.not_le, Decidable.not_not, beq_iff_eq, bne_iff_ne, ne_eq, beq_eq_false_iff_ne] at h38
                        refine c_seq ?_
                        refine c_draw #[true, true, true, true, true, true, true, true] rfl (n := 8) rfl ?_
                        refine d_T 0 rfl (by kernel_rfl) rfl (y_move rfl) rfl ?_
                        refine d_T 1 rfl (by kernel_rfl) rfl (y_nilck rfl) rfl ?_
                        refine d_T 2 rfl (by kernel_rfl) rfl (y_fa fl_111_7 rfl) rfl ?_
                        refine d_ld 3 rfl (by kernel_rfl) one_39 rfl (fun x hx => hx) (ms (ms (ms (ms (ms (ms (ms (ms (ms (ms (ms m0))))))))))) Hs.g17 rfl ?_
                        refine d_T 4 rfl (by kernel_rfl) rfl (y_fa fl_178_1 rfl) rfl ?_
                        refine d_ld 5 rfl (by kernel_rfl) one_3 rfl (fun x hx => hx) m0 Sg.g1 rfl ?_
                        refine d_hard 6 rfl (by kernel_rfl) ?_
                        refine o_callrv en_119 rfl (t119 _ _ _ (by assumption)) (s_skip (s_skip (s_skip (s_skip (s_skip (s_skip (s_skip (s_skip (s_skip (s_skip (s_skip (s_skip (s_take s_nil))))))))))))) rfl ?_
                        refine o_stop (fun _ => (fun x hx => hx)) ?_
                        refine d_T 7 rfl (by kernel_rfl) rfl (y_neq rfl rfl) rfl ?_
                        refine d_nil1 132 (by kernel_rfl) rfl rfl ?_
                        refine c_cond rfl (fun h39 => ?_) (fun h39 => ?_)
                        · try simp only [decide_eq_true_eq, decide_eq_false_iff_not, Bool.not_eq_true', Bool.not_eq_false', Int.not_lt, Int.not_le, Decidable.not_not, beq_iff_eq, bne_iff_ne, ne_eq, beq_eq_false_iff_ne] at h39
                          refine c_seq ?_
                          obtain ⟨hr1, hr2, hr3⟩ := hDO.lis h35 h38 h39
                          refine c_region ?_
                          refine o_T (y_move rfl) rfl ?_
                          refine o_T (y_move rfl) rfl ?_
                          refine o_T (y_fa fl_174_0 rfl) rfl ?_
                          refine o_ld one_3 rfl (ms (ms (ms (ms (ms m0))))) Dg.g0 rfl ?_
                          refine o_ldw ag_178 rfl m0 rfl rfl ?_
                          refine o_call en_120 rfl (t120 _ _ _ _ _ _ _ _ _ _ _ (by assumption) (by assumption) hl_1 (by omega) (by omega) (by assumption) (by assumption) (by assumption) (by assumption) (by assumption) (by assumption)) (s_get (ks (ks (ks (ks (ks (ks (ks (ks (ks (ks (ks k0))))))))))) (s_get (ks (ks (ks (ks (ks (ks (ks k0))))))) (s_get (ks (ks (ks k0))) (s_get (ks (ks (ks (ks (ks (ks (ks (ks (ks k0))))))))) (s_get (ks (ks (ks (ks (ks (ks (ks (ks (ks k0))))))))) (s_get (ks (ks (ks (ks (ks (ks (ks k0))))))) (s_get (ks (ks (ks (ks (ks (ks (ks k0))))))) (s_get (ks k0) s_nil)))))))) rfl ?_
                          rintro v S' ⟨lk_4, dr_2, v_3, gv_3, gd_2, hlk_4, rfl, hl_3, rfl⟩
                          refine o_L (y_assign rfl) rfl rfl ?_
                          refine o_nil0 rfl ?_
                          refine c_ret ?_
                          refine fun aX wX heX hsX => ret1 Tryz.results79 heX rfl (s_take (s_take (s_take (s_take (s_take (s_take (s_take (s_skip (s_skip (s_skip (s_skip (s_skip (s_take s_nil))))))))))))) ?_
                          have e1 : H.segIn l = some ((frPay l).getD 2 0, g) := by unfold Hst.segIn; rw [if_neg (by omega), if_neg (by omega), if_neg (by omega), if_neg (by omega), if_neg (by omega), hgg]
                          have e2 : H.pIn l = Hp := by unfold Hst.pIn; rw [if_pos ⟨by omega, by omega⟩, hHp]
                          have e3 : H.inputF l = Hp.dispF ((frPay l).getD 2 0) g := by unfold Hst.inputF; rw [e1, e2]
                          have e4 : H.inputH l = Hp.dispH ((frPay l).getD 2 0) g := by unfold Hst.inputH; rw [e1, e2]
                          rw [e3, e4]
                          unfold Hst.dispF Hst.dispH
                          rw [if_neg (show ¬ ¬ Hp.t.lookup g.dp ((frPay l).getD 2 0) g.sp = 0 from not_not_intro h35), if_pos ⟨h38, h39⟩, if_neg (show ¬ ¬ Hp.t.lookup g.dp ((frPay l).getD 2 0) g.sp = 0 from not_not_intro h35), if_pos ⟨h38, h39⟩]
                          exact ⟨_, _, _, _, _, hlk_4.trans hHa, rfl, hl_3.to (List.nil_append _), rfl⟩
                        · try simp only [decide_eq_true_eq, decide_eq_false_iff_not, Bool.not_eq_true', Bool.not_eq_false', Int.not_lt, Int.not_le, Decidable.not_not, beq_iff_eq, bne_iff_ne, ne_eq, beq_eq_false_iff_ne] at h39
                          refine c_skip ?_
                          refine c_seq ?_
                          refine c_seq ?_
                          refine c_region ?_
                          refine o_T (y_fa fl_178_4 rfl) rfl ?_
                          refine o_ld one_3 rfl m0 Sg.g4 rfl ?_
                          refine o_T (y_and rfl rfl (fl8 hgo.flags)) rfl ?_
                          refine o_T (y_neq rfl rfl) rfl ?_
                          refine o_nil1 142 rfl rfl ?_
                          refine c_cond rfl (fun h43 => ?_) (fun h43 => ?_)
                          · try simp only [decide_eq_true_eq, decide_eq_false_iff_not, Bool.not_eq_true', Bool.not_eq_false', Int.not_lt, Int.not_le, Decidable.not_not, beq_iff_eq, bne_iff_ne, ne_eq, beq_eq_false_iff_ne] at h43
                            refine c_seq ?_
                            refine c_draw #[true, true, true, true, true, true, true, true, true, false] rfl (n := 10) rfl ?_
                            refine d_T 0 rfl (by kernel_rfl) rfl (y_move rfl) rfl ?_
                            refine d_T 1 rfl (by kernel_rfl) rfl (y_nilck rfl) rfl ?_
                            refine d_T 2 rfl (by kernel_rfl) rfl (y_fa fl_111_3 rfl) rfl ?_
                            refine d_T 3 rfl (by kernel_rfl) rfl (y_ia ar_109 rfl rfl (by omega) (by omega)) rfl ?_
                            refine d_ld 4 rfl (by kernel_rfl) one_3 rfl (fun x hx => hx) (ms (ms (ms (ms (ms (ms (ms (ms (ms (ms (ms m0))))))))))) (Hs.gr_dropped _ (by omega) rfl) rfl ?_
                            refine d_T 5 rfl (by kernel_rfl) rfl (y_add rfl rfl rfl) rfl ?_
                            refine d_T 6 rfl (by kernel_rfl) rfl (y_nilck rfl) rfl ?_
                            refine d_T 7 rfl (by kernel_rfl) rfl (y_fa fl_111_3 rfl) rfl ?_
                            refine d_T 8 rfl (by kernel_rfl) rfl (y_ia ar_109 rfl rfl (by omega) (by omega)) rfl ?_
                            refine d_hard 9 rfl (by kernel_rfl) ?_
                            refine o_st one_3 rfl rfl rfl (rs (rs (rs (rs (rs (rs (rs (rs (rs (rs (rs r0))))))))))) (Hs.sr_dropped _ (by omega) rfl) (by simp only [Hs.size]; omega) ?_
                            refine o_stop (fun h => nomatch h) ?_
                            refine d_nil0 (by kernel_rfl) rfl ?_
                            refine c_seq ?_
                            refine c_region ?_
                            refine o_T (y_move rfl) rfl ?_
                            refine o_L (y_assign rfl) rfl rfl ?_
                            refine o_nil0 rfl ?_
                            refine c_ret ?_
                            refine fun aX wX heX hsX => ret1 Tryz.results79 heX rfl (s_get (ks (ks (ks (ks (ks (ks (ks (ks (ks k0))))))))) (s_get (ks (ks (ks (ks (ks (ks (ks (ks (ks k0))))))))) (s_get (ks (ks (ks (ks (ks (ks (ks (ks (ks k0))))))))) (s_get (ks (ks (ks (ks (ks (ks (ks k0))))))) (s_get (ks (ks (ks k0))) (s_get (ks (ks (ks (ks (ks (ks (ks k0))))))) (s_get (ks (ks (ks (ks (ks (ks (ks k0))))))) (s_get (ks (ks (ks (ks (ks (ks k0)))))) s_nil)))))))) ?_
                            have e1 : H.segIn l = some ((frPay l).getD 2 0, g) := by unfold Hst.segIn; rw [if_neg (by omega), if_neg (by omega), if_neg (by omega), if_neg (by omega), if_neg (by omega), hgg]
                            have e2 : H.pIn l = Hp := by unfold Hst.pIn; rw [if_pos ⟨by omega, by omega⟩, hHp]
                            have e3 : H.inputF l = Hp.dispF ((frPay l).getD 2 0) g := by unfold Hst.inputF; rw [e1, e2]
                            have e4 : H.inputH l = Hp.dispH ((frPay l).getD 2 0) g := by unfold Hst.inputH; rw [e1, e2]
                            rw [e3, e4]
                            unfold Hst.dispF Hst.dispH
                            rw [if_neg (show ¬ ¬ Hp.t.lookup g.dp ((frPay l).getD 2 0) g.sp = 0 from not_not_intro h35), if_neg (fun z => z.2 h39), if_pos h43, if_neg (show ¬ ¬ Hp.t.lookup g.dp ((frPay l).getD 2 0) g.sp = 0 from not_not_intro h35), if_neg (fun z => z.2 h39), if_pos h43]
                            exact ⟨_, _, _, _, _, hlk_2.trans hlk, rfl, hl_1, rfl⟩
                          · try simp only [decide_eq_true_eq, decide_eq_false_iff_not, Bool.not_eq_true', Bool.not_eq_false', Int.not_lt, Int.not_le, Decidable.not_not, beq_iff_eq, bne_iff_ne, ne_eq, beq_eq_false_iff_ne] at h43
                            refine c_skip ?_
                            refine c_seq ?_
                            refine c_draw #[true, true, true, true, true, true, true, true, true, false] rfl (n := 10) rfl ?_
                            refine d_T 0 rfl (by kernel_rfl) rfl (y_move rfl) rfl ?_
                            refine d_T 1 rfl (by kernel_rfl) rfl (y_nilck rfl) rfl ?_
                            refine d_T 2 rfl (by kernel_rfl) rfl (y_fa fl_111_3 rfl) rfl ?_
                            refine d_T 3 rfl (by kernel_rfl) rfl (y_ia ar_109 rfl rfl (by omega) (by omega)) rfl ?_
                            refine d_ld 4 rfl (by kernel_rfl) one_3 rfl (fun x hx => hx) (ms (ms (ms (ms (ms (ms (ms (ms (ms (ms (ms m0))))))))))) (Hs.gr_dropped _ (by omega) rfl) rfl ?_
                            refine d_T 5 rfl (by kernel_rfl) rfl (y_add rfl rfl rfl) rfl ?_
                            refine d_T 6 rfl (by kernel_rfl) rfl (y_nilck rfl) rfl ?_
                            refine d_T 7 rfl (by kernel_rfl) rfl (y_fa fl_111_3 rfl) rfl ?_
                            refine d_T 8 rfl (by kernel_rfl) rfl (y_ia ar_109 rfl rfl (by omega) (by omega)) rfl ?_
                            refine d_hard 9 rfl (by kernel_rfl) ?_
                            refine o_st one_3 rfl rfl rfl (rs (rs (rs (rs (rs (rs (rs (rs (rs (rs (rs r0))))))))))) (Hs.sr_dropped _ (by omega) rfl) (by simp only [Hs.size]; omega) ?_
                            refine o_stop (fun h => nomatch h) ?_
                            refine d_nil0 (by kernel_rfl) rfl ?_
                            refine c_seq ?_
                            refine c_region ?_
                            refine o_ldw ag_178 rfl m0 rfl rfl ?_
                            refine o_call en_121 rfl (t121 _ _ (by assumption)) (s_skip (s_take s_nil)) rfl ?_
                            rintro v S' ⟨b_9, rfl, rfl⟩
                            refine o_alloc ze_178 rfl rfl (fun b_10 => ?_)
                            refine o_sta ag_178 rfl rfl rfl rfl r0 (setAll_full _ _ rfl) (of_ble rfl) ?_
                            refine o_nil0 rfl ?_
                            refine c_seq ?_
                            refine c_region ?_
                            refine o_T (y_move rfl) rfl ?_
                            refine o_T (y_move rfl) rfl ?_
                            refine o_T (y_fa fl_174_0 rfl) rfl ?_
                            refine o_ld one_3 rfl (ms (ms (ms (ms (ms (ms (ms m0))))))) Dg.g0 rfl ?_
                            refine o_ldw ag_178 rfl m0 rfl rfl ?_
                            refine o_call en_122 rfl (t122 _ _ _ _ _ _ _ _ _ _ _ (by assumption) (by assumption) hl_1 (by omega) (by assumption) (by omega) (by omega)) (s_get (ks (ks (ks (ks (ks (ks (ks (ks (ks (ks (ks (ks (ks k0))))))))))))) (s_get (ks (ks (ks (ks (ks (ks (ks (ks (ks k0))))))))) (s_get (ks (ks (ks (ks (ks k0))))) (s_get (ks (ks (ks (ks (ks (ks (ks (ks (ks k0))))))))) (s_get (ks (ks (ks (ks (ks (ks (ks (ks (ks k0))))))))) (s_get (ks k0) s_nil)))))) rfl ?_
                            rintro v S' ⟨lk_5, dr_3, v_4, gv_4, gd_3, hlk_5, rfl, hl_4, rfl⟩
                            refine o_L (y_assign rfl) rfl rfl ?_
                            refine o_nil0 rfl ?_
                            refine c_ret ?_
                            refine fun aX wX heX hsX => ret1 Tryz.results79 heX rfl (s_get k0 (s_get k0 (s_get k0 (s_get k0 (s_get k0 (s_get (ks (ks (ks (ks (ks (ks (ks (ks (ks k0))))))))) (s_get (ks (ks (ks (ks (ks (ks (ks (ks (ks k0))))))))) (s_get (ks (ks (ks (ks (ks (ks (ks (ks k0)))))))) s_nil)))))))) ?_
                            have e1 : H.segIn l = some ((frPay l).getD 2 0, g) := by unfold Hst.segIn; rw [if_neg (by omega), if_neg (by omega), if_neg (by omega), if_neg (by omega), if_neg (by omega), hgg]
                            have e2 : H.pIn l = Hp := by unfold Hst.pIn; rw [if_pos ⟨by omega, by omega⟩, hHp]
                            have e3 : H.inputF l = Hp.dispF ((frPay l).getD 2 0) g := by unfold Hst.inputF; rw [e1, e2]
                            have e4 : H.inputH l = Hp.dispH ((frPay l).getD 2 0) g := by unfold Hst.inputH; rw [e1, e2]
                            rw [e3, e4]
                            unfold Hst.dispF Hst.dispH
                            rw [if_neg (show ¬ ¬ Hp.t.lookup g.dp ((frPay l).getD 2 0) g.sp = 0 from not_not_intro h35), if_neg (fun z => z.2 h39), if_neg (not_not_intro h43), if_neg (show ¬ ¬ Hp.t.lookup g.dp ((frPay l).getD 2 0) g.sp = 0 from not_not_intro h35), if_neg (fun z => z.2 h39), if_neg (not_not_intro h43)]
                            rw [Hst.sendH_t, Hst.sendH_c]
                            exact ⟨_, _, _, _, _, hlk_5.trans hHa, rfl, hl_4.to (List.nil_append _), rfl⟩
                      · try simp only [decide_eq_true_eq, decide_eq_false_iff_not, Bool.not_eq_true', Bool.not_eq_false', Int.not_lt, Int.not_le, Decidable.not_not, beq_iff_eq, bne_iff_ne, ne_eq, beq_eq_false_iff_ne] at h38
                        refine c_skip ?_
                        refine c_seq ?_
                        refine c_seq ?_
                        refine c_region ?_
                        refine o_T (y_fa fl_178_4 rfl) rfl ?_
                        refine o_ld one_3 rfl m0 Sg.g4 rfl ?_
                        refine o_T (y_and rfl rfl (fl8 hgo.flags)) rfl ?_
                        refine o_T (y_neq rfl rfl) rfl ?_
                        refine o_nil1 142 rfl rfl ?_
                        refine c_cond rfl (fun h43 => ?_) (fun h43 => ?_)
                        · try simp only [decide_eq_true_eq, decide_eq_false_iff_not, Bool.not_eq_true', Bool.not_eq_false', Int.not_lt, Int.not_le, Decidable.not_not, beq_iff_eq, bne_iff_ne, ne_eq, beq_eq_false_iff_ne] at h43
                          refine c_seq ?_
                          refine c_draw #[true, true, true, true, true, true, true, true, true, false] rfl (n := 10) rfl ?_
                          refine d_T 0 rfl (by kernel_rfl) rfl (y_move rfl) rfl ?_
                          refine d_T 1 rfl (by kernel_rfl) rfl (y_nilck rfl) rfl ?_
                          refine d_T 2 rfl (by kernel_rfl) rfl (y_fa fl_111_3 rfl) rfl ?_
                          refine d_T 3 rfl (by kernel_rfl) rfl (y_ia ar_109 rfl rfl (by omega) (by omega)) rfl ?_
                          refine d_ld 4 rfl (by kernel_rfl) one_3 rfl (fun x hx => hx) (ms (ms (ms (ms (ms (ms (ms (ms (ms (ms (ms m0))))))))))) (Hs.gr_dropped _ (by omega) rfl) rfl ?_
                          refine d_T 5 rfl (by kernel_rfl) rfl (y_add rfl rfl rfl) rfl ?_
                          refine d_T 6 rfl (by kernel_rfl) rfl (y_nilck rfl) rfl ?_
                          refine d_T 7 rfl (by kernel_rfl) rfl (y_fa fl_111_3 rfl) rfl ?_
                          refine d_T 8 rfl (by kernel_rfl) rfl (y_ia ar_109 rfl rfl (by omega) (by omega)) rfl ?_
                          refine d_hard 9 rfl (by kernel_rfl) ?_
                          refine o_st one_3 rfl rfl rfl (rs (rs (rs (rs (rs (rs (rs (rs (rs (rs (rs r0))))))))))) (Hs.sr_dropped _ (by omega) rfl) (by simp only [Hs.size]; omega) ?_
                          refine o_stop (fun h => nomatch h) ?_
                          refine d_nil0 (by kernel_rfl) rfl ?_
                          refine c_seq ?_
                          refine c_region ?_
                          refine o_T (y_move rfl) rfl ?_
                          refine o_L (y_assign rfl) rfl rfl ?_
                          refine o_nil0 rfl ?_
                          refine c_ret ?_
                          refine fun aX wX heX hsX => ret1 Tryz.results79 heX rfl (s_get (ks (ks (ks (ks (ks (ks (ks (ks (ks k0))))))))) (s_get (ks (ks (ks (ks (ks (ks (ks (ks (ks k0))))))))) (s_get (ks (ks (ks (ks (ks (ks (ks (ks (ks k0))))))))) (s_get (ks (ks (ks (ks (ks (ks (ks k0))))))) (s_get (ks (ks (ks k0))) (s_get (ks (ks (ks (ks (ks (ks (ks k0))))))) (s_get (ks (ks (ks (ks (ks (ks (ks k0))))))) (s_get (ks (ks (ks (ks (ks (ks k0)))))) s_nil)))))))) ?_
                          have e1 : H.segIn l = some ((frPay l).getD 2 0, g) := by unfold Hst.segIn; rw [if_neg (by omega), if_neg (by omega), if_neg (by omega), if_neg (by omega), if_neg (by omega), hgg]
                          have e2 : H.pIn l = Hp := by unfold Hst.pIn; rw [if_pos ⟨by omega, by omega⟩, hHp]
                          have e3 : H.inputF l = Hp.dispF ((frPay l).getD 2 0) g := by unfold Hst.inputF; rw [e1, e2]
                          have e4 : H.inputH l = Hp.dispH ((frPay l).getD 2 0) g := by unfold Hst.inputH; rw [e1, e2]
                          rw [e3, e4]
                          unfold Hst.dispF Hst.dispH
                          rw [if_neg (show ¬ ¬ Hp.t.lookup g.dp ((frPay l).getD 2 0) g.sp = 0 from not_not_intro h35), if_neg (fun z => h38 z.1), if_pos h43, if_neg (show ¬ ¬ Hp.t.lookup g.dp ((frPay l).getD 2 0) g.sp = 0 from not_not_intro h35), if_neg (fun z => h38 z.1), if_pos h43]
                          exact ⟨_, _, _, _, _, hlk_2.trans hlk, rfl, hl_1, rfl⟩
                        · try simp only [decide_eq_true_eq, decide_eq_false_iff_not, Bool.not_eq_true', Bool.not_eq_false', Int.not_lt, Int.not_le, Decidable.not_not, beq_iff_eq, bne_iff_ne, ne_eq, beq_eq_false_iff_ne] at h43
                          refine c_skip ?_
                          refine c_seq ?_
                          refine c_draw #[true, true, true, true, true, true, true, true, true, false] rfl (n := 10) rfl ?_
                          refine d_T 0 rfl (by kernel_rfl) rfl (y_move rfl) rfl ?_
                          refine d_T 1 rfl (by kernel_rfl) rfl (y_nilck rfl) rfl ?_
                          refine d_T 2 rfl (by kernel_rfl) rfl (y_fa fl_111_3 rfl) rfl ?_
                          refine d_T 3 rfl (by kernel_rfl) rfl (y_ia ar_109 rfl rfl (by omega) (by omega)) rfl ?_
                          refine d_ld 4 rfl (by kernel_rfl) one_3 rfl (fun x hx => hx) (ms (ms (ms (ms (ms (ms (ms (ms (ms (ms (ms m0))))))))))) (Hs.gr_dropped _ (by omega) rfl) rfl ?_
                          refine d_T 5 rfl (by kernel_rfl) rfl (y_add rfl rfl rfl) rfl ?_
                          refine d_T 6 rfl (by kernel_rfl) rfl (y_nilck rfl) rfl ?_
                          refine d_T 7 rfl (by kernel_rfl) rfl (y_fa fl_111_3 rfl) rfl ?_
                          refine d_T 8 rfl (by kernel_rfl) rfl (y_ia ar_109 rfl rfl (by omega) (by omega)) rfl ?_
                          refine d_hard 9 rfl (by kernel_rfl) ?_
                          refine o_st one_3 rfl rfl rfl (rs (rs (rs (rs (rs (rs (rs (rs (rs (rs (rs r0))))))))))) (Hs.sr_dropped _ (by omega) rfl) (by simp only [Hs.size]; omega) ?_
                          refine o_stop (fun h => nomatch h) ?_
                          refine d_nil0 (by kernel_rfl) rfl ?_
                          refine c_seq ?_
                          refine c_region ?_
                          refine o_ldw ag_178 rfl m0 rfl rfl ?_
                          refine o_call en_121 rfl (t121 _ _ (by assumption)) (s_skip (s_take s_nil)) rfl ?_
                          rintro v S' ⟨b_11, rfl, rfl⟩
                          refine o_alloc ze_178 rfl rfl (fun b_12 => ?_)
                          refine o_sta ag_178 rfl rfl rfl rfl r0 (setAll_full _ _ rfl) (of_ble rfl) ?_
                          refine o_nil0 rfl ?_
                          refine c_seq ?_
                          refine c_region ?_
                          refine o_T (y_move rfl) rfl ?_
                          refine o_T (y_move rfl) rfl ?_
                          refine o_T (y_fa fl_174_0 rfl) rfl ?_
                          refine o_ld one_3 rfl (ms (ms (ms (ms (ms (ms (ms m0))))))) Dg.g0 rfl ?_
                          refine o_ldw ag_178 rfl m0 rfl rfl ?_
                          refine o_call en_122 rfl (t122 _ _ _ _ _ _ _ _ _ _ _ (by assumption) (by assumption) hl_1 (by omega) (by assumption) (by omega) (by omega)) (s_get (ks (ks (ks (ks (ks (ks (ks (ks (ks (ks (ks (ks (ks k0))))))))))))) (s_get (ks (ks (ks (ks (ks (ks (ks (ks (ks k0))))))))) (s_get (ks (ks (ks (ks (ks k0))))) (s_get (ks (ks (ks (ks (ks (ks (ks (ks (ks k0))))))))) (s_get (ks (ks (ks (ks (ks (ks (ks (ks (ks k0))))))))) (s_get (ks k0) s_nil)))))) rfl ?_
                          rintro v S' ⟨lk_6, dr_4, v_5, gv_5, gd_4, hlk_6, rfl, hl_5, rfl⟩
                          refine o_L (y_assign rfl) rfl rfl ?_
                          refine o_nil0 rfl ?_
                          refine c_ret ?_
                          refine fun aX wX heX hsX => ret1 Tryz.results79 heX rfl (s_get k0 (s_get k0 (s_get k0 (s_get k0 (s_get k0 (s_get (ks (ks (ks (ks (ks (ks (ks (ks (ks k0))))))))) (s_get (ks (ks (ks (ks (ks (ks (ks (ks (ks k0))))))))) (s_get (ks (ks (ks (ks (ks (ks (ks (ks k0)))))))) s_nil)))))))) ?_
                          have e1 : H.segIn l = some ((frPay l).getD 2 0, g) := by unfold Hst.segIn; rw [if_neg (by omega), if_neg (by omega), if_neg (by omega), if_neg (by omega), if_neg (by omega), hgg]
                          have e2 : H.pIn l = Hp := by unfold Hst.pIn; rw [if_pos ⟨by omega, by omega⟩, hHp]
                          have e3 : H.inputF l = Hp.dispF ((frPay l).getD 2 0) g := by unfold Hst.inputF; rw [e1, e2]
                          have e4 : H.inputH l = Hp.dispH ((frPay l).getD 2 0) g := by unfold Hst.inputH; rw [e1, e2]
                          rw [e3, e4]
                          unfold Hst.dispF Hst.dispH
                          rw [if_neg (show ¬ ¬ Hp.t.lookup g.dp ((frPay l).getD 2 0) g.sp = 0 from not_not_intro h35), if_neg (fun z => h38 z.1), if_neg (not_not_intro h43), if_neg (show ¬ ¬ Hp.t.lookup g.dp ((frPay l).getD 2 0) g.sp = 0 from not_not_intro h35), if_neg (fun z => h38 z.1), if_neg (not_not_intro h43)]
                          rw [Hst.sendH_t, Hst.sendH_c]
                          exact ⟨_, _, _, _, _, hlk_6.trans hHa, rfl, hl_5.to (List.nil_append _), rfl⟩
        · skip
          refine o_call en_115 rfl (t115 _ _ _ _ _ _ _ _ _ (by assumption) hdX) (s_get (ks (ks (ks (ks (ks (ks (ks k0))))))) (s_get (ks k0) s_nil)) rfl ?_
          rintro v S' (⟨hd_7, rfl, rfl⟩ | ⟨hd_8, b_13, rfl, rfl⟩)
          · skip
            refine o_stop (fun h => nomatch h) ?_
            refine d_T 7 rfl (by kernel_rfl) rfl (y_move rfl) rfl ?_
            refine d_T 8 rfl (by kernel_rfl) rfl (y_extract rfl rfl) rfl ?_
            refine d_T 9 rfl (by kernel_rfl) rfl (y_extract rfl rfl) rfl ?_
            refine d_hardA 10 rfl (by kernel_rfl) ze_174 rfl rfl (fun b_14 => ?_)
            refine d_hard 11 rfl (by kernel_rfl) ?_
            refine o_sta ag_174 rfl rfl rfl rfl r0 (setAll_full _ _ rfl) (of_ble rfl) ?_
            refine o_stop (fun h => nomatch h) ?_
            refine d_L 12 rfl (by kernel_rfl) rfl (y_assign rfl) rfl rfl ?_
            refine d_nil0 (by kernel_rfl) rfl ?_
            refine c_seq ?_
            refine c_seq ?_
            refine c_region ?_
            refine o_T (y_move rfl) rfl ?_
            refine o_T (y_neq rfl rfl) rfl ?_
            refine o_nil1 58 rfl rfl ?_
            refine c_cond rfl (fun h21 => ?_) (fun h21 => ?_)
            · try simp only [decide_eq_true_eq, decide_eq_false_iff_not, Bool.not_eq_true', Bool.not_eq_false', Int.not_lt, Int.not_le, Decidable.not_not, beq_iff_eq, bne_iff_ne, ne_eq, beq_eq_false_iff_ne] at h21
              refine c_seq ?_
              refine c_draw #[true, true, true, true, true, true, true, true, true, false] rfl (n := 10) rfl ?_
              refine d_T 0 rfl (by kernel_rfl) rfl (y_move rfl) rfl ?_
              refine d_T 1 rfl (by kernel_rfl) rfl (y_nilck rfl) rfl ?_
              refine d_T 2 rfl (by kernel_rfl) rfl (y_fa fl_111_3 rfl) rfl ?_
              refine d_T 3 rfl (by kernel_rfl) rfl (y_ia ar_109 rfl rfl (by omega) (by omega)) rfl ?_
              refine d_ld 4 rfl (by kernel_rfl) one_3 rfl (fun x hx => hx) (ms (ms (ms (ms (ms (ms (ms (ms m0)))))))) (Hs.gr_dropped _ (by omega) rfl) rfl ?_
              refine d_T 5 rfl (by kernel_rfl) rfl (y_add rfl rfl rfl) rfl ?_
              refine d_T 6 rfl (by kernel_rfl) rfl (y_nilck rfl) rfl ?_
              refine d_T 7 rfl (by kernel_rfl) rfl (y_fa fl_111_3 rfl) rfl ?_
              refine d_T 8 rfl (by kernel_rfl) rfl (y_ia ar_109 rfl rfl (by omega) (by omega)) rfl ?_
              refine d_hard 9 rfl (by kernel_rfl) ?_
              refine o_st one_3 rfl rfl rfl (rs (rs (rs (rs (rs (rs (rs (rs r0)))))))) (Hs.sr_dropped _ (by omega) rfl) (by simp only [Hs.size]; omega) ?_
              refine o_stop (fun h => nomatch h) ?_
              refine d_nil0 (by kernel_rfl) rfl ?_
              refine c_seq ?_
              refine c_region ?_
              refine o_T (y_move rfl) rfl ?_
              refine o_L (y_assign rfl) rfl rfl ?_
              refine o_nil0 rfl ?_
              refine c_ret ?_
              refine fun aX wX heX hsX => ret1 Tryz.results79 heX rfl (s_get (ks (ks (ks (ks (ks (ks k0)))))) (s_get (ks (ks (ks (ks (ks (ks k0)))))) (s_get (ks (ks (ks (ks (ks (ks k0)))))) (s_get (ks (ks (ks (ks k0)))) (s_get (ks k0) (s_get (ks (ks (ks (ks k0)))) (s_get (ks (ks (ks (ks k0)))) (s_get (ks (ks (ks k0))) s_nil)))))))) ?_
              have e1 : H.segIn l = none := by unfold Hst.segIn; rw [if_neg (by omega), if_neg (by omega), if_pos (by omega)]
              have e2 : H.pIn l = { H with p := (H.p.inp (frPay l)).2.1 } := by unfold Hst.pIn; rw [if_pos ⟨by omega, by omega⟩]
              have e3 : H.inputF l = [] := by unfold Hst.inputF; rw [e1]
              have e4 : H.inputH l = { H with p := (H.p.inp (frPay l)).2.1 } := by unfold Hst.inputH; rw [e1]; exact e2
              rw [e3, e4]
              exact ⟨_, _, _, _, _, hlk_2.trans hlk, rfl, hl_1, rfl⟩
            · try simp only [decide_eq_true_eq, decide_eq_false_iff_not, Bool.not_eq_true', Bool.not_eq_false', Int.not_lt, Int.not_le, Decidable.not_not, beq_iff_eq, bne_iff_ne, ne_eq, beq_eq_false_iff_ne] at h21
              first | (exfalso; omega) | exact absurd rfl h21 | exact absurd h21 (by decide)
          · skip
            refine o_stop (fun h => nomatch h) ?_
            refine d_T 7 rfl (by kernel_rfl) rfl (y_move rfl) rfl ?_
            refine d_T 8 rfl (by kernel_rfl) rfl (y_extract rfl rfl) rfl ?_
            refine d_T 9 rfl (by kernel_rfl) rfl (y_extract rfl rfl) rfl ?_
            refine d_hardA 10 rfl (by kernel_rfl) ze_174 rfl rfl (fun b_15 => ?_)
            refine d_hard 11 rfl (by kernel_rfl) ?_
            refine o_sta ag_174 rfl rfl rfl rfl r0 (setAll_full _ _ rfl) (of_ble rfl) ?_
            refine o_stop (fun h => nomatch h) ?_
            refine d_L 12 rfl (by kernel_rfl) rfl (y_assign rfl) rfl rfl ?_
            refine d_nil0 (by kernel_rfl) rfl ?_
            refine c_seq ?_
            refine c_seq ?_
            refine c_region ?_
            refine o_T (y_move rfl) rfl ?_
            refine o_T (y_neq rfl rfl) rfl ?_
            refine o_nil1 58 rfl rfl ?_
            refine c_cond rfl (fun h21 => ?_) (fun h21 => ?_)
            · try simp only [decide_eq_true_eq, decide_eq_false_iff_not, Bool.not_eq_true', Bool.not_eq_false', Int.not_lt, Int.not_le, Decidable.not_not, beq_iff_eq, bne_iff_ne, ne_eq, beq_eq_false_iff_ne] at h21
              first | (exfalso; omega) | exact absurd rfl h21 | exact absurd h21 (by decide)
            · try simp only [decide_eq_true_eq, decide_eq_false_iff_not, Bool.not_eq_true', Bool.not_eq_false', Int.not_lt, Int.not_le, Decidable.not_not, beq_iff_eq, bne_iff_ne, ne_eq, beq_eq_false_iff_ne] at h21
              refine c_skip ?_
              refine c_seq ?_
              refine c_seq ?_
              refine c_region ?_
              refine o_T (y_fa fl_174_2 rfl) rfl ?_
              refine o_ld one_3 rfl m0 Dg.g2 rfl ?_
              refine o_T (y_neq rfl rfl) rfl ?_
              refine o_nil1 71 rfl rfl ?_
              refine c_cond rfl (fun h25 => ?_) (fun h25 => ?_)
              · try simp only [decide_eq_true_eq, decide_eq_false_iff_not, Bool.not_eq_true', Bool.not_eq_false', Int.not_lt, Int.not_le, Decidable.not_not, beq_iff_eq, bne_iff_ne, ne_eq, beq_eq_false_iff_ne] at h25
                refine c_seq ?_
                refine c_draw #[true, true, true, true, true, true, true, true, true, false] rfl (n := 10) rfl ?_
                refine d_T 0 rfl (by kernel_rfl) rfl (y_move rfl) rfl ?_
                refine d_T 1 rfl (by kernel_rfl) rfl (y_nilck rfl) rfl ?_
                refine d_T 2 rfl (by kernel_rfl) rfl (y_fa fl_111_3 rfl) rfl ?_
                refine d_T 3 rfl (by kernel_rfl) rfl (y_ia ar_109 rfl rfl (by omega) (by omega)) rfl ?_
                refine d_ld 4 rfl (by kernel_rfl) one_3 rfl (fun x hx => hx) (ms (ms (ms (ms (ms (ms (ms (ms (ms m0))))))))) (Hs.gr_dropped _ (by omega) rfl) rfl ?_
                refine d_T 5 rfl (by kernel_rfl) rfl (y_add rfl rfl rfl) rfl ?_
                refine d_T 6 rfl (by kernel_rfl) rfl (y_nilck rfl) rfl ?_
                refine d_T 7 rfl (by kernel_rfl) rfl (y_fa fl_111_3 rfl) rfl ?_
                refine d_T 8 rfl (by kernel_rfl) rfl (y_ia ar_109 rfl rfl (by omega) (by omega)) rfl ?_
                refine d_hard 9 rfl (by kernel_rfl) ?_
                refine o_st one_3 rfl rfl rfl (rs (rs (rs (rs (rs (rs (rs (rs (rs r0))))))))) (Hs.sr_dropped _ (by omega) rfl) (by simp only [Hs.size]; omega) ?_
                refine o_stop (fun h => nomatch h) ?_
                refine d_nil0 (by kernel_rfl) rfl ?_
                refine c_seq ?_
                refine c_region ?_
                refine o_T (y_move rfl) rfl ?_
                refine o_L (y_assign rfl) rfl rfl ?_
                refine o_nil0 rfl ?_
                refine c_ret ?_
                refine fun aX wX heX hsX => ret1 Tryz.results79 heX rfl (s_get (ks (ks (ks (ks (ks (ks (ks k0))))))) (s_get (ks (ks (ks (ks (ks (ks (ks k0))))))) (s_get (ks (ks (ks (ks (ks (ks (ks k0))))))) (s_get (ks (ks (ks (ks (ks k0))))) (s_get (ks (ks k0)) (s_get (ks (ks (ks (ks (ks k0))))) (s_get (ks (ks (ks (ks (ks k0))))) (s_get (ks (ks (ks (ks k0)))) s_nil)))))))) ?_
                have e1 : H.segIn l = none := by unfold Hst.segIn; rw [if_neg (by omega), if_neg (by omega), if_neg (by omega), if_pos (by omega)]
                have e2 : H.pIn l = { H with p := (H.p.inp (frPay l)).2.1 } := by unfold Hst.pIn; rw [if_pos ⟨by omega, by omega⟩]
                have e3 : H.inputF l = [] := by unfold Hst.inputF; rw [e1]
                have e4 : H.inputH l = { H with p := (H.p.inp (frPay l)).2.1 } := by unfold Hst.inputH; rw [e1]; exact e2
                rw [e3, e4]
                exact ⟨_, _, _, _, _, hlk_2.trans hlk, rfl, hl_1, rfl⟩
              · try simp only [decide_eq_true_eq, decide_eq_false_iff_not, Bool.not_eq_true', Bool.not_eq_false', Int.not_lt, Int.not_le, Decidable.not_not, beq_iff_eq, bne_iff_ne, ne_eq, beq_eq_false_iff_ne] at h25
                refine c_skip ?_
                refine c_seq ?_
                have hdB := (Ipt.inp_data op hpb).1
                have hdL := (Ipt.inp_data op hpb).2
                have hdX := BytAt.full hdB (by omega)
                have hs2 := hpb.getD 2
                refine c_region ?_
                refine o_T (y_fa fl_174_0 rfl) rfl ?_
                refine o_ld one_3 rfl m0 Dg.g0 rfl ?_
                refine o_T (y_fa fl_174_1 rfl) rfl ?_
                refine o_ld one_3 rfl m0 Dg.g1 rfl ?_
                refine o_T (y_fa fl_174_3 rfl) rfl ?_
                refine o_ld one_81 rfl m0 Dg.g3 rfl ?_
                refine o_call en_116 rfl (t116 _ _ _ _ _ _ _ _ _ hdX (by omega) (by omega)) (s_skip (s_take s_nil)) rfl ?_
                rintro v S' (⟨hd_9, rfl, rfl⟩ | ⟨hd_10, b_16, rfl, rfl⟩)
                · skip
                  refine o_T (y_move rfl) rfl ?_
                  refine o_T (y_extract rfl rfl) rfl ?_
                  refine o_T (y_extract rfl rfl) rfl ?_
                  refine o_alloc ze_178 rfl rfl (fun b_17 => ?_)
                  refine o_sta ag_178 rfl rfl rfl rfl r0 (setAll_full _ _ rfl) (of_ble rfl) ?_
                  refine o_L (y_assign rfl) rfl rfl ?_
                  refine o_nil0 rfl ?_
                  refine c_seq ?_
                  refine c_seq ?_
                  refine c_region ?_
                  refine o_T (y_move rfl) rfl ?_
                  refine o_T (y_neq rfl rfl) rfl ?_
                  refine o_nil1 93 rfl rfl ?_
                  refine c_cond rfl (fun h30 => ?_) (fun h30 => ?_)
                  · try simp only [decide_eq_true_eq, decide_eq_false_iff_not, Bool.not_eq_true', Bool.not_eq_false', Int.not_lt, Int.not_le, Decidable.not_not, beq_iff_eq, bne_iff_ne, ne_eq, beq_eq_false_iff_ne] at h30
                    refine c_seq ?_
                    refine c_draw #[true, true, true, true, true, true, true, true, true, false] rfl (n := 10) rfl ?_
                    refine d_T 0 rfl (by kernel_rfl) rfl (y_move rfl) rfl ?_
                    refine d_T 1 rfl (by kernel_rfl) rfl (y_nilck rfl) rfl ?_
                    refine d_T 2 rfl (by kernel_rfl) rfl (y_fa fl_111_3 rfl) rfl ?_
                    refine d_T 3 rfl (by kernel_rfl) rfl (y_ia ar_109 rfl rfl (by omega) (by omega)) rfl ?_
                    refine d_ld 4 rfl (by kernel_rfl) one_3 rfl (fun x hx => hx) (ms (ms (ms (ms (ms (ms (ms (ms (ms (ms m0)))))))))) (Hs.gr_dropped _ (by omega) rfl) rfl ?_
                    refine d_T 5 rfl (by kernel_rfl) rfl (y_add rfl rfl rfl) rfl ?_
                    refine d_T 6 rfl (by kernel_rfl) rfl (y_nilck rfl) rfl ?_
                    refine d_T 7 rfl (by kernel_rfl) rfl (y_fa fl_111_3 rfl) rfl ?_
                    refine d_T 8 rfl (by kernel_rfl) rfl (y_ia ar_109 rfl rfl (by omega) (by omega)) rfl ?_
                    refine d_hard 9 rfl (by kernel_rfl) ?_
                    refine o_st one_3 rfl rfl rfl (rs (rs (rs (rs (rs (rs (rs (rs (rs (rs r0)))))))))) (Hs.sr_dropped _ (by omega) rfl) (by simp only [Hs.size]; omega) ?_
                    refine o_stop (fun h => nomatch h) ?_
                    refine d_nil0 (by kernel_rfl) rfl ?_
                    refine c_seq ?_
                    refine c_region ?_
                    refine o_T (y_move rfl) rfl ?_
                    refine o_L (y_assign rfl) rfl rfl ?_
                    refine o_nil0 rfl ?_
                    refine c_ret ?_
                    refine fun aX wX heX hsX => ret1 Tryz.results79 heX rfl (s_get (ks (ks (ks (ks (ks (ks (ks (ks k0)))))))) (s_get (ks (ks (ks (ks (ks (ks (ks (ks k0)))))))) (s_get (ks (ks (ks (ks (ks (ks (ks (ks k0)))))))) (s_get (ks (ks (ks (ks (ks (ks k0)))))) (s_get (ks (ks (ks k0))) (s_get (ks (ks (ks (ks (ks (ks k0)))))) (s_get (ks (ks (ks (ks (ks (ks k0)))))) (s_get (ks (ks (ks (ks (ks k0))))) s_nil)))))))) ?_
                    have e1 : H.segIn l = none := by unfold Hst.segIn; rw [if_neg (by omega), if_neg (by omega), if_neg (by omega), if_neg (by omega), if_pos (by omega)]
                    have e2 : H.pIn l = { H with p := (H.p.inp (frPay l)).2.1 } := by unfold Hst.pIn; rw [if_pos ⟨by omega, by omega⟩]
                    have e3 : H.inputF l = [] := by unfold Hst.inputF; rw [e1]
                    have e4 : H.inputH l = { H with p := (H.p.inp (frPay l)).2.1 } := by unfold Hst.inputH; rw [e1]; exact e2
                    rw [e3, e4]
                    exact ⟨_, _, _, _, _, hlk_2.trans hlk, rfl, hl_1, rfl⟩
                  · try simp only [decide_eq_true_eq, decide_eq_false_iff_not, Bool.not_eq_true', Bool.not_eq_false', Int.not_lt, Int.not_le, Decidable.not_not, beq_iff_eq, bne_iff_ne, ne_eq, beq_eq_false_iff_ne] at h30
                    first | (exfalso; omega) | exact absurd rfl h30 | exact absurd h30 (by decide)
                · skip
                  refine o_T (y_move rfl) rfl ?_
                  refine o_T (y_extract rfl rfl) rfl ?_
                  refine o_T (y_extract rfl rfl) rfl ?_
                  refine o_alloc ze_178 rfl rfl (fun b_18 => ?_)
                  refine o_sta ag_178 rfl rfl rfl rfl r0 (setAll_full _ _ rfl) (of_ble rfl) ?_
                  refine o_L (y_assign rfl) rfl rfl ?_
                  refine o_nil0 rfl ?_
                  refine c_seq ?_
                  refine c_seq ?_
                  refine c_region ?_
                  refine o_T (y_move rfl) rfl ?_
                  refine o_T (y_neq rfl rfl) rfl ?_
                  refine o_nil1 93 rfl rfl ?_
                  refine c_cond rfl (fun h30 => ?_) (fun h30 => ?_)
                  · try simp only [decide_eq_true_eq, decide_eq_false_iff_not, Bool.not_eq_true', Bool.not_eq_false', Int.not_lt, Int.not_le, Decidable.not_not, beq_iff_eq, bne_iff_ne, ne_eq, beq_eq_false_iff_ne] at h30
                    first | (exfalso; omega) | exact absurd rfl h30 | exact absurd h30 (by decide)
                  · try simp only [decide_eq_true_eq, decide_eq_false_iff_not, Bool.not_eq_true', Bool.not_eq_false', Int.not_lt, Int.not_le, Decidable.not_not, beq_iff_eq, bne_iff_ne, ne_eq, beq_eq_false_iff_ne] at h30
                    refine c_skip ?_
                    refine c_seq ?_
                    obtain ⟨g, hgg⟩ : ∃ g, g = (segDec ((frPay l).getD 2 0) H.p.addr (H.p.inp (frPay l)).2.2).2 := ⟨_, rfl⟩
                    have hgo : g.Ok := by rw [hgg]; exact segDec_isOk hdB (by omega)
                    have hd := BytAt.full hgo.bytes (by have := hgo.len; omega)
                    refine c_row (g' := [(b_18, .cells (segC b_16 g).enc 178 (0, 0))]) q0 (by rw [hgg]) ?_
                    refine c_row (g' := byG b_16 g.data 5) (qs q0) (by rw [hgg]) ?_
                    obtain ⟨Hp, hHp⟩ : ∃ Hp, Hp = ({ H with p := (H.p.inp (frPay l)).2.1 } : Hst) := ⟨_, rfl⟩
                    refine c_row (g' := [(q.h, .cells (q.hs Hp dr).enc 111 (0, 0))]) (qs (qs (qs (qs (qs (qs (qs (qs (qs (qs (qs q0))))))))))) (by rw [hHp] <;> rfl) ?_
                    refine c_row (g' := [(q.p, .cells Hp.p.enc 153 (0, 0))]) (qs (qs (qs (qs q0)))) (by rw [hHp] <;> rfl) ?_
                    refine c_row (g' := [(q.t, .cells Hp.t.enc 159 (0, 0))]) (qs (qs (qs (qs (qs (qs (qs (qs (qs (qs (qs (qs q0)))))))))))) (by rw [hHp] <;> rfl) ?_
                    refine c_row (g' := q.csG Hp.c) (qs (qs (qs (qs (qs (qs (qs (qs (qs (qs (qs (qs (qs q0))))))))))))) (by rw [hHp] <;> rfl) ?_
                    have hHa : Hp.addr = H.addr := by rw [hHp]
                    have hlk9 := (hlk_2.trans hlk).trans hHa.symm
                    have okp : Hp.Ok := by rw [hHp]; exact ⟨oa, oc, ol, Ipt.ok_inp op hpb, (Ipt.inp_addr _ _).1.trans opa, oc4, ot⟩
                    have hlo9 : Hp.lost = H.lost := by rw [hHp]
                    have hsg1 : H.segIn l = some ((frPay l).getD 2 0, g) := by unfold Hst.segIn; rw [if_neg (by omega), if_neg (by omega), if_neg (by omega), if_neg (by omega), if_neg (by omega), hgg]
                    have hDO : Hp.DispOk ((frPay l).getD 2 0) g := by rw [hHp]; exact Hst.disp_p (hD _ _ hsg1) _
                    have hs2 := hpb.getD 2
                    have hgsp := hgo.sp
                    have hgdp := hgo.dp
                    have hno := nobody_ok hgo
                    have hln0 : ([] : List (List Int)).length ≤ 900000 := Nat.zero_le _
                    have okpt := okp.t
                    refine c_draw #[true, true, true, true, true, true, true, true, true, true, true, true] rfl (n := 12) rfl ?_
                    refine d_T 0 rfl (by kernel_rfl) rfl (y_move rfl) rfl ?_
                    refine d_T 1 rfl (by kernel_rfl) rfl (y_nilck rfl) rfl ?_
                    refine d_T 2 rfl (by kernel_rfl) rfl (y_fa fl_111_7 rfl) rfl ?_
                    refine d_ld 3 rfl (by kernel_rfl) one_39 rfl (fun x hx => hx) (ms (ms (ms (ms (ms (ms (ms (ms (ms (ms (ms m0))))))))))) Hs.g17 rfl ?_
                    refine d_T 4 rfl (by kernel_rfl) rfl (y_fa fl_178_1 rfl) rfl ?_
                    refine d_ld 5 rfl (by kernel_rfl) one_3 rfl (fun x hx => hx) m0 Sg.g1 rfl ?_
                    refine d_T 6 rfl (by kernel_rfl) rfl (y_fa fl_174_0 rfl) rfl ?_
                    refine d_ld 7 rfl (by kernel_rfl) one_3 rfl (fun x hx => hx) (ms (ms (ms m0))) Dg.g0 rfl ?_
                    refine d_T 8 rfl (by kernel_rfl) rfl (y_fa fl_178_0 rfl) rfl ?_
                    refine d_ld 9 rfl (by kernel_rfl) one_3 rfl (fun x hx => hx) m0 Sg.g0 rfl ?_
                    refine d_hard 10 rfl (by kernel_rfl) ?_
                    refine o_callrv en_117 rfl (t117 _ _ _ _ _ (by assumption) (by omega) (by omega) (by omega)) (s_skip (s_skip (s_skip (s_skip (s_skip (s_skip (s_skip (s_skip (s_skip (s_skip (s_skip (s_skip (s_take s_nil))))))))))))) rfl ?_
                    refine o_stop (fun _ => (fun x hx => hx)) ?_
                    refine d_L 11 rfl (by kernel_rfl) rfl (y_assign rfl) rfl rfl ?_
                    refine d_nil0 (by kernel_rfl) rfl ?_
                    refine c_seq ?_
                    refine c_seq ?_
                    refine c_region ?_
                    refine o_T (y_move rfl) rfl ?_
                    refine o_T (y_neq rfl rfl) rfl ?_
                    refine o_nil1 116 rfl rfl ?_
                    refine c_cond rfl (fun h35 => ?_) (fun h35 => ?_)
                    · try simp only [decide_eq_true_eq, decide_eq_false_iff_not, Bool.not_eq_true', Bool.not_eq_false', Int.not_lt, Int.not_le, Decidable.not_not, beq_iff_eq, bne_iff_ne, ne_eq, beq_eq_false_iff_ne] at h35
                      refine c_seq ?_
                      obtain ⟨hr1, hr2, hr3⟩ := hDO.row h35
                      refine c_region ?_
                      refine o_T (y_move rfl) rfl ?_
                      refine o_T (y_move rfl) rfl ?_
                      refine o_T (y_move rfl) rfl ?_
                      refine o_ldw ag_178 rfl m0 rfl rfl ?_
                      refine o_call en_118 rfl (t118 _ _ _ _ _ _ _ _ _ _ _ (by assumption) (by assumption) hl_1 (by omega) (by omega) (by assumption) (by assumption) (by assumption) (by assumption)) (s_get (ks (ks (ks (ks (ks (ks (ks (ks (ks (ks (ks k0))))))))))) (s_get (ks (ks (ks (ks (ks (ks (ks k0))))))) (s_get (ks (ks (ks (ks k0)))) (s_get (ks (ks (ks (ks (ks (ks (ks (ks (ks k0))))))))) (s_get (ks (ks (ks (ks (ks (ks (ks (ks (ks k0))))))))) (s_get (ks (ks (ks (ks (ks (ks (ks k0))))))) (s_get (ks (ks (ks (ks (ks (ks (ks k0))))))) (s_get (ks k0) s_nil)))))))) rfl ?_
                      rintro v S' ⟨lk_7, dr_5, v_6, gv_6, gd_5, hlk_7, rfl, hl_6, rfl⟩
                      refine o_L (y_assign rfl) rfl rfl ?_
                      refine o_nil0 rfl ?_
                      refine c_ret ?_
                      refine fun aX wX heX hsX => ret1 Tryz.results79 heX rfl (s_take (s_take (s_take (s_take (s_take (s_take (s_take (s_skip (s_skip (s_skip (s_skip (s_skip (s_take s_nil))))))))))))) ?_
                      have e1 : H.segIn l = some ((frPay l).getD 2 0, g) := by unfold Hst.segIn; rw [if_neg (by omega), if_neg (by omega), if_neg (by omega), if_neg (by omega), if_neg (by omega), hgg]
                      have e2 : H.pIn l = Hp := by unfold Hst.pIn; rw [if_pos ⟨by omega, by omega⟩, hHp]
                      have e3 : H.inputF l = Hp.dispF ((frPay l).getD 2 0) g := by unfold Hst.inputF; rw [e1, e2]
                      have e4 : H.inputH l = Hp.dispH ((frPay l).getD 2 0) g := by unfold Hst.inputH; rw [e1, e2]
                      rw [e3, e4]
                      unfold Hst.dispF Hst.dispH
                      rw [if_pos h35, if_pos h35]
                      exact ⟨_, _, _, _, _, hlk_7.trans hHa, rfl, hl_6.to (List.nil_append _), rfl⟩
                    · try simp only [decide_eq_true_eq, decide_eq_false_iff_not, Bool.not_eq_true', Bool.not_eq_false', Int.not_lt, Int.not_le, Decidable.not_not, beq_iff_eq, bne_iff_ne, ne_eq, beq_eq_false_iff_ne] at h35
                      refine c_skip ?_
                      refine c_seq ?_
                      refine c_seq ?_
                      refine c_region ?_
                      refine o_T (y_fa fl_178_4 rfl) rfl ?_
                      refine o_ld one_3 rfl m0 Sg.g4 rfl ?_
                      refine o_T (y_eql rfl rfl) rfl ?_
                      refine o_nil1 124 rfl rfl ?_
                      refine c_cond rfl (fun h38 => ?_) (fun h38 => ?_)
                      · try simp only [decide_eq_true_eq, decide_eq_false_iff_not, Bool.not_eq_true', Bool.not_eq_false', Int.not_lt, Int.not_le, Decidable.not_not, beq_iff_eq, bne_iff_ne, ne_eq, beq_eq_false_iff_ne] at h38
                        refine c_seq ?_
                        refine c_draw #[true, true, true, true, true, true, true, true] rfl (n := 8) rfl ?_
                        refine d_T 0 rfl (by kernel_rfl) rfl (y_move rfl) rfl ?_
                        refine d_T 1 rfl (by kernel_rfl) rfl (y_nilck rfl) rfl ?_
                        refine d_T 2 rfl (by kernel_rfl) rfl (y_fa fl_111_7 rfl) rfl ?_
                        refine d_ld 3 rfl (by kernel_rfl) one_39 rfl (fun x hx => hx) (ms (ms (ms (ms (ms (ms (ms (ms (ms (ms (ms m0))))))))))) Hs.g17 rfl ?_
                        refine d_T 4 rfl (by kernel_rfl) rfl (y_fa fl_178_1 rfl) rfl ?_
                        refine d_ld 5 rfl (by kernel_rfl) one_3 rfl (fun x hx => hx) m0 Sg.g1 rfl ?_
                        refine d_hard 6 rfl (by kernel_rfl) ?_
                        refine o_callrv en_119 rfl (t119 _ _ _ (by assumption)) (s_skip (s_skip (s_skip (s_skip (s_skip (s_skip (s_skip (s_skip (s_skip (s_skip (s_skip (s_skip (s_take s_nil))))))))))))) rfl ?_
                        refine o_stop (fun _ => (fun x hx => hx)) ?_
                        refine d_T 7 rfl (by kernel_rfl) rfl (y_neq rfl rfl) rfl ?_
                        refine d_nil1 132 (by kernel_rfl) rfl rfl ?_
                        refine c_cond rfl (fun h39 => ?_) (fun h39 => ?_)
                        · try simp only [decide_eq_true_eq, decide_eq_false_iff_not, Bool.not_eq_true', Bool.not_eq_false', Int.not_lt, Int.not_le, Decidable.not_not, beq_iff_eq, bne_iff_ne, ne_eq, beq_eq_false_iff_ne] at h39
                          refine c_seq ?_
                          obtain ⟨hr1, hr2, hr3⟩ := hDO.lis h35 h38 h39
                          refine c_region ?_
                          refine o_T (y_move rfl) rfl ?_
                          refine o_T (y_move rfl) rfl ?_
                          refine o_T (y_fa fl_174_0 rfl) rfl ?_
                          refine o_ld one_3 rfl (ms (ms (ms m0))) Dg.g0 rfl ?_
                          refine o_ldw ag_178 rfl m0 rfl rfl ?_
                          refine o_call en_120 rfl (t120 _ _ _ _ _ _ _ _ _ _ _ (by assumption) (by assumption) hl_1 (by omega) (by omega) (by assumption) (by assumption) (by assumption) (by assumption) (by assumption) (by assumption)) (s_get (ks (ks (ks (ks (ks (ks (ks (ks (ks (ks (ks k0))))))))))) (s_get (ks (ks (ks (ks (ks (ks (ks k0))))))) (s_get (ks (ks (ks (ks k0)))) (s_get (ks (ks (ks (ks (ks (ks (ks (ks (ks k0))))))))) (s_get (ks (ks (ks (ks (ks (ks (ks (ks (ks k0))))))))) (s_get (ks (ks (ks (ks (ks (ks (ks k0))))))) (s_get (ks (ks (ks (ks (ks (ks (ks k0))))))) (s_get (ks k0) s_nil)))))))) rfl ?_
                          rintro v S' ⟨lk_8, dr_6, v_7, gv_7, gd_6, hlk_8, rfl, hl_7, rfl⟩
                          refine o_L (y_assign rfl) rfl rfl ?_
                          refine o_nil0 rfl ?_
                          refine c_ret ?_
                          refine fun aX wX heX hsX => ret1 Tryz.results79 heX rfl (s_take (s_take (s_take (s_take (s_take (s_take (s_take (s_skip (s_skip (s_skip (s_skip (s_skip (s_take s_nil))))))))))))) ?_
                          have e1 : H.segIn l = some ((frPay l).getD 2 0, g) := by unfold Hst.segIn; rw [if_neg (by omega), if_neg (by omega), if_neg (by omega), if_neg (by omega), if_neg (by omega), hgg]
                          have e2 : H.pIn l = Hp := by unfold Hst.pIn; rw [if_pos ⟨by omega, by omega⟩, hHp]
                          have e3 : H.inputF l = Hp.dispF ((frPay l).getD 2 0) g := by unfold Hst.inputF; rw [e1, e2]
                          have e4 : H.inputH l = Hp.dispH ((frPay l).getD 2 0) g := by unfold Hst.inputH; rw [e1, e2]
                          rw [e3, e4]
                          unfold Hst.dispF Hst.dispH
                          rw [if_neg (show ¬ ¬ Hp.t.lookup g.dp ((frPay l).getD 2 0) g.sp = 0 from not_not_intro h35), if_pos ⟨h38, h39⟩, if_neg (show ¬ ¬ Hp.t.lookup g.dp ((frPay l).getD 2 0) g.sp = 0 from not_not_intro h35), if_pos ⟨h38, h39⟩]
                          exact ⟨_, _, _, _, _, hlk_8.trans hHa, rfl, hl_7.to (List.nil_append _), rfl⟩
                        · try simp only [decide_eq_true_eq, decide_eq_false_iff_not, Bool.not_eq_true', Bool.not_eq_false', Int.not_lt, Int.not_le, Decidable.not_not, beq_iff_eq, bne_iff_ne, ne_eq, beq_eq_false_iff_ne] at h39
                          refine c_skip ?_
                          refine c_seq ?_
                          refine c_seq ?_
                          refine c_region ?_
                          refine o_T (y_fa fl_178_4 rfl) rfl ?_
                          refine o_ld one_3 rfl m0 Sg.g4 rfl ?_
                          refine o_T (y_and rfl rfl (fl8 hgo.flags)) rfl ?_
                          refine o_T (y_neq rfl rfl) rfl ?_
                          refine o_nil1 142 rfl rfl ?_
                          refine c_cond rfl (fun h43 => ?_) (fun h43 => ?_)
                          · try simp only [decide_eq_true_eq, decide_eq_false_iff_not, Bool.not_eq_true', Bool.not_eq_false', Int.not_lt, Int.not_le, Decidable.not_not, beq_iff_eq, bne_iff_ne, ne_eq, beq_eq_false_iff_ne] at h43
                            refine c_seq ?_
                            refine c_draw #[true, true, true, true, true, true, true, true, true, false] rfl (n := 10) rfl ?_
                            refine d_T 0 rfl (by kernel_rfl) rfl (y_move rfl) rfl ?_
                            refine d_T 1 rfl (by kernel_rfl) rfl (y_nilck rfl) rfl ?_
                            refine d_T 2 rfl (by kernel_rfl) rfl (y_fa fl_111_3 rfl) rfl ?_
                            refine d_T 3 rfl (by kernel_rfl) rfl (y_ia ar_109 rfl rfl (by omega) (by omega)) rfl ?_
                            refine d_ld 4 rfl (by kernel_rfl) one_3 rfl (fun x hx => hx) (ms (ms (ms (ms (ms (ms (ms (ms (ms (ms (ms m0))))))))))) (Hs.gr_dropped _ (by omega) rfl) rfl ?_
                            refine d_T 5 rfl (by kernel_rfl) rfl (y_add rfl rfl rfl) rfl ?_
                            refine d_T 6 rfl (by kernel_rfl) rfl (y_nilck rfl) rfl ?_
                            refine d_T 7 rfl (by kernel_rfl) rfl (y_fa fl_111_3 rfl) rfl ?_
                            refine d_T 8 rfl (by kernel_rfl) rfl (y_ia ar_109 rfl rfl (by omega) (by omega)) rfl ?_
                            refine d_hard 9 rfl (by kernel_rfl) ?_
                            refine o_st one_3 rfl rfl rfl (rs (rs (rs (rs (rs (rs (rs (rs (rs (rs (rs r0))))))))))) (Hs.sr_dropped _ (by omega) rfl) (by simp only [Hs.size]; omega) ?_
                            refine o_stop (fun h => nomatch h) ?_
                            refine d_nil0 (by kernel_rfl) rfl ?_
                            refine c_seq ?_
                            refine c_region ?_
                            refine o_T (y_move rfl) rfl ?_
                            refine o_L (y_assign rfl) rfl rfl ?_
                            refine o_nil0 rfl ?_
                            refine c_ret ?_
                            refine fun aX wX heX hsX => ret1 Tryz.results79 heX rfl (s_get (ks (ks (ks (ks (ks (ks (ks (ks (ks k0))))))))) (s_get (ks (ks (ks (ks (ks (ks (ks (ks (ks k0))))))))) (s_get (ks (ks (ks (ks (ks (ks (ks (ks (ks k0))))))))) (s_get (ks (ks (ks (ks (ks (ks (ks k0))))))) (s_get (ks (ks (ks (ks k0)))) (s_get (ks (ks (ks (ks (ks (ks (ks k0))))))) (s_get (ks (ks (ks (ks (ks (ks (ks k0))))))) (s_get (ks (ks (ks (ks (ks (ks k0)))))) s_nil)))))))) ?_
                            have e1 : H.segIn l = some ((frPay l).getD 2 0, g) := by unfold Hst.segIn; rw [if_neg (by omega), if_neg (by omega), if_neg (by omega), if_neg (by omega), if_neg (by omega), hgg]
                            have e2 : H.pIn l = Hp := by unfold Hst.pIn; rw [if_pos ⟨by omega, by omega⟩, hHp]
                            have e3 : H.inputF l = Hp.dispF ((frPay l).getD 2 0) g := by unfold Hst.inputF; rw [e1, e2]
                            have e4 : H.inputH l = Hp.dispH ((frPay l).getD 2 0) g := by unfold Hst.inputH; rw [e1, e2]
                            rw [e3, e4]
                            unfold Hst.dispF Hst.dispH
                            rw [if_neg (show ¬ ¬ Hp.t.lookup g.dp ((frPay l).getD 2 0) g.sp = 0 from not_not_intro h35), if_neg (fun z => z.2 h39), if_pos h43, if_neg (show ¬ ¬ Hp.t.lookup g.dp ((frPay l).getD 2 0) g.sp = 0 from not_not_intro h35), if_neg (fun z => z.2 h39), if_pos h43]
                            exact ⟨_, _, _, _, _, hlk_2.trans hlk, rfl, hl_1, rfl⟩
                          · try simp only [decide_eq_true_eq, decide_eq_false_iff_not, Bool.not_eq_true', Bool.not_eq_false', Int.not_lt, Int.not_le, Decidable.not_not, beq_iff_eq, bne_iff_ne, ne_eq, beq_eq_false_iff_ne] at h43
                            refine c_skip ?_
                            refine c_seq ?_
                            refine c_draw #[true, true, true, true, true, true, true, true, true, false] rfl (n := 10) rfl ?_
                            refine d_T 0 rfl (by kernel_rfl) rfl (y_move rfl) rfl ?_
                            refine d_T 1 rfl (by kernel_rfl) rfl (y_nilck rfl) rfl ?_
                            refine d_T 2 rfl (by kernel_rfl) rfl (y_fa fl_111_3 rfl) rfl ?_
                            refine d_T 3 rfl (by kernel_rfl) rfl (y_ia ar_109 rfl rfl (by omega) (by omega)) rfl ?_
                            refine d_ld 4 rfl (by kernel_rfl) one_3 rfl (fun x hx => hx) (ms (ms (ms (ms (ms (ms (ms (ms (ms (ms (ms m0))))))))))) (Hs.gr_dropped _ (by omega) rfl) rfl ?_
                            refine d_T 5 rfl (by kernel_rfl) rfl (y_add rfl rfl rfl) rfl ?_
                            refine d_T 6 rfl (by kernel_rfl) rfl (y_nilck rfl) rfl ?_
                            refine d_T 7 rfl (by kernel_rfl) rfl (y_fa fl_111_3 rfl) rfl ?_
                            refine d_T 8 rfl (by kernel_rfl) rfl (y_ia ar_109 rfl rfl (by omega) (by omega)) rfl ?_
                            refine d_hard 9 rfl (by kernel_rfl) ?_
                            refine o_st one_3 rfl rfl rfl (rs (rs (rs (rs (rs (rs (rs (rs (rs (rs (rs r0))))))))))) (Hs.sr_dropped _ (by omega) rfl) (by simp only [Hs.size]; omega) ?_
                            refine o_stop (fun h => nomatch h) ?_
                            refine d_nil0 (by kernel_rfl) rfl ?_
                            refine c_seq ?_
                            refine c_region ?_
                            refine o_ldw ag_178 rfl m0 rfl rfl ?_
                            refine o_call en_121 rfl (t121 _ _ (by assumption)) (s_skip (s_take s_nil)) rfl ?_
                            rintro v S' ⟨b_19, rfl, rfl⟩
                            refine o_alloc ze_178 rfl rfl (fun b_20 => ?_)
                            refine o_sta ag_178 rfl rfl rfl rfl r0 (setAll_full _ _ rfl) (of_ble rfl) ?_
                            refine o_nil0 rfl ?_
                            refine c_seq ?_
                            refine c_region ?_
                            refine o_T (y_move rfl) rfl ?_
                            refine o_T (y_move rfl) rfl ?_
                            refine o_T (y_fa fl_174_0 rfl) rfl ?_
                            refine o_ld one_3 rfl (ms (ms (ms (ms (ms m0))))) Dg.g0 rfl ?_
                            refine o_ldw ag_178 rfl m0 rfl rfl ?_
                            refine o_call en_122 rfl (t122 _ _ _ _ _ _ _ _ _ _ _ (by assumption) (by assumption) hl_1 (by omega) (by assumption) (by omega) (by omega)) (s_get (ks (ks (ks (ks (ks (ks (ks (ks (ks (ks (ks (ks (ks k0))))))))))))) (s_get (ks (ks (ks (ks (ks (ks (ks (ks (ks k0))))))))) (s_get (ks (ks (ks (ks (ks (ks k0)))))) (s_get (ks (ks (ks (ks (ks (ks (ks (ks (ks k0))))))))) (s_get (ks (ks (ks (ks (ks (ks (ks (ks (ks k0))))))))) (s_get (ks k0) s_nil)))))) rfl ?_
                            rintro v S' ⟨lk_9, dr_7, v_8, gv_8, gd_7, hlk_9, rfl, hl_8, rfl⟩
                            refine o_L (y_assign rfl) rfl rfl ?_
                            refine o_nil0 rfl ?_
                            refine c_ret ?_
                            refine fun aX wX heX hsX => ret1 Tryz.results79 heX rfl (s_get k0 (s_get k0 (s_get k0 (s_get k0 (s_get k0 (s_get (ks (ks (ks (ks (ks (ks (ks (ks (ks k0))))))))) (s_get (ks (ks (ks (ks (ks (ks (ks (ks (ks k0))))))))) (s_get (ks (ks (ks (ks (ks (ks (ks (ks k0)))))))) s_nil)))))))) ?_
                            have e1 : H.segIn l = some ((frPay l).getD 2 0, g) := by unfold Hst.segIn; rw [if_neg (by omega), if_neg (by omega), if_neg (by omega), if_neg (by omega), if_neg (by omega), hgg]
                            have e2 : H.pIn l = Hp := by unfold Hst.pIn; rw [if_pos ⟨by omega, by omega⟩, hHp]
                            have e3 : H.inputF l = Hp.dispF ((frPay l).getD 2 0) g := by unfold Hst.inputF; rw [e1, e2]
                            have e4 : H.inputH l = Hp.dispH ((frPay l).getD 2 0) g := by unfold Hst.inputH; rw [e1, e2]
                            rw [e3, e4]
                            unfold Hst.dispF Hst.dispH
                            rw [if_neg (show ¬ ¬ Hp.t.lookup g.dp ((frPay l).getD 2 0) g.sp = 0 from not_not_intro h35), if_neg (fun z => z.2 h39), if_neg (not_not_intro h43), if_neg (show ¬ ¬ Hp.t.lookup g.dp ((frPay l).getD 2 0) g.sp = 0 from not_not_intro h35), if_neg (fun z => z.2 h39), if_neg (not_not_intro h43)]
                            rw [Hst.sendH_t, Hst.sendH_c]
                            exact ⟨_, _, _, _, _, hlk_9.trans hHa, rfl, hl_8.to (List.nil_append _), rfl⟩
                      · try simp only [decide_eq_true_eq, decide_eq_false_iff_not, Bool.not_eq_true', Bool.not_eq_false', Int.not_lt, Int.not_le, Decidable.not_not, beq_iff_eq, bne_iff_ne, ne_eq, beq_eq_false_iff_ne] at h38
                        refine c_skip ?_
                        refine c_seq ?_
                        refine c_seq ?_
                        refine c_region ?_
                        refine o_T (y_fa fl_178_4 rfl) rfl ?_
                        refine o_ld one_3 rfl m0 Sg.g4 rfl ?_
                        refine o_T (y_and rfl rfl (fl8 hgo.flags)) rfl ?_
                        refine o_T (y_neq rfl rfl) rfl ?_
                        refine o_nil1 142 rfl rfl ?_
                        refine c_cond rfl (fun h43 => ?_) (fun h43 => ?_)
                        · try simp only [decide_eq_true_eq, decide_eq_false_iff_not, Bool.not_eq_true', Bool.not_eq_false', Int.not_lt, Int.not_le, Decidable.not_not, beq_iff_eq, bne_iff_ne, ne_eq, beq_eq_false_iff_ne] at h43
                          refine c_seq ?_
                          refine c_draw #[true, true, true, true, true, true, true, true, true, false] rfl (n := 10) rfl ?_
                          refine d_T 0 rfl (by kernel_rfl) rfl (y_move rfl) rfl ?_
                          refine d_T 1 rfl (by kernel_rfl) rfl (y_nilck rfl) rfl ?_
                          refine d_T 2 rfl (by kernel_rfl) rfl (y_fa fl_111_3 rfl) rfl ?_
                          refine d_T 3 rfl (by kernel_rfl) rfl (y_ia ar_109 rfl rfl (by omega) (by omega)) rfl ?_
                          refine d_ld 4 rfl (by kernel_rfl) one_3 rfl (fun x hx => hx) (ms (ms (ms (ms (ms (ms (ms (ms (ms (ms (ms m0))))))))))) (Hs.gr_dropped _ (by omega) rfl) rfl ?_
                          refine d_T 5 rfl (by kernel_rfl) rfl (y_add rfl rfl rfl) rfl ?_
                          refine d_T 6 rfl (by kernel_rfl) rfl (y_nilck rfl) rfl ?_
                          refine d_T 7 rfl (by kernel_rfl) rfl (y_fa fl_111_3 rfl) rfl ?_
                          refine d_T 8 rfl (by kernel_rfl) rfl (y_ia ar_109 rfl rfl (by omega) (by omega)) rfl ?_
                          refine d_hard 9 rfl (by kernel_rfl) ?_
                          refine o_st one_3 rfl rfl rfl (rs (rs (rs (rs (rs (rs (rs (rs (rs (rs (rs r0))))))))))) (Hs.sr_dropped _ (by omega) rfl) (by simp only [Hs.size]; omega) ?_
                          refine o_stop (fun h => nomatch h) ?_
                          refine d_nil0 (by kernel_rfl) rfl ?_
                          refine c_seq ?_
                          refine c_region ?_
                          refine o_T (y_move rfl) rfl ?_
                          refine o_L (y_assign rfl) rfl rfl ?_
                          refine o_nil0 rfl ?_
                          refine c_ret ?_
                          refine fun aX wX heX hsX => ret1 Tryz.results79 heX rfl (s_get (ks (ks (ks (ks (ks (ks (ks (ks (ks k0))))))))) (s_get (ks (ks (ks (ks (ks (ks (ks (ks (ks k0))))))))) (s_get (ks (ks (ks (ks (ks (ks (ks (ks (ks k0))))))))) (s_get (ks (ks (ks (ks (ks (ks (ks k0))))))) (s_get (ks (ks (ks (ks k0)))) (s_get (ks (ks (ks (ks (ks (ks (ks k0))))))) (s_get (ks (ks (ks (ks (ks (ks (ks k0))))))) (s_get (ks (ks (ks (ks (ks (ks k0)))))) s_nil)))))))) ?_
                          have e1 : H.segIn l = some ((frPay l).getD 2 0, g) := by unfold Hst.segIn; rw [if_neg (by omega), if_neg (by omega), if_neg (by omega), if_neg (by omega), if_neg (by omega), hgg]
                          have e2 : H.pIn l = Hp := by unfold Hst.pIn; rw [if_pos ⟨by omega, by omega⟩, hHp]
                          have e3 : H.inputF l = Hp.dispF ((frPay l).getD 2 0) g := by unfold Hst.inputF; rw [e1, e2]
                          have e4 : H.inputH l = Hp.dispH ((frPay l).getD 2 0) g := by unfold Hst.inputH; rw [e1, e2]
                          rw [e3, e4]
                          unfold Hst.dispF Hst.dispH
                          rw [if_neg (show ¬ ¬ Hp.t.lookup g.dp ((frPay l).getD 2 0) g.sp = 0 from not_not_intro h35), if_neg (fun z => h38 z.1), if_pos h43, if_neg (show ¬ ¬ Hp.t.lookup g.dp ((frPay l).getD 2 0) g.sp = 0 from not_not_intro h35), if_neg (fun z => h38 z.1), if_pos h43]
                          exact ⟨_, _, _, _, _, hlk_2.trans hlk, rfl, hl_1, rfl⟩
                        · try simp only [decide_eq_true_eq, decide_eq_false_iff_not, Bool.not_eq_true', Bool.not_eq_false', Int.not_lt, Int.not_le, Decidable.not_not, beq_iff_eq, bne_iff_ne, ne_eq, beq_eq_false_iff_ne] at h43
                          refine c_skip ?_
                          refine c_seq ?_
                          refine c_draw #[true, true, true, true, true, true, true, true, true, false] rfl (n := 10) rfl ?_
                          refine d_T 0 rfl (by kernel_rfl) rfl (y_move rfl) rfl ?_
                          refine d_T 1 rfl (by kernel_rfl) rfl (y_nilck rfl) rfl ?_
                          refine d_T 2 rfl (by kernel_rfl) rfl (y_fa fl_111_3 rfl) rfl ?_
                          refine d_T 3 rfl (by kernel_rfl) rfl (y_ia ar_109 rfl rfl (by omega) (by omega)) rfl ?_
                          refine d_ld 4 rfl (by kernel_rfl) one_3 rfl (fun x hx => hx) (ms (ms (ms (ms (ms (ms (ms (ms (ms (ms (ms m0))))))))))) (Hs.gr_dropped _ (by omega) rfl) rfl ?_
                          refine d_T 5 rfl (by kernel_rfl) rfl (y_add rfl rfl rfl) rfl ?_
                          refine d_T 6 rfl (by kernel_rfl) rfl (y_nilck rfl) rfl ?_
                          refine d_T 7 rfl (by kernel_rfl) rfl (y_fa fl_111_3 rfl) rfl ?_
                          refine d_T 8 rfl (by kernel_rfl) rfl (y_ia ar_109 rfl rfl (by omega) (by omega)) rfl ?_
                          refine d_hard 9 rfl (by kernel_rfl) ?_
                          refine o_st one_3 rfl rfl rfl (rs (rs (rs (rs (rs (rs (rs (rs (rs (rs (rs r0))))))))))) (Hs.sr_dropped _ (by omega) rfl) (by simp only [Hs.size]; omega) ?_
                          refine o_stop (fun h => nomatch h) ?_
                          refine d_nil0 (by kernel_rfl) rfl ?_
                          refine c_seq ?_
                          refine c_region ?_
                          refine o_ldw ag_178 rfl m0 rfl rfl ?_
                          refine o_call en_121 rfl (t121 _ _ (by assumption)) (s_skip (s_take s_nil)) rfl ?_
                          rintro v S' ⟨b_21, rfl, rfl⟩
                          refine o_alloc ze_178 rfl rfl (fun b_22 => ?_)
                          refine o_sta ag_178 rfl rfl rfl rfl r0 (setAll_full _ _ rfl) (of_ble rfl) ?_
                          refine o_nil0 rfl ?_
                          refine c_seq ?_
                          refine c_region ?_
                          refine o_T (y_move rfl) rfl ?_
                          refine o_T (y_move rfl) rfl ?_
                          refine o_T (y_fa fl_174_0 rfl) rfl ?_
                          refine o_ld one_3 rfl (ms (ms (ms (ms (ms m0))))) Dg.g0 rfl ?_
                          refine o_ldw ag_178 rfl m0 rfl rfl ?_
                          refine o_call en_122 rfl (t122 _ _ _ _ _ _ _ _ _ _ _ (by assumption) (by assumption) hl_1 (by omega) (by assumption) (by omega) (by omega)) (s_get (ks (ks (ks (ks (ks (ks (ks (ks (ks (ks (ks (ks (ks k0))))))))))))) (s_get (ks (ks (ks (ks (ks (ks (ks (ks (ks k0))))))))) (s_get (ks (ks (ks (ks (ks (ks k0)))))) (s_get (ks (ks (ks (ks (ks (ks (ks (ks (ks k0))))))))) (s_get (ks (ks (ks (ks (ks (ks (ks (ks (ks k0))))))))) (s_get (ks k0) s_nil)))))) rfl ?_
                          rintro v S' ⟨lk_10, dr_8, v_9, gv_9, gd_8, hlk_10, rfl, hl_9, rfl⟩
                          refine o_L (y_assign rfl) rfl rfl ?_
                          refine o_nil0 rfl ?_
                          refine c_ret ?_
                          refine fun aX wX heX hsX => ret1 Tryz.results79 heX rfl (s_get k0 (s_get k0 (s_get k0 (s_get k0 (s_get k0 (s_get (ks (ks (ks (ks (ks (ks (ks (ks (ks k0))))))))) (s_get (ks (ks (ks (ks (ks (ks (ks (ks (ks k0))))))))) (s_get (ks (ks (ks (ks (ks (ks (ks (ks k0)))))))) s_nil)))))))) ?_
                          have e1 : H.segIn l = some ((frPay l).getD 2 0, g) := by unfold Hst.segIn; rw [if_neg (by omega), if_neg (by omega), if_neg (by omega), if_neg (by omega), if_neg (by omega), hgg]
                          have e2 : H.pIn l = Hp := by unfold Hst.pIn; rw [if_pos ⟨by omega, by omega⟩, hHp]
                          have e3 : H.inputF l = Hp.dispF ((frPay l).getD 2 0) g := by unfold Hst.inputF; rw [e1, e2]
                          have e4 : H.inputH l = Hp.dispH ((frPay l).getD 2 0) g := by unfold Hst.inputH; rw [e1, e2]
                          rw [e3, e4]
                          unfold Hst.dispF Hst.dispH
                          rw [if_neg (show ¬ ¬ Hp.t.lookup g.dp ((frPay l).getD 2 0) g.sp = 0 from not_not_intro h35), if_neg (fun z => h38 z.1), if_neg (not_not_intro h43), if_neg (show ¬ ¬ Hp.t.lookup g.dp ((frPay l).getD 2 0) g.sp = 0 from not_not_intro h35), if_neg (fun z => h38 z.1), if_neg (not_not_intro h43)]
                          rw [Hst.sendH_t, Hst.sendH_c]
                          exact ⟨_, _, _, _, _, hlk_10.trans hHa, rfl, hl_9.to (List.nil_append _), rfl⟩

end Go.Proofs.Qxb6500351aGreat
