/- MADE BY PROGRAM (tools/gen.py over tools/specsw.py): walks. -/
import Derived.Test.Qxb6500351aGreatMd39
import Derived.Test.Qxb6500351aGreatW96
import Derived.Test.Qxb6500351aGreatW94
import Derived.Test.Qxb6500351aGreatW104
import Derived.Test.Qxb6500351aGreatRwF
set_option linter.unusedVariables false
set_option linter.unusedSimpArgs false
namespace Go.Proofs.Qxb6500351aGreat
open Go.Eng
set_option maxRecDepth 20000
set_option maxHeartbeats 4000000
attribute [local irreducible] Hst.ent Hst.err Hst.infoC
/-- e2e/towerlaw.RefinesFairUpTo -/
theorem t11 (p : Option Addr) (n cap : Nat) (g : List Chunk) (hS : ScrPF p n g) (hn : n ≤ 9223372036854775807) : Trip Tryz.prog 11 #[.slice p n cap] [g] (fun u S' => u = .int .i64 (-1) ∧ S' = [g]) := by
  refine fn_entry (args := [.slice p n cap]) Tryz.func11 rfl Tryz.ntmps11 rfl (fun w0 => ?_)
  refine c_seq ?_
  refine c_region ?_
  refine o_L (y_assign rfl) rfl rfl ?_
  refine o_nil0 rfl ?_
  refine c_seq ?_
  refine c_region ?_
  refine o_call en_13 rfl (t13 false) s_nil rfl ?_
  rintro v S' ⟨A_1, rfl, V_1, gh_1, gq_1, gw_1, gn_1, gs_1, gr_1, gi_1, go_1, gm_1, W_1, hc_1, rfl⟩
  refine o_L (y_assign rfl) rfl rfl ?_
  refine o_nil0 rfl ?_
  refine c_seq ?_
  refine c_seq ?_
  obtain ⟨zN, hLz, hLk, hZN⟩ := LF.first1 (true = true)
  refine c_region ?_
  refine o_T (y_move rfl) rfl ?_
  refine o_call en_14 rfl (t14L A_1 false V_1 hLz hLk W_1.h W_1.n W_1.s W_1.r W_1.i (by omega)) (s_take (s_take (s_skip (s_skip (s_take (s_take (s_take (s_take s_nil)))))))) rfl ?_
  rintro v S' ⟨rfl, V_2, gn_2, gs_2, gr_2, gi_2, hV_1, hn_1, hs_1, hr_1, hi_1, rfl⟩
  refine o_T (y_not rfl) rfl ?_
  refine o_nil1 11 rfl rfl ?_
  refine c_condF rfl ?_
  refine c_skip ?_
  refine c_seq ?_
  have W1 : WG A_1 false zN V_2 200 gh_1 gq_1 gw_1 gn_2 gs_2 gr_2 gi_2 go_1 gm_1 := ⟨by rw [hLz.keeps.1]; exact W_1.h, by rw [hLz.keeps.1]; exact W_1.q, by rw [hLz.keeps.2.2.1]; exact W_1.w, hn_1, hs_1, hr_1, hi_1.mono (by omega), by rw [hV_1.1]; exact W_1.o.mono (by omega), by rw [hV_1.2.1]; exact W_1.m.mono (by omega)⟩
  refine c_region ?_
  refine o_L (y_assign rfl) rfl rfl ?_
  refine o_nil0 rfl ?_
  refine c_seq ?_
  refine c_seq ?_
  refine c_region ?_
  refine o_L (y_assign rfl) rfl rfl ?_
  refine o_nil0 rfl ?_
  refine c_block ?_
  refine c_loopG (ι := Nat × Bool × WS) (fun i => [(4, .bool i.2.1), (5, .int .i64 (i.1 : Int))]) (fun i => [[(A_1.b, .cells (A_1.wd false i.2.2.x i.2.2.V).enc 53 (0, 0))], i.2.2.gh, i.2.2.gq, i.2.2.gw, i.2.2.gn, i.2.2.gs, i.2.2.gr, i.2.2.gi, i.2.2.go, i.2.2.gm]) (fun i => i.1 ≤ n ∧ i.1 ≤ 1048576 ∧ LF (i.2.1 = true) i.2.2.x i.2.2.k ∧ i.2.2.k ≤ 1 + 7800 * i.1 ∧ WG A_1 false i.2.2.x i.2.2.V (200 * i.2.2.k) i.2.2.gh i.2.2.gq i.2.2.gw i.2.2.gn i.2.2.gs i.2.2.gr i.2.2.gi i.2.2.go i.2.2.gm) (fun i => n - i.1) (0, true, ⟨zN, V_2, 1, gh_1, gq_1, gw_1, gn_2, gs_2, gr_2, gi_2, go_1, gm_1⟩) (by exact ⟨by dsimp only; omega, by dsimp only; omega, hZN, by dsimp only; omega, W1⟩) ⟨rfl, gteI rfl (by dsimp only; omega), trivial⟩ (s_get k0 (s_get k0 (s_get (ks (ks (ks (ks k0)))) (s_get (ks (ks (ks (ks k0)))) (s_get k0 (s_get k0 (s_get k0 (s_get k0 (s_get k0 (s_get k0 (s_get k0 s_nil))))))))))) ?_
  rintro ⟨j1, fr, x1, V1, k1, gh1, gq1, gw1, gn1, gs1, gr1, gi1, go1, gm1⟩ ⟨f1, f2, L1, f3, W1_⟩
  try dsimp only [List.cons_append, List.nil_append] at *
  refine c_seq ?_
  refine c_seq ?_
  refine c_region ?_
  refine o_T (y_move rfl) rfl ?_
  refine o_T (y_move rfl) rfl ?_
  refine o_T (y_len Tryz.underlying22 rfl) rfl ?_
  refine o_T (y_lss rfl rfl) rfl ?_
  refine o_T (y_move rfl) rfl ?_
  refine o_split 16 rfl (fun h936 => ?_) (fun h936 => ?_)
  · try simp only [decide_eq_true_eq, decide_eq_false_iff_not, Bool.not_eq_true', Bool.not_eq_false', Int.not_lt, Int.not_le, Decidable.not_not, beq_iff_eq, bne_iff_ne, ne_eq, beq_eq_false_iff_ne, WA.wd] at h936
    refine o_take rfl rfl rfl ?_
    refine o_T (y_move rfl) rfl ?_
    refine o_take rfl rfl rfl ?_
    refine o_T (y_lss rfl rfl) rfl ?_
    refine o_T (y_pickT rfl rfl) rfl ?_
    refine o_nil1 19 rfl rfl ?_
    refine c_cond rfl (fun h936_1 => ?_) (fun h936_1 => ?_)
    · try simp only [decide_eq_true_eq, decide_eq_false_iff_not, Bool.not_eq_true', Bool.not_eq_false', Int.not_lt, Int.not_le, Decidable.not_not, beq_iff_eq, bne_iff_ne, ne_eq, beq_eq_false_iff_ne, WA.wd] at h936_1
      refine c_skip ?_
      refine c_seq ?_
      refine c_block ?_
      refine c_seq ?_
      refine c_seq ?_
      obtain ⟨bs, os_, cs, tsc, fz, e1, e2, hE⟩ := hS (by omega)
      subst e1 e2
      obtain ⟨kd, oa, ob, oc, os, ot, hcs, hob, hos, hoa1, hoa2⟩ := hE j1 (by omega)
      refine c_region ?_
      refine o_T (y_move rfl) rfl ?_
      refine o_nil1 22 rfl rfl ?_
      refine c_cond rfl (fun h937 => ?_) (fun h937 => ?_)
      · try simp only [decide_eq_true_eq, decide_eq_false_iff_not, Bool.not_eq_true', Bool.not_eq_false', Int.not_lt, Int.not_le, Decidable.not_not, beq_iff_eq, bne_iff_ne, ne_eq, beq_eq_false_iff_ne, WA.wd] at h937
        refine c_seq ?_
        refine c_region ?_
        refine o_T (y_move rfl) rfl ?_
        refine o_T (y_move rfl) rfl ?_
        refine o_T (y_move rfl) rfl ?_
        refine o_T (y_is sl_22 rfl rfl (by omega) (by omega)) rfl ?_
        refine o_lda ag_32 rfl (ms (ms (ms (ms (ms (ms (ms (ms (ms (ms m0)))))))))) (hcs _ (by omega)).1 (hcs _ (by omega)).2 rfl ?_
        refine o_call en_18 rfl (i18 W1_ (by omega) (L1.hb (by omega)) kd oa ob oc os ot hoa1 hoa2) (s_take (s_take (s_take (s_take (s_take (s_take (s_take (s_take (s_take (s_take s_nil)))))))))) rfl ?_
        rintro v S' ⟨rfl, rfl⟩
        refine o_nil1 28 rfl rfl ?_
        refine c_cond rfl (fun h938 => ?_) (fun h938 => ?_)
        · try simp only [decide_eq_true_eq, decide_eq_false_iff_not, Bool.not_eq_true', Bool.not_eq_false', Int.not_lt, Int.not_le, Decidable.not_not, beq_iff_eq, bne_iff_ne, ne_eq, beq_eq_false_iff_ne, WA.wd] at h938
          refine c_region ?_
          refine o_L (y_assign rfl) rfl rfl ?_
          refine o_nil0 rfl ?_
          refine c_seq ?_
          refine c_draw #[true, true, true, true, true, true, true, true, true, true, false] rfl (n := 11) rfl ?_
          refine d_T 0 rfl (by kernel_rfl) rfl (y_move rfl) rfl ?_
          refine d_T 1 rfl (by kernel_rfl) rfl (y_nilck rfl) rfl ?_
          refine d_T 2 rfl (by kernel_rfl) rfl (y_fa fl_53_13 rfl) rfl ?_
          refine d_ld 3 rfl (by kernel_rfl) one_3 rfl (fun x hx => hx) m0 Wd.g45 rfl ?_
          refine d_T 4 rfl (by kernel_rfl) rfl (y_move rfl) rfl ?_
          refine d_T 5 rfl (by kernel_rfl) rfl (y_nilck rfl) rfl ?_
          refine d_T 6 rfl (by kernel_rfl) rfl (y_fa fl_53_9 rfl) rfl ?_
          refine d_lda 7 rfl (by kernel_rfl) ag_45 rfl (fun x hx => hx) m0 (wd_lost _ _ _ _) (of_ble rfl) rfl ?_
          refine d_hardA 8 rfl (by kernel_rfl) ze_45 rfl rfl (fun b_1 => ?_)
          refine d_L 9 rfl (by kernel_rfl) rfl (y_assign rfl) rfl rfl ?_
          refine d_hard 10 rfl (by kernel_rfl) ?_
          refine o_sta ag_45 rfl rfl rfl rfl r0 (setAll_full _ _ rfl) (of_ble rfl) ?_
          refine o_stop (fun h => nomatch h) ?_
          refine d_nil0 (by kernel_rfl) rfl ?_
          refine c_seq ?_
          refine c_seq ?_
          refine c_region ?_
          refine o_T (y_move rfl) rfl ?_
          refine o_T (y_move rfl) rfl ?_
          refine o_T (y_move rfl) rfl ?_
          refine o_T (y_is sl_22 rfl rfl (by omega) (by omega)) rfl ?_
          refine o_lda ag_32 rfl (ms (ms (ms (ms (ms (ms (ms (ms (ms (ms (ms m0))))))))))) (hcs _ (by omega)).1 (hcs _ (by omega)).2 rfl ?_
          refine o_call en_15 rfl (t15f A_1 false x1 V1 k1 _ _ _ _ _ _ _ _ _ W1_ False (L1.imp (fun h => h.elim)) (by omega) kd oa ob oc os ot hob hos false (fun h => h.elim)) (s_skip (s_take (s_take (s_take (s_take (s_take (s_take (s_take (s_take (s_take (s_take s_nil))))))))))) rfl ?_
          rintro v S' ⟨rfl, y_1, kn_1, hk_1, hL_1, cm_1, ⟨V_3, gh_2, gq_2, gw_2, gn_3, gs_3, gr_3, gi_3, go_2, gm_2, W_2, hc_2, rfl⟩, hSt_1⟩
          refine o_T (y_not rfl) rfl ?_
          refine o_nil1 43 rfl rfl ?_
          refine c_condF rfl ?_
          refine c_skip ?_
          refine c_seq ?_
          refine c_seq ?_
          refine c_draw #[true, true, true, true, true, true, true, true, true, true, true, true, true, true] rfl (n := 14) rfl ?_
          refine d_T 0 rfl (by kernel_rfl) rfl (y_move rfl) rfl ?_
          refine d_T 1 rfl (by kernel_rfl) rfl (y_nilck rfl) rfl ?_
          refine d_T 2 rfl (by kernel_rfl) rfl (y_fa fl_53_13 rfl) rfl ?_
          refine d_ld 3 rfl (by kernel_rfl) one_3 rfl (fun x hx => hx) m0 Wd.g45 rfl ?_
          refine d_T 4 rfl (by kernel_rfl) rfl (y_move rfl) rfl ?_
          refine d_T 5 rfl (by kernel_rfl) rfl (y_neq rfl rfl) rfl ?_
          refine d_T 6 rfl (by kernel_rfl) rfl (y_move rfl) rfl ?_
          refine d_split 51 rfl (fun h946 => ?_) (fun h946 => ?_)
          · try simp only [decide_eq_true_eq, decide_eq_false_iff_not, Bool.not_eq_true', Bool.not_eq_false', Int.not_lt, Int.not_le, Decidable.not_not, beq_iff_eq, bne_iff_ne, ne_eq, beq_eq_false_iff_ne, WA.wd] at h946
            refine d_pass 7 rfl rfl rfl rfl rfl (by kernel_rfl) (fun x hx => hx) rfl ?_
            refine d_pass 8 rfl rfl rfl rfl rfl (by kernel_rfl) (fun x hx => hx) rfl ?_
            refine d_pass 9 rfl rfl rfl rfl rfl (by kernel_rfl) (fun x hx => hx) rfl ?_
            refine d_pass 10 rfl rfl rfl rfl rfl (by kernel_rfl) (fun x hx => hx) rfl ?_
            refine d_pass 11 rfl rfl rfl rfl rfl (by kernel_rfl) (fun x hx => hx) rfl ?_
            refine d_pass 12 rfl rfl rfl rfl rfl (by kernel_rfl) (fun x hx => hx) rfl ?_
            refine d_T 13 rfl (by kernel_rfl) rfl (y_pickT rfl rfl) rfl ?_
            refine d_nil1 58 (by kernel_rfl) rfl rfl ?_
            refine c_condT rfl ?_
            refine c_region ?_
            refine o_L (y_assign rfl) rfl rfl ?_
            refine o_nil0 rfl ?_
            refine c_seq ?_
            refine c_region ?_
            refine o_T (y_move rfl) rfl ?_
            refine o_nil1 59 rfl rfl ?_
            refine c_condF rfl ?_
            refine c_skip ?_
            refine c_region ?_
            refine o_T (y_move rfl) rfl ?_
            refine o_T (y_add rfl rfl (w64 (by omega))) rfl ?_
            refine o_L (y_assign rfl) rfl rfl ?_
            refine o_nil0 rfl ?_
            refine ⟨(j1 + 1, false, ⟨y_1, V_3, kn_1, gh_2, gq_2, gw_2, gn_3, gs_3, gr_3, gi_3, go_2, gm_2⟩), ⟨⟨by dsimp only; omega, by dsimp only; omega, hL_1.imp (fun h => absurd (show false = true from h) (by decide)), by dsimp only; omega, W_2⟩, by dsimp only; omega⟩, ⟨rfl, gteI rfl (by dsimp only; omega), trivial⟩, ⟨rfl, rfl⟩, _, ((s_take (s_take (s_take (s_take (s_take (s_take (s_take (s_take (s_take (s_take (s_skip (s_take s_nil)))))))))))))⟩
          · try simp only [decide_eq_true_eq, decide_eq_false_iff_not, Bool.not_eq_true', Bool.not_eq_false', Int.not_lt, Int.not_le, Decidable.not_not, beq_iff_eq, bne_iff_ne, ne_eq, beq_eq_false_iff_ne, WA.wd] at h946
            refine d_Tg 7 rfl rfl rfl rfl (by kernel_rfl) rfl (y_move rfl) rfl ?_
            refine d_Tg 8 rfl rfl rfl rfl (by kernel_rfl) rfl (y_nilck rfl) rfl ?_
            refine d_Tg 9 rfl rfl rfl rfl (by kernel_rfl) rfl (y_fa fl_53_9 rfl) rfl ?_
            refine d_ldat 10 rfl rfl rfl rfl (by kernel_rfl) ag_45 rfl (fun x hx => hx) m0 (wd_lost _ _ _ _) (of_ble rfl) rfl ?_
            refine d_ldat 11 rfl rfl rfl rfl (by kernel_rfl) ag_45 rfl (fun x hx => hx) (ms (ms (ms (ms (ms (ms (ms (ms (ms (ms m0)))))))))) rfl (Nat.le_refl _) rfl ?_
            refine d_Tg 12 rfl rfl rfl rfl (by kernel_rfl) rfl (y_neq3 (a := y_1.lost) (b := x1.lost) Tryz.underlying45 Tryz.underlying3 one_3 (by kernel_rfl) rfl rfl) rfl ?_
            refine d_T 13 rfl (by kernel_rfl) rfl (y_pickF rfl rfl) rfl ?_
            refine d_nil1 58 (by kernel_rfl) rfl rfl ?_
            refine c_cond rfl (fun h946_1 => ?_) (fun h946_1 => ?_)
            · try simp only [decide_eq_true_eq, decide_eq_false_iff_not, Bool.not_eq_true', Bool.not_eq_false', Int.not_lt, Int.not_le, Decidable.not_not, beq_iff_eq, bne_iff_ne, ne_eq, beq_eq_false_iff_ne, WA.wd] at h946_1
              refine c_region ?_
              refine o_L (y_assign rfl) rfl rfl ?_
              refine o_nil0 rfl ?_
              refine c_seq ?_
              refine c_region ?_
              refine o_T (y_move rfl) rfl ?_
              refine o_nil1 59 rfl rfl ?_
              refine c_condF rfl ?_
              refine c_skip ?_
              refine c_region ?_
              refine o_T (y_move rfl) rfl ?_
              refine o_T (y_add rfl rfl (w64 (by omega))) rfl ?_
              refine o_L (y_assign rfl) rfl rfl ?_
              refine o_nil0 rfl ?_
              refine ⟨(j1 + 1, false, ⟨y_1, V_3, kn_1, gh_2, gq_2, gw_2, gn_3, gs_3, gr_3, gi_3, go_2, gm_2⟩), ⟨⟨by dsimp only; omega, by dsimp only; omega, hL_1.imp (fun h => absurd (show false = true from h) (by decide)), by dsimp only; omega, W_2⟩, by dsimp only; omega⟩, ⟨rfl, gteI rfl (by dsimp only; omega), trivial⟩, ⟨rfl, rfl⟩, _, ((s_take (s_take (s_take (s_take (s_take (s_take (s_take (s_take (s_take (s_take (s_skip (s_take s_nil)))))))))))))⟩
            · try simp only [decide_eq_true_eq, decide_eq_false_iff_not, Bool.not_eq_true', Bool.not_eq_false', Int.not_lt, Int.not_le, Decidable.not_not, beq_iff_eq, bne_iff_ne, ne_eq, beq_eq_false_iff_ne, WA.wd] at h946_1
              refine c_skip ?_
              refine c_seq ?_
              refine c_region ?_
              refine o_T (y_move rfl) rfl ?_
              refine o_nil1 59 rfl rfl ?_
              refine c_condF rfl ?_
              refine c_skip ?_
              refine c_region ?_
              refine o_T (y_move rfl) rfl ?_
              refine o_T (y_add rfl rfl (w64 (by omega))) rfl ?_
              refine o_L (y_assign rfl) rfl rfl ?_
              refine o_nil0 rfl ?_
              refine ⟨(j1 + 1, false, ⟨y_1, V_3, kn_1, gh_2, gq_2, gw_2, gn_3, gs_3, gr_3, gi_3, go_2, gm_2⟩), ⟨⟨by dsimp only; omega, by dsimp only; omega, hL_1.imp (fun h => absurd (show false = true from h) (by decide)), by dsimp only; omega, W_2⟩, by dsimp only; omega⟩, ⟨rfl, gteI rfl (by dsimp only; omega), trivial⟩, ⟨rfl, rfl⟩, _, ((s_take (s_take (s_take (s_take (s_take (s_take (s_take (s_take (s_take (s_take (s_skip (s_take s_nil)))))))))))))⟩
        · try simp only [decide_eq_true_eq, decide_eq_false_iff_not, Bool.not_eq_true', Bool.not_eq_false', Int.not_lt, Int.not_le, Decidable.not_not, beq_iff_eq, bne_iff_ne, ne_eq, beq_eq_false_iff_ne, WA.wd] at h938
          refine c_skip ?_
          refine c_seq ?_
          refine c_draw #[true, true, true, true, true, true, true, true, true, true, false] rfl (n := 11) rfl ?_
          refine d_T 0 rfl (by kernel_rfl) rfl (y_move rfl) rfl ?_
          refine d_T 1 rfl (by kernel_rfl) rfl (y_nilck rfl) rfl ?_
          refine d_T 2 rfl (by kernel_rfl) rfl (y_fa fl_53_13 rfl) rfl ?_
          refine d_ld 3 rfl (by kernel_rfl) one_3 rfl (fun x hx => hx) m0 Wd.g45 rfl ?_
          refine d_T 4 rfl (by kernel_rfl) rfl (y_move rfl) rfl ?_
          refine d_T 5 rfl (by kernel_rfl) rfl (y_nilck rfl) rfl ?_
          refine d_T 6 rfl (by kernel_rfl) rfl (y_fa fl_53_9 rfl) rfl ?_
          refine d_lda 7 rfl (by kernel_rfl) ag_45 rfl (fun x hx => hx) m0 (wd_lost _ _ _ _) (of_ble rfl) rfl ?_
          refine d_hardA 8 rfl (by kernel_rfl) ze_45 rfl rfl (fun b_2 => ?_)
          refine d_L 9 rfl (by kernel_rfl) rfl (y_assign rfl) rfl rfl ?_
          refine d_hard 10 rfl (by kernel_rfl) ?_
          refine o_sta ag_45 rfl rfl rfl rfl r0 (setAll_full _ _ rfl) (of_ble rfl) ?_
          refine o_stop (fun h => nomatch h) ?_
          refine d_nil0 (by kernel_rfl) rfl ?_
          refine c_seq ?_
          refine c_seq ?_
          refine c_region ?_
          refine o_T (y_move rfl) rfl ?_
          refine o_T (y_move rfl) rfl ?_
          refine o_T (y_move rfl) rfl ?_
          refine o_T (y_is sl_22 rfl rfl (by omega) (by omega)) rfl ?_
          refine o_lda ag_32 rfl (ms (ms (ms (ms (ms (ms (ms (ms (ms (ms (ms m0))))))))))) (hcs _ (by omega)).1 (hcs _ (by omega)).2 rfl ?_
          refine o_call en_15 rfl (t15f A_1 false x1 V1 k1 _ _ _ _ _ _ _ _ _ W1_ True (L1.imp (fun _ => h937)) (by omega) kd oa ob oc os ot hob hos false (fun _ => by simpa using h938)) (s_skip (s_take (s_take (s_take (s_take (s_take (s_take (s_take (s_take (s_take (s_take s_nil))))))))))) rfl ?_
          rintro v S' ⟨rfl, y_2, kn_2, hk_2, hL_2, cm_2, ⟨V_4, gh_3, gq_3, gw_3, gn_4, gs_4, gr_4, gi_4, go_3, gm_3, W_3, hc_3, rfl⟩, hSt_2⟩
          refine o_T (y_not rfl) rfl ?_
          refine o_nil1 43 rfl rfl ?_
          refine c_condF rfl ?_
          refine c_skip ?_
          refine c_seq ?_
          refine c_seq ?_
          refine c_draw #[true, true, true, true, true, true, true, true, true, true, true, true, true, true] rfl (n := 14) rfl ?_
          refine d_T 0 rfl (by kernel_rfl) rfl (y_move rfl) rfl ?_
          refine d_T 1 rfl (by kernel_rfl) rfl (y_nilck rfl) rfl ?_
          refine d_T 2 rfl (by kernel_rfl) rfl (y_fa fl_53_13 rfl) rfl ?_
          refine d_ld 3 rfl (by kernel_rfl) one_3 rfl (fun x hx => hx) m0 Wd.g45 rfl ?_
          refine d_T 4 rfl (by kernel_rfl) rfl (y_move rfl) rfl ?_
          refine d_T 5 rfl (by kernel_rfl) rfl (y_neq rfl rfl) rfl ?_
          refine d_T 6 rfl (by kernel_rfl) rfl (y_move rfl) rfl ?_
          refine d_split 51 rfl (fun h946 => ?_) (fun h946 => ?_)
          · try simp only [decide_eq_true_eq, decide_eq_false_iff_not, Bool.not_eq_true', Bool.not_eq_false', Int.not_lt, Int.not_le, Decidable.not_not, beq_iff_eq, bne_iff_ne, ne_eq, beq_eq_false_iff_ne, WA.wd] at h946
            refine d_pass 7 rfl rfl rfl rfl rfl (by kernel_rfl) (fun x hx => hx) rfl ?_
            refine d_pass 8 rfl rfl rfl rfl rfl (by kernel_rfl) (fun x hx => hx) rfl ?_
            refine d_pass 9 rfl rfl rfl rfl rfl (by kernel_rfl) (fun x hx => hx) rfl ?_
            refine d_pass 10 rfl rfl rfl rfl rfl (by kernel_rfl) (fun x hx => hx) rfl ?_
            refine d_pass 11 rfl rfl rfl rfl rfl (by kernel_rfl) (fun x hx => hx) rfl ?_
            refine d_pass 12 rfl rfl rfl rfl rfl (by kernel_rfl) (fun x hx => hx) rfl ?_
            refine d_T 13 rfl (by kernel_rfl) rfl (y_pickT rfl rfl) rfl ?_
            refine d_nil1 58 (by kernel_rfl) rfl rfl ?_
            refine c_condT rfl ?_
            refine c_region ?_
            refine o_L (y_assign rfl) rfl rfl ?_
            refine o_nil0 rfl ?_
            refine c_seq ?_
            refine c_region ?_
            refine o_T (y_move rfl) rfl ?_
            refine o_nil1 59 rfl rfl ?_
            refine c_condF rfl ?_
            refine c_skip ?_
            refine c_region ?_
            refine o_T (y_move rfl) rfl ?_
            refine o_T (y_add rfl rfl (w64 (by omega))) rfl ?_
            refine o_L (y_assign rfl) rfl rfl ?_
            refine o_nil0 rfl ?_
            refine ⟨(j1 + 1, false, ⟨y_2, V_4, kn_2, gh_3, gq_3, gw_3, gn_4, gs_4, gr_4, gi_4, go_3, gm_3⟩), ⟨⟨by dsimp only; omega, by dsimp only; omega, hL_2.imp (fun h => absurd (show false = true from h) (by decide)), by dsimp only; omega, W_3⟩, by dsimp only; omega⟩, ⟨rfl, gteI rfl (by dsimp only; omega), trivial⟩, ⟨rfl, rfl⟩, _, ((s_take (s_take (s_take (s_take (s_take (s_take (s_take (s_take (s_take (s_take (s_skip (s_take s_nil)))))))))))))⟩
          · try simp only [decide_eq_true_eq, decide_eq_false_iff_not, Bool.not_eq_true', Bool.not_eq_false', Int.not_lt, Int.not_le, Decidable.not_not, beq_iff_eq, bne_iff_ne, ne_eq, beq_eq_false_iff_ne, WA.wd] at h946
            refine d_Tg 7 rfl rfl rfl rfl (by kernel_rfl) rfl (y_move rfl) rfl ?_
            refine d_Tg 8 rfl rfl rfl rfl (by kernel_rfl) rfl (y_nilck rfl) rfl ?_
            refine d_Tg 9 rfl rfl rfl rfl (by kernel_rfl) rfl (y_fa fl_53_9 rfl) rfl ?_
            refine d_ldat 10 rfl rfl rfl rfl (by kernel_rfl) ag_45 rfl (fun x hx => hx) m0 (wd_lost _ _ _ _) (of_ble rfl) rfl ?_
            refine d_ldat 11 rfl rfl rfl rfl (by kernel_rfl) ag_45 rfl (fun x hx => hx) (ms (ms (ms (ms (ms (ms (ms (ms (ms (ms m0)))))))))) rfl (Nat.le_refl _) rfl ?_
            refine d_Tg 12 rfl rfl rfl rfl (by kernel_rfl) rfl (y_neq3 (a := y_2.lost) (b := x1.lost) Tryz.underlying45 Tryz.underlying3 one_3 (by kernel_rfl) rfl rfl) rfl ?_
            refine d_T 13 rfl (by kernel_rfl) rfl (y_pickF rfl rfl) rfl ?_
            refine d_nil1 58 (by kernel_rfl) rfl rfl ?_
            refine c_cond rfl (fun h946_1 => ?_) (fun h946_1 => ?_)
            · try simp only [decide_eq_true_eq, decide_eq_false_iff_not, Bool.not_eq_true', Bool.not_eq_false', Int.not_lt, Int.not_le, Decidable.not_not, beq_iff_eq, bne_iff_ne, ne_eq, beq_eq_false_iff_ne, WA.wd] at h946_1
              refine c_region ?_
              refine o_L (y_assign rfl) rfl rfl ?_
              refine o_nil0 rfl ?_
              refine c_seq ?_
              refine c_region ?_
              refine o_T (y_move rfl) rfl ?_
              refine o_nil1 59 rfl rfl ?_
              refine c_condF rfl ?_
              refine c_skip ?_
              refine c_region ?_
              refine o_T (y_move rfl) rfl ?_
              refine o_T (y_add rfl rfl (w64 (by omega))) rfl ?_
              refine o_L (y_assign rfl) rfl rfl ?_
              refine o_nil0 rfl ?_
              refine ⟨(j1 + 1, false, ⟨y_2, V_4, kn_2, gh_3, gq_3, gw_3, gn_4, gs_4, gr_4, gi_4, go_3, gm_3⟩), ⟨⟨by dsimp only; omega, by dsimp only; omega, hL_2.imp (fun h => absurd (show false = true from h) (by decide)), by dsimp only; omega, W_3⟩, by dsimp only; omega⟩, ⟨rfl, gteI rfl (by dsimp only; omega), trivial⟩, ⟨rfl, rfl⟩, _, ((s_take (s_take (s_take (s_take (s_take (s_take (s_take (s_take (s_take (s_take (s_skip (s_take s_nil)))))))))))))⟩
            · try simp only [decide_eq_true_eq, decide_eq_false_iff_not, Bool.not_eq_true', Bool.not_eq_false', Int.not_lt, Int.not_le, Decidable.not_not, beq_iff_eq, bne_iff_ne, ne_eq, beq_eq_false_iff_ne, WA.wd] at h946_1
              refine c_skip ?_
              refine c_seq ?_
              refine c_region ?_
              refine o_T (y_move rfl) rfl ?_
              refine o_nil1 59 rfl rfl ?_
              refine c_cond rfl (fun h949 => ?_) (fun h949 => ?_)
              · try simp only [decide_eq_true_eq, decide_eq_false_iff_not, Bool.not_eq_true', Bool.not_eq_false', Int.not_lt, Int.not_le, Decidable.not_not, beq_iff_eq, bne_iff_ne, ne_eq, beq_eq_false_iff_ne, WA.wd] at h949
                refine c_seq ?_
                refine c_seq ?_
                refine c_region ?_
                refine o_T (y_move rfl) rfl ?_
                refine o_T (y_nilck rfl) rfl ?_
                refine o_T (y_fa fl_53_6 rfl) rfl ?_
                refine o_ld one_44 rfl m0 Wd.g30 rfl ?_
                refine o_callrv en_19 rfl (i19 W_3.n) (s_skip (s_skip (s_skip (s_skip (s_take s_nil))))) rfl ?_
                refine o_T (y_not rfl) rfl ?_
                refine o_nil1 65 rfl rfl ?_
                refine c_cond rfl (fun h950 => ?_) (fun h950 => ?_)
                · try simp only [decide_eq_true_eq, decide_eq_false_iff_not, Bool.not_eq_true', Bool.not_eq_false', Int.not_lt, Int.not_le, Decidable.not_not, beq_iff_eq, bne_iff_ne, ne_eq, beq_eq_false_iff_ne, WA.wd] at h950
                  exact absurd (hL_2.nofail ⟨trivial, by omega, fun h h3 => ne3_eq (by simpa using h946_1) h h3⟩) (by rw [h950]; decide)
                · try simp only [decide_eq_true_eq, decide_eq_false_iff_not, Bool.not_eq_true', Bool.not_eq_false', Int.not_lt, Int.not_le, Decidable.not_not, beq_iff_eq, bne_iff_ne, ne_eq, beq_eq_false_iff_ne, WA.wd] at h950
                  refine c_skip ?_
                  refine c_seq ?_
                  refine c_region ?_
                  refine o_T (y_move rfl) rfl ?_
                  refine o_T (y_move rfl) rfl ?_
                  refine o_T (y_is sl_22 rfl rfl (by omega) (by omega)) rfl ?_
                  refine o_T (y_fa fl_32_0 rfl) rfl ?_
                  refine o_ld one_3 rfl (ms (ms (ms (ms (ms (ms (ms (ms (ms (ms (ms m0))))))))))) (opn_kd (hcs _ (by omega)).1 (hcs _ (by omega)).2) rfl ?_
                  refine o_T (y_eql rfl rfl) rfl ?_
                  refine o_nil1 72 rfl rfl ?_
                  refine c_cond rfl (fun h953 => ?_) (fun h953 => ?_)
                  · try simp only [decide_eq_true_eq, decide_eq_false_iff_not, Bool.not_eq_true', Bool.not_eq_false', Int.not_lt, Int.not_le, Decidable.not_not, beq_iff_eq, bne_iff_ne, ne_eq, beq_eq_false_iff_ne, WA.wd] at h953
                    refine c_seq ?_
                    refine c_region ?_
                    refine o_T (y_move rfl) rfl ?_
                    refine o_T (y_nilck rfl) rfl ?_
                    refine o_T (y_fa fl_53_6 rfl) rfl ?_
                    refine o_ld one_44 rfl m0 Wd.g30 rfl ?_
                    refine o_callrv en_17 rfl (i17 W_3.n (fun y hy => (hL_2.szs (by omega)).peer y hy) (fun y hy => by have := (hL_2.szs (by omega)).sent y hy; omega)) (s_skip (s_skip (s_skip (s_skip (s_take s_nil))))) rfl ?_
                    refine o_T (y_not rfl) rfl ?_
                    refine o_nil1 78 rfl rfl ?_
                    refine c_cond rfl (fun h954 => ?_) (fun h954 => ?_)
                    · try simp only [decide_eq_true_eq, decide_eq_false_iff_not, Bool.not_eq_true', Bool.not_eq_false', Int.not_lt, Int.not_le, Decidable.not_not, beq_iff_eq, bne_iff_ne, ne_eq, beq_eq_false_iff_ne, WA.wd] at h954
                      exact absurd (nSettled_iff.2 (hSt_2 (by first | exact h953 | omega) trivial ⟨by omega, fun h h3 => ne3_eq (by simpa using h946_1) h h3⟩)) (by rw [h954]; decide)
                    · try simp only [decide_eq_true_eq, decide_eq_false_iff_not, Bool.not_eq_true', Bool.not_eq_false', Int.not_lt, Int.not_le, Decidable.not_not, beq_iff_eq, bne_iff_ne, ne_eq, beq_eq_false_iff_ne, WA.wd] at h954
                      refine c_skip ?_
                      refine c_region ?_
                      refine o_T (y_move rfl) rfl ?_
                      refine o_T (y_add rfl rfl (w64 (by omega))) rfl ?_
                      refine o_L (y_assign rfl) rfl rfl ?_
                      refine o_nil0 rfl ?_
                      refine ⟨(j1 + 1, fr, ⟨y_2, V_4, kn_2, gh_3, gq_3, gw_3, gn_4, gs_4, gr_4, gi_4, go_3, gm_3⟩), ⟨⟨by dsimp only; omega, by dsimp only; omega, hL_2.imp (fun _ => ⟨trivial, by omega, fun h h3 => ne3_eq (by simpa using h946_1) h h3⟩), by dsimp only; omega, W_3⟩, by dsimp only; omega⟩, ⟨rfl, gteI rfl (by dsimp only; omega), trivial⟩, ⟨rfl, rfl⟩, _, ((s_take (s_take (s_take (s_take (s_take (s_take (s_take (s_take (s_take (s_take (s_skip (s_take s_nil)))))))))))))⟩
                  · try simp only [decide_eq_true_eq, decide_eq_false_iff_not, Bool.not_eq_true', Bool.not_eq_false', Int.not_lt, Int.not_le, Decidable.not_not, beq_iff_eq, bne_iff_ne, ne_eq, beq_eq_false_iff_ne, WA.wd] at h953
                    refine c_skip ?_
                    refine c_region ?_
                    refine o_T (y_move rfl) rfl ?_
                    refine o_T (y_add rfl rfl (w64 (by omega))) rfl ?_
                    refine o_L (y_assign rfl) rfl rfl ?_
                    refine o_nil0 rfl ?_
                    refine ⟨(j1 + 1, fr, ⟨y_2, V_4, kn_2, gh_3, gq_3, gw_3, gn_4, gs_4, gr_4, gi_4, go_3, gm_3⟩), ⟨⟨by dsimp only; omega, by dsimp only; omega, hL_2.imp (fun _ => ⟨trivial, by omega, fun h h3 => ne3_eq (by simpa using h946_1) h h3⟩), by dsimp only; omega, W_3⟩, by dsimp only; omega⟩, ⟨rfl, gteI rfl (by dsimp only; omega), trivial⟩, ⟨rfl, rfl⟩, _, ((s_take (s_take (s_take (s_take (s_take (s_take (s_take (s_take (s_take (s_take (s_skip (s_take s_nil)))))))))))))⟩
              · try simp only [decide_eq_true_eq, decide_eq_false_iff_not, Bool.not_eq_true', Bool.not_eq_false', Int.not_lt, Int.not_le, Decidable.not_not, beq_iff_eq, bne_iff_ne, ne_eq, beq_eq_false_iff_ne, WA.wd] at h949
                exact absurd (h937.symm.trans h949) (by decide)
      · try simp only [decide_eq_true_eq, decide_eq_false_iff_not, Bool.not_eq_true', Bool.not_eq_false', Int.not_lt, Int.not_le, Decidable.not_not, beq_iff_eq, bne_iff_ne, ne_eq, beq_eq_false_iff_ne, WA.wd] at h937
        refine c_skip ?_
        refine c_seq ?_
        refine c_draw #[true, true, true, true, true, true, true, true, true, true, false] rfl (n := 11) rfl ?_
        refine d_T 0 rfl (by kernel_rfl) rfl (y_move rfl) rfl ?_
        refine d_T 1 rfl (by kernel_rfl) rfl (y_nilck rfl) rfl ?_
        refine d_T 2 rfl (by kernel_rfl) rfl (y_fa fl_53_13 rfl) rfl ?_
        refine d_ld 3 rfl (by kernel_rfl) one_3 rfl (fun x hx => hx) m0 Wd.g45 rfl ?_
        refine d_T 4 rfl (by kernel_rfl) rfl (y_move rfl) rfl ?_
        refine d_T 5 rfl (by kernel_rfl) rfl (y_nilck rfl) rfl ?_
        refine d_T 6 rfl (by kernel_rfl) rfl (y_fa fl_53_9 rfl) rfl ?_
        refine d_lda 7 rfl (by kernel_rfl) ag_45 rfl (fun x hx => hx) m0 (wd_lost _ _ _ _) (of_ble rfl) rfl ?_
        refine d_hardA 8 rfl (by kernel_rfl) ze_45 rfl rfl (fun b_3 => ?_)
        refine d_L 9 rfl (by kernel_rfl) rfl (y_assign rfl) rfl rfl ?_
        refine d_hard 10 rfl (by kernel_rfl) ?_
        refine o_sta ag_45 rfl rfl rfl rfl r0 (setAll_full _ _ rfl) (of_ble rfl) ?_
        refine o_stop (fun h => nomatch h) ?_
        refine d_nil0 (by kernel_rfl) rfl ?_
        refine c_seq ?_
        refine c_seq ?_
        refine c_region ?_
        refine o_T (y_move rfl) rfl ?_
        refine o_T (y_move rfl) rfl ?_
        refine o_T (y_move rfl) rfl ?_
        refine o_T (y_is sl_22 rfl rfl (by omega) (by omega)) rfl ?_
        refine o_lda ag_32 rfl (ms (ms (ms (ms (ms (ms (ms (ms (ms (ms (ms m0))))))))))) (hcs _ (by omega)).1 (hcs _ (by omega)).2 rfl ?_
        refine o_call en_15 rfl (t15f A_1 false x1 V1 k1 _ _ _ _ _ _ _ _ _ W1_ False (L1.imp (fun h => h.elim)) (by omega) kd oa ob oc os ot hob hos false (fun h => h.elim)) (s_skip (s_take (s_take (s_take (s_take (s_take (s_take (s_take (s_take (s_take (s_take s_nil))))))))))) rfl ?_
        rintro v S' ⟨rfl, y_3, kn_3, hk_3, hL_3, cm_3, ⟨V_5, gh_4, gq_4, gw_4, gn_5, gs_5, gr_5, gi_5, go_4, gm_4, W_4, hc_4, rfl⟩, hSt_3⟩
        refine o_T (y_not rfl) rfl ?_
        refine o_nil1 43 rfl rfl ?_
        refine c_condF rfl ?_
        refine c_skip ?_
        refine c_seq ?_
        refine c_seq ?_
        refine c_draw #[true, true, true, true, true, true, true, true, true, true, true, true, true, true] rfl (n := 14) rfl ?_
        refine d_T 0 rfl (by kernel_rfl) rfl (y_move rfl) rfl ?_
        refine d_T 1 rfl (by kernel_rfl) rfl (y_nilck rfl) rfl ?_
        refine d_T 2 rfl (by kernel_rfl) rfl (y_fa fl_53_13 rfl) rfl ?_
        refine d_ld 3 rfl (by kernel_rfl) one_3 rfl (fun x hx => hx) m0 Wd.g45 rfl ?_
        refine d_T 4 rfl (by kernel_rfl) rfl (y_move rfl) rfl ?_
        refine d_T 5 rfl (by kernel_rfl) rfl (y_neq rfl rfl) rfl ?_
        refine d_T 6 rfl (by kernel_rfl) rfl (y_move rfl) rfl ?_
        refine d_split 51 rfl (fun h946 => ?_) (fun h946 => ?_)
        · try simp only [decide_eq_true_eq, decide_eq_false_iff_not, Bool.not_eq_true', Bool.not_eq_false', Int.not_lt, Int.not_le, Decidable.not_not, beq_iff_eq, bne_iff_ne, ne_eq, beq_eq_false_iff_ne, WA.wd] at h946
          refine d_pass 7 rfl rfl rfl rfl rfl (by kernel_rfl) (fun x hx => hx) rfl ?_
          refine d_pass 8 rfl rfl rfl rfl rfl (by kernel_rfl) (fun x hx => hx) rfl ?_
          refine d_pass 9 rfl rfl rfl rfl rfl (by kernel_rfl) (fun x hx => hx) rfl ?_
          refine d_pass 10 rfl rfl rfl rfl rfl (by kernel_rfl) (fun x hx => hx) rfl ?_
          refine d_pass 11 rfl rfl rfl rfl rfl (by kernel_rfl) (fun x hx => hx) rfl ?_
          refine d_pass 12 rfl rfl rfl rfl rfl (by kernel_rfl) (fun x hx => hx) rfl ?_
          refine d_T 13 rfl (by kernel_rfl) rfl (y_pickT rfl rfl) rfl ?_
          refine d_nil1 58 (by kernel_rfl) rfl rfl ?_
          refine c_condT rfl ?_
          refine c_region ?_
          refine o_L (y_assign rfl) rfl rfl ?_
          refine o_nil0 rfl ?_
          refine c_seq ?_
          refine c_region ?_
          refine o_T (y_move rfl) rfl ?_
          refine o_nil1 59 rfl rfl ?_
          refine c_condF rfl ?_
          refine c_skip ?_
          refine c_region ?_
          refine o_T (y_move rfl) rfl ?_
          refine o_T (y_add rfl rfl (w64 (by omega))) rfl ?_
          refine o_L (y_assign rfl) rfl rfl ?_
          refine o_nil0 rfl ?_
          refine ⟨(j1 + 1, false, ⟨y_3, V_5, kn_3, gh_4, gq_4, gw_4, gn_5, gs_5, gr_5, gi_5, go_4, gm_4⟩), ⟨⟨by dsimp only; omega, by dsimp only; omega, hL_3.imp (fun h => absurd (show false = true from h) (by decide)), by dsimp only; omega, W_4⟩, by dsimp only; omega⟩, ⟨rfl, gteI rfl (by dsimp only; omega), trivial⟩, ⟨rfl, rfl⟩, _, ((s_take (s_take (s_take (s_take (s_take (s_take (s_take (s_take (s_take (s_take (s_skip (s_take s_nil)))))))))))))⟩
        · try simp only [decide_eq_true_eq, decide_eq_false_iff_not, Bool.not_eq_true', Bool.not_eq_false', Int.not_lt, Int.not_le, Decidable.not_not, beq_iff_eq, bne_iff_ne, ne_eq, beq_eq_false_iff_ne, WA.wd] at h946
          refine d_Tg 7 rfl rfl rfl rfl (by kernel_rfl) rfl (y_move rfl) rfl ?_
          refine d_Tg 8 rfl rfl rfl rfl (by kernel_rfl) rfl (y_nilck rfl) rfl ?_
          refine d_Tg 9 rfl rfl rfl rfl (by kernel_rfl) rfl (y_fa fl_53_9 rfl) rfl ?_
          refine d_ldat 10 rfl rfl rfl rfl (by kernel_rfl) ag_45 rfl (fun x hx => hx) m0 (wd_lost _ _ _ _) (of_ble rfl) rfl ?_
          refine d_ldat 11 rfl rfl rfl rfl (by kernel_rfl) ag_45 rfl (fun x hx => hx) (ms (ms (ms (ms (ms (ms (ms (ms (ms (ms m0)))))))))) rfl (Nat.le_refl _) rfl ?_
          refine d_Tg 12 rfl rfl rfl rfl (by kernel_rfl) rfl (y_neq3 (a := y_3.lost) (b := x1.lost) Tryz.underlying45 Tryz.underlying3 one_3 (by kernel_rfl) rfl rfl) rfl ?_
          refine d_T 13 rfl (by kernel_rfl) rfl (y_pickF rfl rfl) rfl ?_
          refine d_nil1 58 (by kernel_rfl) rfl rfl ?_
          refine c_cond rfl (fun h946_1 => ?_) (fun h946_1 => ?_)
          · try simp only [decide_eq_true_eq, decide_eq_false_iff_not, Bool.not_eq_true', Bool.not_eq_false', Int.not_lt, Int.not_le, Decidable.not_not, beq_iff_eq, bne_iff_ne, ne_eq, beq_eq_false_iff_ne, WA.wd] at h946_1
            refine c_region ?_
            refine o_L (y_assign rfl) rfl rfl ?_
            refine o_nil0 rfl ?_
            refine c_seq ?_
            refine c_region ?_
            refine o_T (y_move rfl) rfl ?_
            refine o_nil1 59 rfl rfl ?_
            refine c_condF rfl ?_
            refine c_skip ?_
            refine c_region ?_
            refine o_T (y_move rfl) rfl ?_
            refine o_T (y_add rfl rfl (w64 (by omega))) rfl ?_
            refine o_L (y_assign rfl) rfl rfl ?_
            refine o_nil0 rfl ?_
            refine ⟨(j1 + 1, false, ⟨y_3, V_5, kn_3, gh_4, gq_4, gw_4, gn_5, gs_5, gr_5, gi_5, go_4, gm_4⟩), ⟨⟨by dsimp only; omega, by dsimp only; omega, hL_3.imp (fun h => absurd (show false = true from h) (by decide)), by dsimp only; omega, W_4⟩, by dsimp only; omega⟩, ⟨rfl, gteI rfl (by dsimp only; omega), trivial⟩, ⟨rfl, rfl⟩, _, ((s_take (s_take (s_take (s_take (s_take (s_take (s_take (s_take (s_take (s_take (s_skip (s_take s_nil)))))))))))))⟩
          · try simp only [decide_eq_true_eq, decide_eq_false_iff_not, Bool.not_eq_true', Bool.not_eq_false', Int.not_lt, Int.not_le, Decidable.not_not, beq_iff_eq, bne_iff_ne, ne_eq, beq_eq_false_iff_ne, WA.wd] at h946_1
            refine c_skip ?_
            refine c_seq ?_
            refine c_region ?_
            refine o_T (y_move rfl) rfl ?_
            refine o_nil1 59 rfl rfl ?_
            refine c_cond rfl (fun h949 => ?_) (fun h949 => ?_)
            · try simp only [decide_eq_true_eq, decide_eq_false_iff_not, Bool.not_eq_true', Bool.not_eq_false', Int.not_lt, Int.not_le, Decidable.not_not, beq_iff_eq, bne_iff_ne, ne_eq, beq_eq_false_iff_ne, WA.wd] at h949
              exact absurd (h949.symm.trans h937) (by decide)
            · try simp only [decide_eq_true_eq, decide_eq_false_iff_not, Bool.not_eq_true', Bool.not_eq_false', Int.not_lt, Int.not_le, Decidable.not_not, beq_iff_eq, bne_iff_ne, ne_eq, beq_eq_false_iff_ne, WA.wd] at h949
              refine c_skip ?_
              refine c_region ?_
              refine o_T (y_move rfl) rfl ?_
              refine o_T (y_add rfl rfl (w64 (by omega))) rfl ?_
              refine o_L (y_assign rfl) rfl rfl ?_
              refine o_nil0 rfl ?_
              refine ⟨(j1 + 1, fr, ⟨y_3, V_5, kn_3, gh_4, gq_4, gw_4, gn_5, gs_5, gr_5, gi_5, go_4, gm_4⟩), ⟨⟨by dsimp only; omega, by dsimp only; omega, hL_3.imp (fun h => absurd (h.symm.trans h937) (by decide)), by dsimp only; omega, W_4⟩, by dsimp only; omega⟩, ⟨rfl, gteI rfl (by dsimp only; omega), trivial⟩, ⟨rfl, rfl⟩, _, ((s_take (s_take (s_take (s_take (s_take (s_take (s_take (s_take (s_take (s_take (s_skip (s_take s_nil)))))))))))))⟩
    · try simp only [decide_eq_true_eq, decide_eq_false_iff_not, Bool.not_eq_true', Bool.not_eq_false', Int.not_lt, Int.not_le, Decidable.not_not, beq_iff_eq, bne_iff_ne, ne_eq, beq_eq_false_iff_ne, WA.wd] at h936_1
      refine c_exit ?_
      refine c_seq ?_
      refine c_region ?_
      refine o_L (y_assign rfl) rfl rfl ?_
      refine o_nil0 rfl ?_
      refine c_ret ?_
      refine fun aX wX heX hsX => ret1 Tryz.results11 heX rfl (s_skip (s_skip (s_skip (s_skip (s_skip (s_skip (s_skip (s_skip (s_skip (s_skip (s_take s_nil))))))))))) ?_
      exact ⟨rfl, rfl⟩
  · try simp only [decide_eq_true_eq, decide_eq_false_iff_not, Bool.not_eq_true', Bool.not_eq_false', Int.not_lt, Int.not_le, Decidable.not_not, beq_iff_eq, bne_iff_ne, ne_eq, beq_eq_false_iff_ne, WA.wd] at h936
    refine o_pass rfl rfl rfl rfl rfl ?_
    refine o_pass rfl rfl rfl rfl rfl ?_
    refine o_T (y_pickF rfl rfl) rfl ?_
    refine o_nil1 19 rfl rfl ?_
    refine c_condF rfl ?_
    refine c_exit ?_
    refine c_seq ?_
    refine c_region ?_
    refine o_L (y_assign rfl) rfl rfl ?_
    refine o_nil0 rfl ?_
    refine c_ret ?_
    refine fun aX wX heX hsX => ret1 Tryz.results11 heX rfl (s_skip (s_skip (s_skip (s_skip (s_skip (s_skip (s_skip (s_skip (s_skip (s_skip (s_take s_nil))))))))))) ?_
    exact ⟨rfl, rfl⟩

/-- e2e/towerlaw.RefinesFair -/
theorem t6 (p : Option Addr) (n cap : Nat) (g : List Chunk) (hS : ScrPF p n g) (hn : n ≤ 9223372036854775807) : Trip Tryz.prog 6 #[.slice p n cap] [g] (fun u S' => u = .bool true ∧ S' = [g]) := by
  refine fn_entry (args := [.slice p n cap]) Tryz.func6 rfl Tryz.ntmps6 rfl (fun w0 => ?_)
  refine c_seq ?_
  refine c_region ?_
  refine o_L (y_assign rfl) rfl rfl ?_
  refine o_nil0 rfl ?_
  refine c_seq ?_
  refine c_region ?_
  refine o_T (y_move rfl) rfl ?_
  refine o_call en_11 rfl (t11 p n cap g hS hn) (s_take s_nil) rfl ?_
  rintro v S' ⟨rfl, rfl⟩
  refine o_T (y_eql rfl rfl) rfl ?_
  refine o_L (y_assign rfl) rfl rfl ?_
  refine o_nil0 rfl ?_
  refine c_ret ?_
  refine fun aX wX heX hsX => ret1 Tryz.results6 heX rfl (s_take s_nil) ?_
  exact ⟨rfl, rfl⟩

end Go.Proofs.Qxb6500351aGreat
