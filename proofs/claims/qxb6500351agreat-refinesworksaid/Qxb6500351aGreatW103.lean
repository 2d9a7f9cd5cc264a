/- MADE BY PROGRAM (tools/gen.py over tools/specsw.py): walks. -/
import Derived.Test.Qxb6500351aGreatFacts
import Derived.Test.Qxb6500351aGreatRp14
import Derived.Test.Qxb6500351aGreatW102
import Derived.Test.Qxb6500351aGreatW96
import Derived.Test.Qxb6500351aGreatMd34
set_option linter.unusedVariables false
set_option linter.unusedSimpArgs false
namespace Go.Proofs.Qxb6500351aGreat
open Go.Eng
set_option maxRecDepth 20000
set_option maxHeartbeats 4000000
attribute [local irreducible] Hst.ent Hst.err Hst.infoC
/-- e2e/towerlaw.RefinesWorkUpTo -/
theorem t10 (p : Option Addr) (n cap : Nat) (g : List Chunk) (hS : ScrP p n g) (hn : n ≤ 9223372036854775807) : Trip Tryz.prog 10 #[.slice p n cap] [g] (fun u S' => u = .int .i64 (-1) ∧ S' = [g]) := by
  refine fn_entry (args := [.slice p n cap]) Tryz.func10 rfl Tryz.ntmps10 rfl (fun w0 => ?_)
  refine c_seq ?_
  refine c_region ?_
  refine o_L (y_assign rfl) rfl rfl ?_
  refine o_nil0 rfl ?_
  refine c_seq ?_
  refine c_region ?_
  refine o_call en_13 rfl (t13 false) s_nil rfl ?_
  rintro v S' ⟨A_1, rfl, V_1, gh_1, gq_1, gw_1, gn_1, gs_1, gr_1, gi_1, go_1, gm_1, W_1, hc_1, rfl⟩
  refine o_L (y_assign rfl) rfl rfl ?_
  refine o_nil0 rfl ?_
  refine c_seq ?_
  refine c_seq ?_
  obtain ⟨zN, hLz, hLk, hZN⟩ := LawK.first.stay (by omega)
  refine c_region ?_
  refine o_T (y_move rfl) rfl ?_
  refine o_call en_14 rfl (t14L A_1 false V_1 hLz hLk W_1.h W_1.n W_1.s W_1.r W_1.i (by omega)) (s_take (s_take (s_skip (s_skip (s_take (s_take (s_take (s_take s_nil)))))))) rfl ?_
  rintro v S' ⟨rfl, V_2, gn_2, gs_2, gr_2, gi_2, hV_1, hn_1, hs_1, hr_1, hi_1, rfl⟩
  refine o_T (y_not rfl) rfl ?_
  refine o_nil1 8 rfl rfl ?_
  refine c_condF rfl ?_
  refine c_skip ?_
  refine c_seq ?_
  refine c_seq ?_
  have W1 : WG A_1 false zN V_2 200 gh_1 gq_1 gw_1 gn_2 gs_2 gr_2 gi_2 go_1 gm_1 := ⟨by rw [hLz.keeps.1]; exact W_1.h, by rw [hLz.keeps.1]; exact W_1.q, by rw [hLz.keeps.2.2.1]; exact W_1.w, hn_1, hs_1, hr_1, hi_1.mono (by omega), by rw [hV_1.1]; exact W_1.o.mono (by omega), by rw [hV_1.2.1]; exact W_1.m.mono (by omega)⟩
  refine c_region ?_
  refine o_L (y_assign rfl) rfl rfl ?_
  refine o_nil0 rfl ?_
  refine c_block ?_
  refine c_loopG (ι := Nat × WS) (fun i => [(4, .int .i64 (i.1 : Int))]) (fun i => [[(A_1.b, .cells (A_1.wd false i.2.x i.2.V).enc 53 (0, 0))], i.2.gh, i.2.gq, i.2.gw, i.2.gn, i.2.gs, i.2.gr, i.2.gi, i.2.go, i.2.gm]) (fun i => i.1 ≤ n ∧ i.1 ≤ 1048576 ∧ LawK i.2.x i.2.k ∧ i.2.k ≤ 1 + 7800 * i.1 ∧ WG A_1 false i.2.x i.2.V (200 * i.2.k) i.2.gh i.2.gq i.2.gw i.2.gn i.2.gs i.2.gr i.2.gi i.2.go i.2.gm) (fun i => n - i.1) (0, ⟨zN, V_2, 1, gh_1, gq_1, gw_1, gn_2, gs_2, gr_2, gi_2, go_1, gm_1⟩) (by exact ⟨by dsimp only; omega, by dsimp only; omega, hZN, by dsimp only; omega, W1⟩) ⟨gteI rfl (by dsimp only; omega), trivial⟩ (s_get k0 (s_get k0 (s_get (ks (ks (ks (ks k0)))) (s_get (ks (ks (ks (ks k0)))) (s_get k0 (s_get k0 (s_get k0 (s_get k0 (s_get k0 (s_get k0 (s_get k0 s_nil))))))))))) ?_
  rintro ⟨j1, x1, V1, k1, gh1, gq1, gw1, gn1, gs1, gr1, gi1, go1, gm1⟩ ⟨f1, f2, L1, f3, W1_⟩
  try dsimp only [List.cons_append, List.nil_append] at *
  refine c_seq ?_
  refine c_seq ?_
  refine c_region ?_
  refine o_T (y_move rfl) rfl ?_
  refine o_T (y_move rfl) rfl ?_
  refine o_T (y_len Tryz.underlying22 rfl) rfl ?_
  refine o_T (y_lss rfl rfl) rfl ?_
  refine o_T (y_move rfl) rfl ?_
  refine o_split 13 rfl (fun h883 => ?_) (fun h883 => ?_)
  · try simp only [decide_eq_true_eq, decide_eq_false_iff_not, Bool.not_eq_true', Bool.not_eq_false', Int.not_lt, Int.not_le, Decidable.not_not, beq_iff_eq, bne_iff_ne, ne_eq, beq_eq_false_iff_ne, WA.wd] at h883
    refine o_take rfl rfl rfl ?_
    refine o_T (y_move rfl) rfl ?_
    refine o_take rfl rfl rfl ?_
    refine o_T (y_lss rfl rfl) rfl ?_
    refine o_T (y_pickT rfl rfl) rfl ?_
    refine o_nil1 16 rfl rfl ?_
    refine c_cond rfl (fun h883_1 => ?_) (fun h883_1 => ?_)
    · try simp only [decide_eq_true_eq, decide_eq_false_iff_not, Bool.not_eq_true', Bool.not_eq_false', Int.not_lt, Int.not_le, Decidable.not_not, beq_iff_eq, bne_iff_ne, ne_eq, beq_eq_false_iff_ne, WA.wd] at h883_1
      refine c_skip ?_
      refine c_seq ?_
      refine c_block ?_
      refine c_seq ?_
      refine c_seq ?_
      obtain ⟨bs, os_, cs, tsc, fz, e1, e2, hE⟩ := hS (by omega)
      subst e1 e2
      obtain ⟨kd, oa, ob, oc, os, ot, hcs, hob, hos⟩ := hE j1 (by omega)
      refine c_region ?_
      refine o_T (y_move rfl) rfl ?_
      refine o_T (y_move rfl) rfl ?_
      refine o_T (y_move rfl) rfl ?_
      refine o_T (y_is sl_22 rfl rfl (by omega) (by omega)) rfl ?_
      refine o_lda ag_32 rfl (ms (ms (ms (ms (ms (ms (ms (ms (ms (ms m0)))))))))) (hcs _ (by omega)).1 (hcs _ (by omega)).2 rfl ?_
      refine o_call en_15 rfl (t15w A_1 false x1 V1 k1 _ _ _ _ _ _ _ _ _ W1_ L1 (by omega) kd oa ob oc os ot hob hos false) (s_take (s_take (s_take (s_take (s_take (s_take (s_take (s_take (s_take (s_take s_nil)))))))))) rfl ?_
      rintro v S' ⟨rfl, y_1, kn_1, hk_1, hL_1, cm_1, ⟨V_3, gh_2, gq_2, gw_2, gn_3, gs_3, gr_3, gi_3, go_2, gm_2, W_2, hc_2, rfl⟩, hSt_1⟩
      refine o_T (y_not rfl) rfl ?_
      refine o_nil1 25 rfl rfl ?_
      refine c_condF rfl ?_
      refine c_skip ?_
      refine c_seq ?_
      refine c_region ?_
      refine o_T (y_move rfl) rfl ?_
      refine o_T (y_move rfl) rfl ?_
      refine o_T (y_is sl_22 rfl rfl (by omega) (by omega)) rfl ?_
      refine o_T (y_fa fl_32_0 rfl) rfl ?_
      refine o_ld one_3 rfl (ms (ms (ms (ms (ms (ms (ms (ms (ms (ms m0)))))))))) (opn_kd (hcs _ (by omega)).1 (hcs _ (by omega)).2) rfl ?_
      refine o_T (y_eql rfl rfl) rfl ?_
      refine o_T (y_move rfl) rfl ?_
      refine o_split 33 rfl (fun h887 => ?_) (fun h887 => ?_)
      · try simp only [decide_eq_true_eq, decide_eq_false_iff_not, Bool.not_eq_true', Bool.not_eq_false', Int.not_lt, Int.not_le, Decidable.not_not, beq_iff_eq, bne_iff_ne, ne_eq, beq_eq_false_iff_ne, WA.wd] at h887
        refine o_take rfl rfl rfl ?_
        refine o_T (y_move rfl) rfl ?_
        refine o_take rfl rfl rfl ?_
        refine o_T (y_nilck rfl) rfl ?_
        refine o_take rfl rfl rfl ?_
        refine o_T (y_fa fl_53_4 rfl) rfl ?_
        refine o_take rfl rfl rfl ?_
        refine o_ld one_3 rfl m0 Wd.g28 rfl ?_
        refine o_take rfl rfl rfl ?_
        refine o_T (y_geq rfl rfl) rfl ?_
        refine o_T (y_pickT rfl rfl) rfl ?_
        refine o_nil1 39 rfl rfl ?_
        refine c_cond rfl (fun h887_1 => ?_) (fun h887_1 => ?_)
        · try simp only [decide_eq_true_eq, decide_eq_false_iff_not, Bool.not_eq_true', Bool.not_eq_false', Int.not_lt, Int.not_le, Decidable.not_not, beq_iff_eq, bne_iff_ne, ne_eq, beq_eq_false_iff_ne, WA.wd] at h887_1
          refine c_seq ?_
          refine c_region ?_
          refine o_T (y_move rfl) rfl ?_
          refine o_T (y_nilck rfl) rfl ?_
          refine o_T (y_fa fl_53_6 rfl) rfl ?_
          refine o_ld one_44 rfl m0 Wd.g30 rfl ?_
          refine o_callrv en_17 rfl (i17 W_2.n (fun y hy => (hL_1.szs (by omega)).peer y hy) (fun y hy => by have := (hL_1.szs (by omega)).sent y hy; omega)) (s_skip (s_skip (s_skip (s_skip (s_take s_nil))))) rfl ?_
          refine o_T (y_not rfl) rfl ?_
          refine o_nil1 45 rfl rfl ?_
          refine c_cond rfl (fun h888 => ?_) (fun h888 => ?_)
          · try simp only [decide_eq_true_eq, decide_eq_false_iff_not, Bool.not_eq_true', Bool.not_eq_false', Int.not_lt, Int.not_le, Decidable.not_not, beq_iff_eq, bne_iff_ne, ne_eq, beq_eq_false_iff_ne, WA.wd] at h888
            exact absurd (nSettled_iff.2 (hSt_1 h887 (by omega))) (by rw [h888]; decide)
          · try simp only [decide_eq_true_eq, decide_eq_false_iff_not, Bool.not_eq_true', Bool.not_eq_false', Int.not_lt, Int.not_le, Decidable.not_not, beq_iff_eq, bne_iff_ne, ne_eq, beq_eq_false_iff_ne, WA.wd] at h888
            refine c_skip ?_
            refine c_region ?_
            refine o_T (y_move rfl) rfl ?_
            refine o_T (y_add rfl rfl (w64 (by omega))) rfl ?_
            refine o_L (y_assign rfl) rfl rfl ?_
            refine o_nil0 rfl ?_
            refine ⟨(j1 + 1, ⟨y_1, V_3, kn_1, gh_2, gq_2, gw_2, gn_3, gs_3, gr_3, gi_3, go_2, gm_2⟩), ⟨⟨by dsimp only; omega, by dsimp only; omega, hL_1, by dsimp only; omega, W_2⟩, by dsimp only; omega⟩, ⟨gteI rfl (by dsimp only; omega), trivial⟩, ⟨rfl, rfl⟩, _, ((s_take (s_take (s_take (s_take (s_take (s_take (s_take (s_take (s_take (s_take (s_take s_nil))))))))))))⟩
        · try simp only [decide_eq_true_eq, decide_eq_false_iff_not, Bool.not_eq_true', Bool.not_eq_false', Int.not_lt, Int.not_le, Decidable.not_not, beq_iff_eq, bne_iff_ne, ne_eq, beq_eq_false_iff_ne, WA.wd] at h887_1
          refine c_skip ?_
          refine c_region ?_
          refine o_T (y_move rfl) rfl ?_
          refine o_T (y_add rfl rfl (w64 (by omega))) rfl ?_
          refine o_L (y_assign rfl) rfl rfl ?_
          refine o_nil0 rfl ?_
          refine ⟨(j1 + 1, ⟨y_1, V_3, kn_1, gh_2, gq_2, gw_2, gn_3, gs_3, gr_3, gi_3, go_2, gm_2⟩), ⟨⟨by dsimp only; omega, by dsimp only; omega, hL_1, by dsimp only; omega, W_2⟩, by dsimp only; omega⟩, ⟨gteI rfl (by dsimp only; omega), trivial⟩, ⟨rfl, rfl⟩, _, ((s_take (s_take (s_take (s_take (s_take (s_take (s_take (s_take (s_take (s_take (s_take s_nil))))))))))))⟩
      · try simp only [decide_eq_true_eq, decide_eq_false_iff_not, Bool.not_eq_true', Bool.not_eq_false', Int.not_lt, Int.not_le, Decidable.not_not, beq_iff_eq, bne_iff_ne, ne_eq, beq_eq_false_iff_ne, WA.wd] at h887
        refine o_pass rfl rfl rfl rfl rfl ?_
        refine o_pass rfl rfl rfl rfl rfl ?_
        refine o_pass rfl rfl rfl rfl rfl ?_
        refine o_pass rfl rfl rfl rfl rfl ?_
        refine o_pass rfl rfl rfl rfl rfl ?_
        refine o_T (y_pickF rfl rfl) rfl ?_
        refine o_nil1 39 rfl rfl ?_
        refine c_condF rfl ?_
        refine c_skip ?_
        refine c_region ?_
        refine o_T (y_move rfl) rfl ?_
        refine o_T (y_add rfl rfl (w64 (by omega))) rfl ?_
        refine o_L (y_assign rfl) rfl rfl ?_
        refine o_nil0 rfl ?_
        refine ⟨(j1 + 1, ⟨y_1, V_3, kn_1, gh_2, gq_2, gw_2, gn_3, gs_3, gr_3, gi_3, go_2, gm_2⟩), ⟨⟨by dsimp only; omega, by dsimp only; omega, hL_1, by dsimp only; omega, W_2⟩, by dsimp only; omega⟩, ⟨gteI rfl (by dsimp only; omega), trivial⟩, ⟨rfl, rfl⟩, _, ((s_take (s_take (s_take (s_take (s_take (s_take (s_take (s_take (s_take (s_take (s_take s_nil))))))))))))⟩
    · try simp only [decide_eq_true_eq, decide_eq_false_iff_not, Bool.not_eq_true', Bool.not_eq_false', Int.not_lt, Int.not_le, Decidable.not_not, beq_iff_eq, bne_iff_ne, ne_eq, beq_eq_false_iff_ne, WA.wd] at h883_1
      refine c_exit ?_
      refine c_seq ?_
      refine c_region ?_
      refine o_L (y_assign rfl) rfl rfl ?_
      refine o_nil0 rfl ?_
      refine c_ret ?_
      refine fun aX wX heX hsX => ret1 Tryz.results10 heX rfl (s_skip (s_skip (s_skip (s_skip (s_skip (s_skip (s_skip (s_skip (s_skip (s_skip (s_take s_nil))))))))))) ?_
      exact ⟨rfl, rfl⟩
  · try simp only [decide_eq_true_eq, decide_eq_false_iff_not, Bool.not_eq_true', Bool.not_eq_false', Int.not_lt, Int.not_le, Decidable.not_not, beq_iff_eq, bne_iff_ne, ne_eq, beq_eq_false_iff_ne, WA.wd] at h883
    refine o_pass rfl rfl rfl rfl rfl ?_
    refine o_pass rfl rfl rfl rfl rfl ?_
    refine o_T (y_pickF rfl rfl) rfl ?_
    refine o_nil1 16 rfl rfl ?_
    refine c_condF rfl ?_
    refine c_exit ?_
    refine c_seq ?_
    refine c_region ?_
    refine o_L (y_assign rfl) rfl rfl ?_
    refine o_nil0 rfl ?_
    refine c_ret ?_
    refine fun aX wX heX hsX => ret1 Tryz.results10 heX rfl (s_skip (s_skip (s_skip (s_skip (s_skip (s_skip (s_skip (s_skip (s_skip (s_skip (s_take s_nil))))))))))) ?_
    exact ⟨rfl, rfl⟩

/-- e2e/towerlaw.RefinesWork -/
theorem t5 (p : Option Addr) (n cap : Nat) (g : List Chunk) (hS : ScrP p n g) (hn : n ≤ 9223372036854775807) : Trip Tryz.prog 5 #[.slice p n cap] [g] (fun u S' => u = .bool true ∧ S' = [g]) := by
  refine fn_entry (args := [.slice p n cap]) Tryz.func5 rfl Tryz.ntmps5 rfl (fun w0 => ?_)
  refine c_seq ?_
  refine c_region ?_
  refine o_L (y_assign rfl) rfl rfl ?_
  refine o_nil0 rfl ?_
  refine c_seq ?_
  refine c_region ?_
  refine o_T (y_move rfl) rfl ?_
  refine o_call en_10 rfl (t10 p n cap g hS hn) (s_take s_nil) rfl ?_
  rintro v S' ⟨rfl, rfl⟩
  refine o_T (y_eql rfl rfl) rfl ?_
  refine o_L (y_assign rfl) rfl rfl ?_
  refine o_nil0 rfl ?_
  refine c_ret ?_
  refine fun aX wX heX hsX => ret1 Tryz.results5 heX rfl (s_take s_nil) ?_
  exact ⟨rfl, rfl⟩

end Go.Proofs.Qxb6500351aGreat
