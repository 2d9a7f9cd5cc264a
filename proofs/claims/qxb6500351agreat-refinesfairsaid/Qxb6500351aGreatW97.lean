/- MADE BY PROGRAM (tools/gen.py over tools/specsw.py): walks. -/
import Derived.Test.Qxb6500351aGreatFacts
import Derived.Test.Qxb6500351aGreatRp14
import Derived.Test.Qxb6500351aGreatW94
import Derived.Test.Qxb6500351aGreatW96
set_option linter.unusedVariables false
set_option linter.unusedSimpArgs false
namespace Go.Proofs.Qxb6500351aGreat
open Go.Eng
set_option maxRecDepth 20000
set_option maxHeartbeats 4000000
attribute [local irreducible] Hst.ent Hst.err Hst.infoC
/-- e2e/towerlaw.walk -/
theorem t9 (p : Option Addr) (n cap : Nat) (g : List Chunk) (hS : ScrP p n g) (hn : n ≤ 9223372036854775807) (st q : Bool) : Trip Tryz.prog 9 #[.slice p n cap, .bool st, .bool q] [g] (fun u S' => ∃ y, u = .tuple #[.int .i64 (-1), y] ∧ S' = [g]) := by
  refine fn_entry (args := [.slice p n cap, .bool st, .bool q]) Tryz.func9 rfl Tryz.ntmps9 rfl (fun w0 => ?_)
  refine c_seq ?_
  refine c_region ?_
  refine o_L (y_assign rfl) rfl rfl ?_
  refine o_L (y_assign rfl) rfl rfl ?_
  refine o_nil0 rfl ?_
  refine c_seq ?_
  refine c_region ?_
  refine o_T (y_move rfl) rfl ?_
  refine o_call en_13 rfl (t13 q) s_nil rfl ?_
  rintro v S' ⟨A_1, rfl, V_1, gh_1, gq_1, gw_1, gn_1, gs_1, gr_1, gi_1, go_1, gm_1, W_1, hc_1, rfl⟩
  refine o_L (y_assign rfl) rfl rfl ?_
  refine o_nil0 rfl ?_
  refine c_seq ?_
  refine c_seq ?_
  obtain ⟨zN, hLz, hLk, hZN⟩ := LawK.first.stay (by omega)
  refine c_region ?_
  refine o_T (y_move rfl) rfl ?_
  refine o_call en_14 rfl (t14L A_1 q V_1 hLz hLk W_1.h W_1.n W_1.s W_1.r W_1.i (by omega)) (s_take (s_take (s_skip (s_skip (s_take (s_take (s_take (s_take s_nil)))))))) rfl ?_
  rintro v S' ⟨rfl, V_2, gn_2, gs_2, gr_2, gi_2, hV_1, hn_1, hs_1, hr_1, hi_1, rfl⟩
  refine o_T (y_not rfl) rfl ?_
  refine o_nil1 15 rfl rfl ?_
  refine c_condF rfl ?_
  refine c_skip ?_
  refine c_seq ?_
  refine c_seq ?_
  have W1 : WG A_1 q zN V_2 200 gh_1 gq_1 gw_1 gn_2 gs_2 gr_2 gi_2 go_1 gm_1 := ⟨by rw [hLz.keeps.1]; exact W_1.h, by rw [hLz.keeps.1]; exact W_1.q, by rw [hLz.keeps.2.2.1]; exact W_1.w, hn_1, hs_1, hr_1, hi_1.mono (by omega), by rw [hV_1.1]; exact W_1.o.mono (by omega), by rw [hV_1.2.1]; exact W_1.m.mono (by omega)⟩
  refine c_region ?_
  refine o_L (y_assign rfl) rfl rfl ?_
  refine o_nil0 rfl ?_
  refine c_block ?_
  refine c_loopG (ι := Nat × WS) (fun i => [(9, .int .i64 (i.1 : Int))]) (fun i => [[(A_1.b, .cells (A_1.wd q i.2.x i.2.V).enc 53 (0, 0))], i.2.gh, i.2.gq, i.2.gw, i.2.gn, i.2.gs, i.2.gr, i.2.gi, i.2.go, i.2.gm]) (fun i => i.1 ≤ n ∧ i.1 ≤ 1048576 ∧ LawK i.2.x i.2.k ∧ i.2.k ≤ 1 + 7800 * i.1 ∧ WG A_1 q i.2.x i.2.V (200 * i.2.k) i.2.gh i.2.gq i.2.gw i.2.gn i.2.gs i.2.gr i.2.gi i.2.go i.2.gm) (fun i => n - i.1) (0, ⟨zN, V_2, 1, gh_1, gq_1, gw_1, gn_2, gs_2, gr_2, gi_2, go_1, gm_1⟩) (by exact ⟨by dsimp only; omega, by dsimp only; omega, hZN, by dsimp only; omega, W1⟩) ⟨gteI rfl (by dsimp only; omega), trivial⟩ (s_get k0 (s_get k0 (s_get (ks (ks (ks (ks k0)))) (s_get (ks (ks (ks (ks k0)))) (s_get k0 (s_get k0 (s_get k0 (s_get k0 (s_get k0 (s_get k0 (s_get k0 s_nil))))))))))) ?_
  rintro ⟨j1, x1, V1, k1, gh1, gq1, gw1, gn1, gs1, gr1, gi1, go1, gm1⟩ ⟨f1, f2, L1, f3, W1_⟩
  try dsimp only [List.cons_append, List.nil_append] at *
  refine c_seq ?_
  refine c_seq ?_
  refine c_region ?_
  refine o_T (y_move rfl) rfl ?_
  refine o_T (y_move rfl) rfl ?_
  refine o_T (y_len Tryz.underlying22 rfl) rfl ?_
  refine o_T (y_lss rfl rfl) rfl ?_
  refine o_T (y_move rfl) rfl ?_
  refine o_split 20 rfl (fun h837 => ?_) (fun h837 => ?_)
  · try simp only [decide_eq_true_eq, decide_eq_false_iff_not, Bool.not_eq_true', Bool.not_eq_false', Int.not_lt, Int.not_le, Decidable.not_not, beq_iff_eq, bne_iff_ne, ne_eq, beq_eq_false_iff_ne, WA.wd] at h837
    refine o_take rfl rfl rfl ?_
    refine o_T (y_move rfl) rfl ?_
    refine o_take rfl rfl rfl ?_
    refine o_T (y_lss rfl rfl) rfl ?_
    refine o_T (y_pickT rfl rfl) rfl ?_
    refine o_nil1 23 rfl rfl ?_
    refine c_cond rfl (fun h837_1 => ?_) (fun h837_1 => ?_)
    · try simp only [decide_eq_true_eq, decide_eq_false_iff_not, Bool.not_eq_true', Bool.not_eq_false', Int.not_lt, Int.not_le, Decidable.not_not, beq_iff_eq, bne_iff_ne, ne_eq, beq_eq_false_iff_ne, WA.wd] at h837_1
      refine c_skip ?_
      refine c_seq ?_
      refine c_block ?_
      refine c_seq ?_
      obtain ⟨bs, os_, cs, tsc, fz, e1, e2, hE⟩ := hS (by omega)
      subst e1 e2
      obtain ⟨kd, oa, ob, oc, os, ot, hcs, hob, hos⟩ := hE j1 (by omega)
      refine c_region ?_
      refine o_T (y_move rfl) rfl ?_
      refine o_T (y_move rfl) rfl ?_
      refine o_T (y_move rfl) rfl ?_
      refine o_T (y_is sl_22 rfl rfl (by omega) (by omega)) rfl ?_
      refine o_lda ag_32 rfl (ms (ms (ms (ms (ms (ms (ms (ms (ms (ms m0)))))))))) (hcs _ (by omega)).1 (hcs _ (by omega)).2 rfl ?_
      refine o_T (y_move rfl) rfl ?_
      refine o_call en_15 rfl (t15 A_1 q x1 V1 k1 _ _ _ _ _ _ _ _ _ W1_ L1 (by omega) kd oa ob oc os ot hob hos st) (s_take (s_take (s_take (s_take (s_take (s_take (s_take (s_take (s_take (s_take s_nil)))))))))) rfl ?_
      rintro v S' ⟨rfl, y_1, kn_1, hk_1, hL_1, cm_1, V_3, gh_2, gq_2, gw_2, gn_3, gs_3, gr_3, gi_3, go_2, gm_2, W_2, hc_2, rfl⟩
      refine o_T (y_not rfl) rfl ?_
      refine o_nil1 33 rfl rfl ?_
      refine c_condF rfl ?_
      refine c_skip ?_
      refine c_region ?_
      refine o_T (y_move rfl) rfl ?_
      refine o_T (y_add rfl rfl (w64 (by omega))) rfl ?_
      refine o_L (y_assign rfl) rfl rfl ?_
      refine o_nil0 rfl ?_
      refine ⟨(j1 + 1, ⟨y_1, V_3, kn_1, gh_2, gq_2, gw_2, gn_3, gs_3, gr_3, gi_3, go_2, gm_2⟩), ⟨⟨by dsimp only; omega, by dsimp only; omega, hL_1, by dsimp only; omega, W_2⟩, by dsimp only; omega⟩, ⟨gteI rfl (by dsimp only; omega), trivial⟩, ⟨rfl, rfl⟩, _, ((s_take (s_take (s_take (s_take (s_take (s_take (s_take (s_take (s_take (s_take (s_take s_nil))))))))))))⟩
    · try simp only [decide_eq_true_eq, decide_eq_false_iff_not, Bool.not_eq_true', Bool.not_eq_false', Int.not_lt, Int.not_le, Decidable.not_not, beq_iff_eq, bne_iff_ne, ne_eq, beq_eq_false_iff_ne, WA.wd] at h837_1
      refine c_exit ?_
      refine c_seq ?_
      refine c_region ?_
      refine o_T (y_move rfl) rfl ?_
      refine o_T (y_len Tryz.underlying22 rfl) rfl ?_
      refine o_L (y_assign rfl) rfl rfl ?_
      refine o_nil0 rfl ?_
      refine c_seq ?_
      refine c_seq ?_
      refine c_region ?_
      refine o_T (y_move rfl) rfl ?_
      refine o_T (y_gtr rfl rfl) rfl ?_
      refine o_nil1 39 rfl rfl ?_
      refine c_cond rfl (fun h843 => ?_) (fun h843 => ?_)
      · try simp only [decide_eq_true_eq, decide_eq_false_iff_not, Bool.not_eq_true', Bool.not_eq_false', Int.not_lt, Int.not_le, Decidable.not_not, beq_iff_eq, bne_iff_ne, ne_eq, beq_eq_false_iff_ne, WA.wd] at h843
        refine c_region ?_
        refine o_L (y_assign rfl) rfl rfl ?_
        refine o_nil0 rfl ?_
        refine c_seq ?_
        refine c_seq ?_
        refine c_region ?_
        refine o_T (y_move rfl) rfl ?_
        refine o_call en_16 rfl (i16 W1_ (by omega)) (s_take (s_take (s_take (s_take (s_take (s_take (s_take (s_take (s_take (s_take s_nil)))))))))) rfl ?_
        rintro v S' ⟨rfl, rfl⟩
        refine o_T (y_not rfl) rfl ?_
        refine o_nil1 42 rfl rfl ?_
        refine c_condF rfl ?_
        refine c_skip ?_
        refine c_seq ?_
        refine c_region ?_
        refine o_T (y_move rfl) rfl ?_
        refine o_L (y_assign rfl) rfl rfl ?_
        refine o_L (y_assign rfl) rfl rfl ?_
        refine o_nil0 rfl ?_
        refine c_ret ?_
        refine fun aX wX heX hsX => ret2 Tryz.results9 heX rfl rfl (s_skip (s_skip (s_skip (s_skip (s_skip (s_skip (s_take s_nil))))))) ?_
        exact ⟨_, rfl, rfl⟩
      · try simp only [decide_eq_true_eq, decide_eq_false_iff_not, Bool.not_eq_true', Bool.not_eq_false', Int.not_lt, Int.not_le, Decidable.not_not, beq_iff_eq, bne_iff_ne, ne_eq, beq_eq_false_iff_ne, WA.wd] at h843
        refine c_skip ?_
        refine c_seq ?_
        refine c_seq ?_
        refine c_region ?_
        refine o_T (y_move rfl) rfl ?_
        refine o_call en_16 rfl (i16 W1_ (by omega)) (s_take (s_take (s_take (s_take (s_take (s_take (s_take (s_take (s_take (s_take s_nil)))))))))) rfl ?_
        rintro v S' ⟨rfl, rfl⟩
        refine o_T (y_not rfl) rfl ?_
        refine o_nil1 42 rfl rfl ?_
        refine c_condF rfl ?_
        refine c_skip ?_
        refine c_seq ?_
        refine c_region ?_
        refine o_T (y_move rfl) rfl ?_
        refine o_L (y_assign rfl) rfl rfl ?_
        refine o_L (y_assign rfl) rfl rfl ?_
        refine o_nil0 rfl ?_
        refine c_ret ?_
        refine fun aX wX heX hsX => ret2 Tryz.results9 heX rfl rfl (s_skip (s_skip (s_skip (s_skip (s_skip (s_skip (s_take s_nil))))))) ?_
        exact ⟨_, rfl, rfl⟩
  · try simp only [decide_eq_true_eq, decide_eq_false_iff_not, Bool.not_eq_true', Bool.not_eq_false', Int.not_lt, Int.not_le, Decidable.not_not, beq_iff_eq, bne_iff_ne, ne_eq, beq_eq_false_iff_ne, WA.wd] at h837
    refine o_pass rfl rfl rfl rfl rfl ?_
    refine o_pass rfl rfl rfl rfl rfl ?_
    refine o_T (y_pickF rfl rfl) rfl ?_
    refine o_nil1 23 rfl rfl ?_
    refine c_condF rfl ?_
    refine c_exit ?_
    refine c_seq ?_
    refine c_region ?_
    refine o_T (y_move rfl) rfl ?_
    refine o_T (y_len Tryz.underlying22 rfl) rfl ?_
    refine o_L (y_assign rfl) rfl rfl ?_
    refine o_nil0 rfl ?_
    refine c_seq ?_
    refine c_seq ?_
    refine c_region ?_
    refine o_T (y_move rfl) rfl ?_
    refine o_T (y_gtr rfl rfl) rfl ?_
    refine o_nil1 39 rfl rfl ?_
    refine c_cond rfl (fun h843 => ?_) (fun h843 => ?_)
    · try simp only [decide_eq_true_eq, decide_eq_false_iff_not, Bool.not_eq_true', Bool.not_eq_false', Int.not_lt, Int.not_le, Decidable.not_not, beq_iff_eq, bne_iff_ne, ne_eq, beq_eq_false_iff_ne, WA.wd] at h843
      refine c_region ?_
      refine o_L (y_assign rfl) rfl rfl ?_
      refine o_nil0 rfl ?_
      refine c_seq ?_
      refine c_seq ?_
      refine c_region ?_
      refine o_T (y_move rfl) rfl ?_
      refine o_call en_16 rfl (i16 W1_ (by omega)) (s_take (s_take (s_take (s_take (s_take (s_take (s_take (s_take (s_take (s_take s_nil)))))))))) rfl ?_
      rintro v S' ⟨rfl, rfl⟩
      refine o_T (y_not rfl) rfl ?_
      refine o_nil1 42 rfl rfl ?_
      refine c_condF rfl ?_
      refine c_skip ?_
      refine c_seq ?_
      refine c_region ?_
      refine o_T (y_move rfl) rfl ?_
      refine o_L (y_assign rfl) rfl rfl ?_
      refine o_L (y_assign rfl) rfl rfl ?_
      refine o_nil0 rfl ?_
      refine c_ret ?_
      refine fun aX wX heX hsX => ret2 Tryz.results9 heX rfl rfl (s_skip (s_skip (s_skip (s_skip (s_skip (s_skip (s_take s_nil))))))) ?_
      exact ⟨_, rfl, rfl⟩
    · try simp only [decide_eq_true_eq, decide_eq_false_iff_not, Bool.not_eq_true', Bool.not_eq_false', Int.not_lt, Int.not_le, Decidable.not_not, beq_iff_eq, bne_iff_ne, ne_eq, beq_eq_false_iff_ne, WA.wd] at h843
      refine c_skip ?_
      refine c_seq ?_
      refine c_seq ?_
      refine c_region ?_
      refine o_T (y_move rfl) rfl ?_
      refine o_call en_16 rfl (i16 W1_ (by omega)) (s_take (s_take (s_take (s_take (s_take (s_take (s_take (s_take (s_take (s_take s_nil)))))))))) rfl ?_
      rintro v S' ⟨rfl, rfl⟩
      refine o_T (y_not rfl) rfl ?_
      refine o_nil1 42 rfl rfl ?_
      refine c_condF rfl ?_
      refine c_skip ?_
      refine c_seq ?_
      refine c_region ?_
      refine o_T (y_move rfl) rfl ?_
      refine o_L (y_assign rfl) rfl rfl ?_
      refine o_L (y_assign rfl) rfl rfl ?_
      refine o_nil0 rfl ?_
      refine c_ret ?_
      refine fun aX wX heX hsX => ret2 Tryz.results9 heX rfl rfl (s_skip (s_skip (s_skip (s_skip (s_skip (s_skip (s_take s_nil))))))) ?_
      exact ⟨_, rfl, rfl⟩

end Go.Proofs.Qxb6500351aGreat
