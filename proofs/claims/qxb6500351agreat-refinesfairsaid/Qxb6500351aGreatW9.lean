/- MADE BY PROGRAM (tools/gen.py over tools/specs351.py): walks. -/
import Derived.Test.Qxb6500351aGreatFacts
import Derived.Test.Qxb6500351aGreatW8
set_option linter.unusedVariables false
set_option linter.unusedSimpArgs false
namespace Go.Proofs.Qxb6500351aGreat
open Go.Eng
set_option maxRecDepth 20000
set_option maxHeartbeats 4000000
/-- (*e2e/conn.Conn).inSync -/
theorem t195 (b ps pr : Nat) (x : Cs) (s : Sb) (r : Rb) (b2 : Nat) (g : Seg) (ok : Conn.Ok ⟨x, s, r⟩) (hg : g.Ok) : Trip Tryz.prog 195 #[.pointer (some ⟨b, 0, none⟩), .agg (segC b2 g).enc] [[(b, .cells (x.cn ps pr).enc 167 (0, 0))], [(ps, .cells s.enc 162 (0, 0))], [(pr, .cells r.enc 165 (0, 0))], byG b2 g.data 5] (fun u S' => ∃ gv gd, Segs u (((⟨x, s, r⟩ : Conn).inSync g).2) gv gd ∧ S' = [gv, gd, [(b, .cells ((((⟨x, s, r⟩ : Conn).inSync g).1).x.cn ps pr).enc 167 (0, 0))], [(ps, .cells (((⟨x, s, r⟩ : Conn).inSync g).1).s.enc 162 (0, 0))], [(pr, .cells (((⟨x, s, r⟩ : Conn).inSync g).1).r.enc 165 (0, 0))], byG b2 g.data 5] ∧ (((⟨x, s, r⟩ : Conn).inSync g).1).Ok) := by
  have ok0 := ok
  have okS : s.Ok := ok.s
  have okR : r.Ok := ok.r
  obtain ⟨x1, x2, x3, x4, x5, x6, x7⟩ := ok.x
  obtain ⟨k1, k2, k3, k4, k5, k6, k7, k8⟩ := ok.s
  obtain ⟨j1, j2, j3, j4, j5, j6, j7, j8⟩ := ok.r
  dsimp only at x1 x2 x3 x4 x5 x6 x7 k1 k2 k3 k4 k5 k6 k7 k8 j1 j2 j3 j4 j5 j6 j7 j8
  have hfl := hg.flags
  have hw := window_b g.wnd
  have hsd := seqDiff_b g.seq (⟨x, s, r⟩ : Conn).rcvNxt
  have hln := hg.len
  refine fn_entry (args := [.pointer (some ⟨b, 0, none⟩), .agg (segC b2 g).enc]) Tryz.func195 rfl Tryz.ntmps195 rfl (fun w0 => ?_)
  refine c_seq ?_
  refine c_region ?_
  refine o_box rfl rfl rfl rfl (fun b_1 => ?_)
  refine o_L (y_assign rfl) rfl rfl ?_
  refine o_nil0 rfl ?_
  refine c_seq ?_
  refine c_region ?_
  refine o_lbs0 (R := segR) sz_185 rfl (fun v_1 gv_1 hl_1 => ?_)
  refine o_L (y_assign rfl) rfl rfl ?_
  refine o_nil0 rfl ?_
  refine c_seq ?_
  refine c_seq ?_
  refine c_region ?_
  refine o_T (y_fa fl_178_4 rfl) rfl ?_
  refine o_ld one_3 rfl (ms (ms m0)) Sg.g4 rfl ?_
  refine o_T (y_and rfl rfl (fl8 hg.flags)) rfl ?_
  refine o_T (y_neq rfl rfl) rfl ?_
  refine o_nil1 19 rfl rfl ?_
  refine c_cond rfl (fun h107 => ?_) (fun h107 => ?_)
  · try simp only [decide_eq_true_eq, decide_eq_false_iff_not, Bool.not_eq_true', Bool.not_eq_false', Int.not_lt, Int.not_le, Decidable.not_not, beq_iff_eq, bne_iff_ne, ne_eq, beq_eq_false_iff_ne] at h107
    refine c_seq ?_
    refine c_region ?_
    refine o_T (y_move rfl) rfl ?_
    refine o_callrv en_109 rfl (t109 _ ps pr x _ _ ok0) (s_skip (s_skip (s_skip (s_take (s_take (s_take s_nil)))))) rfl ?_
    refine o_L (y_assign rfl) rfl rfl ?_
    refine o_nil0 rfl ?_
    refine c_seq ?_
    refine c_region ?_
    refine o_T (y_fa fl_178_2 rfl) rfl ?_
    refine o_ld one_3 rfl (ms (ms m0)) Sg.g2 rfl ?_
    refine o_T (y_move rfl) rfl ?_
    refine o_callv en_212 rfl (t212 _ _) rfl ?_
    refine o_L (y_assign rfl) rfl rfl ?_
    refine o_nil0 rfl ?_
    refine c_seq ?_
    refine c_seq ?_
    refine c_region ?_
    refine o_T (y_move rfl) rfl ?_
    refine o_T (y_geq rfl rfl) rfl ?_
    refine o_T (y_move rfl) rfl ?_
    refine o_split 28 rfl (fun h110 => ?_) (fun h110 => ?_)
    · try simp only [decide_eq_true_eq, decide_eq_false_iff_not, Bool.not_eq_true', Bool.not_eq_false', Int.not_lt, Int.not_le, Decidable.not_not, beq_iff_eq, bne_iff_ne, ne_eq, beq_eq_false_iff_ne] at h110
      refine o_take rfl rfl rfl ?_
      refine o_T (y_move rfl) rfl ?_
      refine o_take rfl rfl rfl ?_
      refine o_T (y_leq rfl rfl) rfl ?_
      refine o_T (y_pickT rfl rfl) rfl ?_
      refine o_nil1 31 rfl rfl ?_
      refine c_cond rfl (fun h110_1 => ?_) (fun h110_1 => ?_)
      · try simp only [decide_eq_true_eq, decide_eq_false_iff_not, Bool.not_eq_true', Bool.not_eq_false', Int.not_lt, Int.not_le, Decidable.not_not, beq_iff_eq, bne_iff_ne, ne_eq, beq_eq_false_iff_ne] at h110_1
        refine c_region ?_
        refine o_T (y_move rfl) rfl ?_
        refine o_call en_166 rfl (t166 _ ps pr x _ _ _ ok0) (s_skip (s_skip (s_skip (s_take (s_take (s_take s_nil)))))) rfl ?_
        rintro v S' ⟨rfl, rfl, hk_1⟩
        have hk_1_s := hk_1.s
        have hk_1_r := hk_1.r
        obtain ⟨hk_1_x1, hk_1_x2, hk_1_x3, hk_1_x4, hk_1_x5, hk_1_x6, hk_1_x7⟩ := hk_1.x
        try dsimp only at hk_1_s hk_1_r
        refine o_nil0 rfl ?_
        refine c_seq ?_
        refine c_region ?_
        refine o_T (y_move rfl) rfl ?_
        refine o_L (y_assign rfl) rfl rfl ?_
        refine o_nil0 rfl ?_
        refine c_ret ?_
        refine fun aX wX heX hsX => ret1 Tryz.results195 heX rfl (s_get (ks (ks (ks k0))) (s_get (ks (ks (ks k0))) (s_get k0 (s_get k0 (s_get k0 (s_get (ks k0) s_nil)))))) ?_
        first | (exfalso; omega) | (have ok9 := (Conn.ok_inSync ok0 hg).1; have e1 := inSync_rst1 (c := (⟨x, s, r⟩ : Conn)) (s := g) (by omega) (by omega) (by omega); rw [e1] at ok9 ⊢; exact ⟨_, _, hl_1, rfl, ok9⟩)
      · try simp only [decide_eq_true_eq, decide_eq_false_iff_not, Bool.not_eq_true', Bool.not_eq_false', Int.not_lt, Int.not_le, Decidable.not_not, beq_iff_eq, bne_iff_ne, ne_eq, beq_eq_false_iff_ne] at h110_1
        refine c_skip ?_
        refine c_seq ?_
        refine c_region ?_
        refine o_T (y_move rfl) rfl ?_
        refine o_L (y_assign rfl) rfl rfl ?_
        refine o_nil0 rfl ?_
        refine c_ret ?_
        refine fun aX wX heX hsX => ret1 Tryz.results195 heX rfl (s_take (s_take (s_skip (s_take (s_take (s_take (s_take s_nil))))))) ?_
        first | (exfalso; omega) | (have ok9 := (Conn.ok_inSync ok0 hg).1; have e1 := inSync_rst0 (c := (⟨x, s, r⟩ : Conn)) (s := g) (by omega) (by omega); rw [e1] at ok9 ⊢; exact ⟨_, _, hl_1, rfl, ok9⟩)
    · try simp only [decide_eq_true_eq, decide_eq_false_iff_not, Bool.not_eq_true', Bool.not_eq_false', Int.not_lt, Int.not_le, Decidable.not_not, beq_iff_eq, bne_iff_ne, ne_eq, beq_eq_false_iff_ne] at h110
      refine o_pass rfl rfl rfl rfl rfl ?_
      refine o_pass rfl rfl rfl rfl rfl ?_
      refine o_T (y_pickF rfl rfl) rfl ?_
      refine o_nil1 31 rfl rfl ?_
      refine c_condF rfl ?_
      refine c_skip ?_
      refine c_seq ?_
      refine c_region ?_
      refine o_T (y_move rfl) rfl ?_
      refine o_L (y_assign rfl) rfl rfl ?_
      refine o_nil0 rfl ?_
      refine c_ret ?_
      refine fun aX wX heX hsX => ret1 Tryz.results195 heX rfl (s_take (s_take (s_skip (s_take (s_take (s_take (s_take s_nil))))))) ?_
      first | (exfalso; omega) | (have ok9 := (Conn.ok_inSync ok0 hg).1; have e1 := inSync_rst0 (c := (⟨x, s, r⟩ : Conn)) (s := g) (by omega) (by omega); rw [e1] at ok9 ⊢; exact ⟨_, _, hl_1, rfl, ok9⟩)
  · try simp only [decide_eq_true_eq, decide_eq_false_iff_not, Bool.not_eq_true', Bool.not_eq_false', Int.not_lt, Int.not_le, Decidable.not_not, beq_iff_eq, bne_iff_ne, ne_eq, beq_eq_false_iff_ne] at h107
    refine c_skip ?_
    refine c_seq ?_
    refine c_seq ?_
    refine c_region ?_
    refine o_T (y_fa fl_178_4 rfl) rfl ?_
    refine o_ld one_3 rfl (ms (ms m0)) Sg.g4 rfl ?_
    refine o_T (y_and rfl rfl (fl1 hg.flags)) rfl ?_
    refine o_T (y_neq rfl rfl) rfl ?_
    refine o_nil1 38 rfl rfl ?_
    refine c_cond rfl (fun h115 => ?_) (fun h115 => ?_)
    · try simp only [decide_eq_true_eq, decide_eq_false_iff_not, Bool.not_eq_true', Bool.not_eq_false', Int.not_lt, Int.not_le, Decidable.not_not, beq_iff_eq, bne_iff_ne, ne_eq, beq_eq_false_iff_ne] at h115
      refine c_seq ?_
      refine c_seq ?_
      refine c_region ?_
      refine o_T (y_move rfl) rfl ?_
      refine o_T (y_nilck rfl) rfl ?_
      refine o_T (y_fa fl_167_2 rfl) rfl ?_
      refine o_ld one_3 rfl (ms (ms (ms m0))) Cn.g2 rfl ?_
      refine o_T (y_eql rfl rfl) rfl ?_
      refine o_nil1 43 rfl rfl ?_
      refine c_cond rfl (fun h116 => ?_) (fun h116 => ?_)
      · try simp only [decide_eq_true_eq, decide_eq_false_iff_not, Bool.not_eq_true', Bool.not_eq_false', Int.not_lt, Int.not_le, Decidable.not_not, beq_iff_eq, bne_iff_ne, ne_eq, beq_eq_false_iff_ne] at h116
        refine c_seq ?_
        refine c_region ?_
        refine o_T (y_move rfl) rfl ?_
        refine o_call en_168 rfl (t168 _ ps pr x _ _ ok0) (s_skip (s_skip (s_skip (s_take (s_take (s_take s_nil)))))) rfl ?_
        rintro v S' ⟨b_2, rfl, rfl⟩
        refine o_alloc ze_178 rfl rfl (fun b_3 => ?_)
        refine o_sta ag_178 rfl rfl rfl rfl r0 (setAll_full _ _ rfl) (of_ble rfl) ?_
        refine o_nil0 rfl ?_
        refine c_seq ?_
        refine c_region ?_
        refine o_ldw ag_178 rfl m0 rfl rfl ?_
        refine o_call en_179 rfl (t179 _ _) (s_skip (s_take s_nil)) rfl ?_
        rintro v S' ⟨gv_2, hl_2, rfl⟩
        refine o_L (y_assign rfl) rfl rfl ?_
        refine o_nil0 rfl ?_
        refine c_ret ?_
        refine fun aX wX heX hsX => ret1 Tryz.results195 heX rfl (s_take (s_take (s_skip (s_take (s_take (s_take (s_skip (s_skip (s_skip (s_take s_nil)))))))))) ?_
        first | (exfalso; omega) | (have ok9 := (Conn.ok_inSync ok0 hg).1; have e1 := inSync_syn2 (c := (⟨x, s, r⟩ : Conn)) (s := g) (by omega) (by omega) (by first | exact h116 | (dsimp only; omega)); rw [e1] at ok9 ⊢; exact ⟨_, _, hl_2, rfl, ok9⟩)
      · try simp only [decide_eq_true_eq, decide_eq_false_iff_not, Bool.not_eq_true', Bool.not_eq_false', Int.not_lt, Int.not_le, Decidable.not_not, beq_iff_eq, bne_iff_ne, ne_eq, beq_eq_false_iff_ne] at h116
        refine c_skip ?_
        refine c_seq ?_
        refine c_region ?_
        refine o_T (y_move rfl) rfl ?_
        refine o_call en_184 rfl (t184 _ ps pr x _ _ ok0) (s_skip (s_skip (s_skip (s_take (s_take (s_take s_nil)))))) rfl ?_
        rintro v S' ⟨b_4, rfl, rfl⟩
        refine o_alloc ze_178 rfl rfl (fun b_5 => ?_)
        refine o_sta ag_178 rfl rfl rfl rfl r0 (setAll_full _ _ rfl) (of_ble rfl) ?_
        refine o_nil0 rfl ?_
        refine c_seq ?_
        refine c_region ?_
        refine o_ldw ag_178 rfl m0 rfl rfl ?_
        refine o_call en_179 rfl (t179 _ _) (s_skip (s_take s_nil)) rfl ?_
        rintro v S' ⟨gv_3, hl_3, rfl⟩
        refine o_L (y_assign rfl) rfl rfl ?_
        refine o_nil0 rfl ?_
        refine c_ret ?_
        refine fun aX wX heX hsX => ret1 Tryz.results195 heX rfl (s_take (s_take (s_skip (s_take (s_take (s_take (s_skip (s_skip (s_skip (s_take s_nil)))))))))) ?_
        first | (exfalso; omega) | (have ok9 := (Conn.ok_inSync ok0 hg).1; have e1 := inSync_syn3 (c := (⟨x, s, r⟩ : Conn)) (s := g) (by omega) (by omega) (by first | exact h116 | (dsimp only; omega)); rw [e1] at ok9 ⊢; exact ⟨_, _, hl_3, rfl, ok9⟩)
    · try simp only [decide_eq_true_eq, decide_eq_false_iff_not, Bool.not_eq_true', Bool.not_eq_false', Int.not_lt, Int.not_le, Decidable.not_not, beq_iff_eq, bne_iff_ne, ne_eq, beq_eq_false_iff_ne] at h115
      refine c_skip ?_
      refine c_seq ?_
      refine c_seq ?_
      refine c_region ?_
      refine o_T (y_fa fl_178_4 rfl) rfl ?_
      refine o_ld one_3 rfl (ms (ms m0)) Sg.g4 rfl ?_
      refine o_T (y_and rfl rfl (fl2 hg.flags)) rfl ?_
      refine o_T (y_eql rfl rfl) rfl ?_
      refine o_nil1 55 rfl rfl ?_
      refine c_cond rfl (fun h123 => ?_) (fun h123 => ?_)
      · try simp only [decide_eq_true_eq, decide_eq_false_iff_not, Bool.not_eq_true', Bool.not_eq_false', Int.not_lt, Int.not_le, Decidable.not_not, beq_iff_eq, bne_iff_ne, ne_eq, beq_eq_false_iff_ne] at h123
        refine c_seq ?_
        refine c_region ?_
        refine o_T (y_move rfl) rfl ?_
        refine o_L (y_assign rfl) rfl rfl ?_
        refine o_nil0 rfl ?_
        refine c_ret ?_
        refine fun aX wX heX hsX => ret1 Tryz.results195 heX rfl (s_take (s_take (s_skip (s_take (s_take (s_take (s_take s_nil))))))) ?_
        first | (exfalso; omega) | (have ok9 := (Conn.ok_inSync ok0 hg).1; have e1 := inSync_noack (c := (⟨x, s, r⟩ : Conn)) (s := g) (by omega) (by omega) (by omega); rw [e1] at ok9 ⊢; exact ⟨_, _, hl_1, rfl, ok9⟩)
      · try simp only [decide_eq_true_eq, decide_eq_false_iff_not, Bool.not_eq_true', Bool.not_eq_false', Int.not_lt, Int.not_le, Decidable.not_not, beq_iff_eq, bne_iff_ne, ne_eq, beq_eq_false_iff_ne] at h123
        refine c_skip ?_
        refine c_seq ?_
        refine c_seq ?_
        refine c_region ?_
        refine o_T (y_move rfl) rfl ?_
        refine o_T (y_nilck rfl) rfl ?_
        refine o_T (y_fa fl_167_2 rfl) rfl ?_
        refine o_ld one_3 rfl (ms (ms (ms m0))) Cn.g2 rfl ?_
        refine o_T (y_eql rfl rfl) rfl ?_
        refine o_nil1 61 rfl rfl ?_
        refine c_cond rfl (fun h126 => ?_) (fun h126 => ?_)
        · try simp only [decide_eq_true_eq, decide_eq_false_iff_not, Bool.not_eq_true', Bool.not_eq_false', Int.not_lt, Int.not_le, Decidable.not_not, beq_iff_eq, bne_iff_ne, ne_eq, beq_eq_false_iff_ne] at h126
          refine c_seq ?_
          refine c_seq ?_
          refine c_draw #[true, true, true, true, true, true, true, true] rfl (n := 8) rfl ?_
          refine d_T 0 rfl (by kernel_rfl) rfl (y_fa fl_178_3 rfl) rfl ?_
          refine d_ld 1 rfl (by kernel_rfl) one_3 rfl (fun x hx => hx) (ms (ms m0)) Sg.g3 rfl ?_
          refine d_T 2 rfl (by kernel_rfl) rfl (y_move rfl) rfl ?_
          refine d_T 3 rfl (by kernel_rfl) rfl (y_nilck rfl) rfl ?_
          refine d_T 4 rfl (by kernel_rfl) rfl (y_fa fl_167_8 rfl) rfl ?_
          refine d_ld 5 rfl (by kernel_rfl) one_3 rfl (fun x hx => hx) (ms (ms (ms m0))) Cn.g8 rfl ?_
          refine d_hard 6 rfl (by kernel_rfl) ?_
          refine o_callv en_143 rfl (t143 _ _) rfl ?_
          refine o_stop (fun _ => (fun x hx => hx)) ?_
          refine d_T 7 rfl (by kernel_rfl) rfl (y_neq rfl rfl) rfl ?_
          refine d_nil1 69 (by kernel_rfl) rfl rfl ?_
          refine c_cond rfl (fun h127 => ?_) (fun h127 => ?_)
          · try simp only [decide_eq_true_eq, decide_eq_false_iff_not, Bool.not_eq_true', Bool.not_eq_false', Int.not_lt, Int.not_le, Decidable.not_not, beq_iff_eq, bne_iff_ne, ne_eq, beq_eq_false_iff_ne] at h127
            refine c_seq ?_
            refine c_region ?_
            refine o_T (y_fa fl_178_3 rfl) rfl ?_
            refine o_ld one_3 rfl (ms (ms m0)) Sg.g3 rfl ?_
            refine o_call en_185 rfl (t185 _) s_nil rfl ?_
            rintro v S' ⟨b_6, rfl, rfl⟩
            refine o_alloc ze_178 rfl rfl (fun b_7 => ?_)
            refine o_sta ag_178 rfl rfl rfl rfl r0 (setAll_full _ _ rfl) (of_ble rfl) ?_
            refine o_nil0 rfl ?_
            refine c_seq ?_
            refine c_region ?_
            refine o_ldw ag_178 rfl m0 rfl rfl ?_
            refine o_call en_179 rfl (t179 _ _) (s_skip (s_take s_nil)) rfl ?_
            rintro v S' ⟨gv_4, hl_4, rfl⟩
            refine o_L (y_assign rfl) rfl rfl ?_
            refine o_nil0 rfl ?_
            refine c_ret ?_
            refine fun aX wX heX hsX => ret1 Tryz.results195 heX rfl (s_take (s_take (s_skip (s_skip (s_skip (s_skip (s_take (s_take (s_take (s_take s_nil)))))))))) ?_
            first | (exfalso; omega) | (have ok9 := (Conn.ok_inSync ok0 hg).1; have e1 := inSync_bad (c := (⟨x, s, r⟩ : Conn)) (s := g) (by omega) (by omega) (by omega) h126 h127; rw [e1] at ok9 ⊢; exact ⟨_, _, hl_4, rfl, ok9⟩)
          · try simp only [decide_eq_true_eq, decide_eq_false_iff_not, Bool.not_eq_true', Bool.not_eq_false', Int.not_lt, Int.not_le, Decidable.not_not, beq_iff_eq, bne_iff_ne, ne_eq, beq_eq_false_iff_ne] at h127
            refine c_skip ?_
            refine c_region ?_
            refine o_T (y_move rfl) rfl ?_
            refine o_call en_211 rfl (t211 _ ps pr x _ _ ok0) (s_skip (s_skip (s_skip (s_take (s_take (s_take s_nil)))))) rfl ?_
            rintro v S' ⟨rfl, rfl, hk_2⟩
            have hk_2_s := hk_2.s
            have hk_2_r := hk_2.r
            obtain ⟨hk_2_x1, hk_2_x2, hk_2_x3, hk_2_x4, hk_2_x5, hk_2_x6, hk_2_x7⟩ := hk_2.x
            try dsimp only at hk_2_s hk_2_r
            refine o_nil0 rfl ?_
            refine c_seq ?_
            refine c_seq ?_
            refine c_region ?_
            refine o_T (y_move rfl) rfl ?_
            refine o_ldw ag_178 rfl (ms (ms (ms (ms (ms m0))))) rfl rfl ?_
            refine o_call en_213 rfl (t213 _ ps pr _ _ _ _ _ hk_2) (s_take (s_take (s_take s_nil))) rfl ?_
            rintro v S' ⟨rfl, rfl, hk_3⟩
            have hk_3_s := hk_3.s
            have hk_3_r := hk_3.r
            obtain ⟨hk_3_x1, hk_3_x2, hk_3_x3, hk_3_x4, hk_3_x5, hk_3_x6, hk_3_x7⟩ := hk_3.x
            try dsimp only at hk_3_s hk_3_r
            refine o_T (y_not rfl) rfl ?_
            refine o_nil1 80 rfl rfl ?_
            refine c_cond rfl (fun h133 => ?_) (fun h133 => ?_)
            · try simp only [decide_eq_true_eq, decide_eq_false_iff_not, Bool.not_eq_true', Bool.not_eq_false', Int.not_lt, Int.not_le, Decidable.not_not, beq_iff_eq, bne_iff_ne, ne_eq, beq_eq_false_iff_ne] at h133
              refine c_seq ?_
              refine c_region ?_
              refine o_T (y_move rfl) rfl ?_
              refine o_call en_184 rfl (t184 _ ps pr _ _ _ hk_3) (s_take (s_take (s_take s_nil))) rfl ?_
              rintro v S' ⟨b_8, rfl, rfl⟩
              refine o_alloc ze_178 rfl rfl (fun b_9 => ?_)
              refine o_sta ag_178 rfl rfl rfl rfl r0 (setAll_full _ _ rfl) (of_ble rfl) ?_
              refine o_nil0 rfl ?_
              refine c_seq ?_
              refine c_region ?_
              refine o_ldw ag_178 rfl m0 rfl rfl ?_
              refine o_call en_179 rfl (t179 _ _) (s_skip (s_take s_nil)) rfl ?_
              rintro v S' ⟨gv_5, hl_5, rfl⟩
              refine o_L (y_assign rfl) rfl rfl ?_
              refine o_nil0 rfl ?_
              refine c_ret ?_
              refine fun aX wX heX hsX => ret1 Tryz.results195 heX rfl (s_take (s_take (s_skip (s_take (s_take (s_take (s_skip (s_skip (s_skip (s_take s_nil)))))))))) ?_
              first | (exfalso; omega) | (have ok9 := (Conn.ok_inSync ok0 hg).1; have e1 := inSync_opened (c := (⟨x, s, r⟩ : Conn)) (s := g) (by omega) (by omega) (by omega) h126 h127; have e2 := inAck_no (c := ((⟨x, s, r⟩ : Conn).opened)) (s := g) h133; rw [e1, e2] at ok9 ⊢; exact ⟨_, _, hl_5, rfl, ok9⟩)
            · try simp only [decide_eq_true_eq, decide_eq_false_iff_not, Bool.not_eq_true', Bool.not_eq_false', Int.not_lt, Int.not_le, Decidable.not_not, beq_iff_eq, bne_iff_ne, ne_eq, beq_eq_false_iff_ne] at h133
              refine c_skip ?_
              refine c_seq ?_
              refine c_region ?_
              refine o_T (y_move rfl) rfl ?_
              refine o_L (y_assign rfl) rfl rfl ?_
              refine o_nil0 rfl ?_
              refine c_seq ?_
              refine c_seq ?_
              refine c_region ?_
              refine o_T (y_fa fl_178_6 rfl) rfl ?_
              refine o_ld one_81 rfl (ms (ms (ms (ms (ms m0))))) Sg.g6 rfl ?_
              refine o_T (y_len Tryz.underlying81 rfl) rfl ?_
              refine o_T (y_gtr rfl rfl) rfl ?_
              refine o_T (y_move rfl) rfl ?_
              refine o_split 90 rfl (fun h138 => ?_) (fun h138 => ?_)
              · try simp only [decide_eq_true_eq, decide_eq_false_iff_not, Bool.not_eq_true', Bool.not_eq_false', Int.not_lt, Int.not_le, Decidable.not_not, beq_iff_eq, bne_iff_ne, ne_eq, beq_eq_false_iff_ne] at h138
                refine o_pass rfl rfl rfl rfl rfl ?_
                refine o_pass rfl rfl rfl rfl rfl ?_
                refine o_pass rfl rfl rfl rfl rfl ?_
                refine o_pass rfl rfl rfl rfl rfl ?_
                refine o_T (y_pickT rfl rfl) rfl ?_
                refine o_nil1 95 rfl rfl ?_
                refine c_condT rfl ?_
                refine c_seq ?_
                refine c_region ?_
                refine o_T (y_move rfl) rfl ?_
                refine o_ldw ag_178 rfl (ms (ms (ms (ms (ms m0))))) rfl rfl ?_
                refine o_call en_214 rfl (t214 _ ps pr _ _ _ _ _ hk_3 hg) (s_take (s_take (s_take (s_skip (s_skip (s_skip (s_take s_nil))))))) rfl ?_
                rintro v S' ⟨rfl, rfl, hk_4⟩
                have hk_4_s := hk_4.s
                have hk_4_r := hk_4.r
                obtain ⟨hk_4_x1, hk_4_x2, hk_4_x3, hk_4_x4, hk_4_x5, hk_4_x6, hk_4_x7⟩ := hk_4.x
                try dsimp only at hk_4_s hk_4_r
                refine o_nil0 rfl ?_
                refine c_seq ?_
                refine c_region ?_
                refine o_T (y_move rfl) rfl ?_
                refine o_call en_184 rfl (t184 _ ps pr _ _ _ hk_4) (s_take (s_take (s_take s_nil))) rfl ?_
                rintro v S' ⟨b_10, rfl, rfl⟩
                refine o_alloc ze_178 rfl rfl (fun b_11 => ?_)
                refine o_sta ag_178 rfl rfl rfl rfl r0 (setAll_full _ _ rfl) (of_ble rfl) ?_
                refine o_nil0 rfl ?_
                refine c_region ?_
                refine o_T (y_move rfl) rfl ?_
                refine o_ldw ag_178 rfl m0 rfl rfl ?_
                refine o_bs1 sz_185 rfl rfl rfl rfl rfl rfl (fun b_12 => ?_)
                refine o_lapp1 sz_185 rfl rfl rfl hl_1 rfl rfl segR.mk (s_get (ks (ks (ks (ks (ks (ks (ks k0))))))) (s_get (ks (ks (ks (ks (ks (ks (ks k0))))))) (s_get k0 (s_get (ks k0) s_nil)))) (by first | omega | (simp only [List.length_append, List.length_cons, List.length_nil]; omega) | (simp <;> omega)) (by first | omega | (simp only [List.length_append, List.length_cons, List.length_nil]; omega) | (simp <;> omega)) rfl (fun v_2 gv_6 hl_6 => ?_)
                refine o_L (y_assign rfl) rfl rfl ?_
                refine o_nil0 rfl ?_
                refine c_seq ?_
                refine c_region ?_
                refine o_T (y_move rfl) rfl ?_
                refine o_call en_169 rfl (t169 _ ps pr _ _ _ hk_4) (s_skip (s_skip (s_skip (s_take (s_take (s_take s_nil)))))) rfl ?_
                rintro v S' ⟨gv_7, gd_1, hl_7, rfl, hk_5, hp_1⟩
                have hk_5_s := hk_5.s
                have hk_5_r := hk_5.r
                obtain ⟨hk_5_x1, hk_5_x2, hk_5_x3, hk_5_x4, hk_5_x5, hk_5_x6, hk_5_x7⟩ := hk_5.x
                try dsimp only at hk_5_s hk_5_r
                refine o_L (y_assign rfl) rfl rfl ?_
                refine o_nil0 rfl ?_
                refine c_seq ?_
                refine c_region ?_
                refine o_T (y_move rfl) rfl ?_
                refine o_T (y_move rfl) rfl ?_
                refine o_lapp sz_185 rfl rfl rfl hl_6 hl_7 segR_plain (s_get (ks (ks (ks (ks (ks k0))))) (s_get (ks (ks (ks (ks (ks k0))))) (s_get k0 (s_get k0 s_nil)))) (lapp_b (by simp) (Nat.le_trans hp_1 (by decide))) (lapp_c (by simp) (Nat.le_trans hp_1 (by decide))) rfl (fun v_3 gv_8 hl_8 => ?_)
                refine o_L (y_assign rfl) rfl rfl ?_
                refine o_nil0 rfl ?_
                refine c_seq ?_
                refine c_seq ?_
                refine c_region ?_
                refine o_T (y_move rfl) rfl ?_
                refine o_T (y_nilck rfl) rfl ?_
                refine o_T (y_fa fl_167_6 rfl) rfl ?_
                refine o_ld one_4 rfl (ms (ms m0)) Cn.g6 rfl ?_
                refine o_T (y_move rfl) rfl ?_
                refine o_split 114 rfl (fun h145 => ?_) (fun h145 => ?_)
                · try simp only [decide_eq_true_eq, decide_eq_false_iff_not, Bool.not_eq_true', Bool.not_eq_false', Int.not_lt, Int.not_le, Decidable.not_not, beq_iff_eq, bne_iff_ne, ne_eq, beq_eq_false_iff_ne] at h145
                  refine o_take rfl rfl rfl ?_
                  refine o_T (y_move rfl) rfl ?_
                  refine o_take rfl rfl rfl ?_
                  refine o_T (y_nilck rfl) rfl ?_
                  refine o_take rfl rfl rfl ?_
                  refine o_T (y_fa fl_167_7 rfl) rfl ?_
                  refine o_take rfl rfl rfl ?_
                  refine o_ld one_4 rfl (ms (ms m0)) Cn.g7 rfl ?_
                  refine o_T (y_pickT rfl rfl) rfl ?_
                  refine o_nil1 119 rfl rfl ?_
                  refine c_cond rfl (fun h145_1 => ?_) (fun h145_1 => ?_)
                  · try simp only [decide_eq_true_eq, decide_eq_false_iff_not, Bool.not_eq_true', Bool.not_eq_false', Int.not_lt, Int.not_le, Decidable.not_not, beq_iff_eq, bne_iff_ne, ne_eq, beq_eq_false_iff_ne] at h145_1
                    refine c_seq ?_
                    refine c_region ?_
                    refine o_T (y_move rfl) rfl ?_
                    refine o_T (y_nilck rfl) rfl ?_
                    refine o_T (y_fa fl_167_2 rfl) rfl ?_
                    refine o_st one_3 rfl rfl rfl (rs (rs r0)) Cn.s2 (of_blt rfl) ?_
                    refine o_nil0 rfl ?_
                    refine c_seq ?_
                    refine c_region ?_
                    refine o_T (y_move rfl) rfl ?_
                    refine o_T (y_nilck rfl) rfl ?_
                    refine o_T (y_fa fl_167_13 rfl) rfl ?_
                    refine o_st one_3 rfl rfl rfl (rs (rs r0)) Cn.s13 (of_blt rfl) ?_
                    refine o_nil0 rfl ?_
                    refine c_seq ?_
                    refine c_region ?_
                    refine o_T (y_move rfl) rfl ?_
                    refine o_T (y_nilck rfl) rfl ?_
                    refine o_T (y_fa fl_167_10 rfl) rfl ?_
                    refine o_st one_3 rfl rfl rfl (rs (rs r0)) Cn.s10 (of_blt rfl) ?_
                    refine o_nil0 rfl ?_
                    refine c_seq ?_
                    refine c_region ?_
                    refine o_T (y_move rfl) rfl ?_
                    refine o_T (y_nilck rfl) rfl ?_
                    refine o_T (y_fa fl_167_11 rfl) rfl ?_
                    refine o_st one_3 rfl rfl rfl (rs (rs r0)) Cn.s11 (of_blt rfl) ?_
                    refine o_nil0 rfl ?_
                    refine c_seq ?_
                    refine c_region ?_
                    refine o_T (y_move rfl) rfl ?_
                    refine o_T (y_nilck rfl) rfl ?_
                    refine o_T (y_fa fl_167_12 rfl) rfl ?_
                    refine o_st one_3 rfl rfl rfl (rs (rs r0)) Cn.s12 (of_blt rfl) ?_
                    refine o_nil0 rfl ?_
                    refine c_region ?_
                    refine o_T (y_move rfl) rfl ?_
                    refine o_T (y_nilck rfl) rfl ?_
                    refine o_T (y_fa fl_167_9 rfl) rfl ?_
                    refine o_st one_3 rfl rfl rfl (rs (rs r0)) Cn.s9 (of_blt rfl) ?_
                    refine o_nil0 rfl ?_
                    refine c_seq ?_
                    refine c_region ?_
                    refine o_T (y_move rfl) rfl ?_
                    refine o_L (y_assign rfl) rfl rfl ?_
                    refine o_nil0 rfl ?_
                    refine c_ret ?_
                    refine fun aX wX heX hsX => ret1 Tryz.results195 heX rfl (s_take (s_take (s_take (s_take (s_take (s_skip (s_take s_nil))))))) ?_
                    first | (exfalso; omega) | (have ok9 := (Conn.ok_inSync ok0 hg).1; have e1 := inSync_opened (c := (⟨x, s, r⟩ : Conn)) (s := g) (by omega) (by omega) (by omega) h126 h127; have e2 := inAck_yes (c := ((⟨x, s, r⟩ : Conn).opened)) (s := g) h133; have e3 := inData_t (c := (((⟨x, s, r⟩ : Conn).opened).acked g).2) (s := g) (by first | exact .inl (by omega) | exact .inr (by omega)); have e4 := goodEnd_t (c := ((((⟨x, s, r⟩ : Conn).opened).acked g).2.take g).pump.1) h145 h145_1; rw [e1, e2, e3, e4] at ok9 ⊢; exact ⟨_, _, hl_8, rfl, ok9⟩)
                  · try simp only [decide_eq_true_eq, decide_eq_false_iff_not, Bool.not_eq_true', Bool.not_eq_false', Int.not_lt, Int.not_le, Decidable.not_not, beq_iff_eq, bne_iff_ne, ne_eq, beq_eq_false_iff_ne] at h145_1
                    refine c_skip ?_
                    refine c_seq ?_
                    refine c_region ?_
                    refine o_T (y_move rfl) rfl ?_
                    refine o_L (y_assign rfl) rfl rfl ?_
                    refine o_nil0 rfl ?_
                    refine c_ret ?_
                    refine fun aX wX heX hsX => ret1 Tryz.results195 heX rfl (s_take (s_take (s_take (s_take (s_take (s_skip (s_take s_nil))))))) ?_
                    first | (exfalso; omega) | (have ok9 := (Conn.ok_inSync ok0 hg).1; have e1 := inSync_opened (c := (⟨x, s, r⟩ : Conn)) (s := g) (by omega) (by omega) (by omega) h126 h127; have e2 := inAck_yes (c := ((⟨x, s, r⟩ : Conn).opened)) (s := g) h133; have e3 := inData_t (c := (((⟨x, s, r⟩ : Conn).opened).acked g).2) (s := g) (by first | exact .inl (by omega) | exact .inr (by omega)); have e4 := goodEnd_f (c := ((((⟨x, s, r⟩ : Conn).opened).acked g).2.take g).pump.1) (fun z => nomatch (h145_1.symm.trans z.2 : false = true)); rw [e1, e2, e3, e4] at ok9 ⊢; exact ⟨_, _, hl_8, rfl, ok9⟩)
                · try simp only [decide_eq_true_eq, decide_eq_false_iff_not, Bool.not_eq_true', Bool.not_eq_false', Int.not_lt, Int.not_le, Decidable.not_not, beq_iff_eq, bne_iff_ne, ne_eq, beq_eq_false_iff_ne] at h145
                  refine o_pass rfl rfl rfl rfl rfl ?_
                  refine o_pass rfl rfl rfl rfl rfl ?_
                  refine o_pass rfl rfl rfl rfl rfl ?_
                  refine o_pass rfl rfl rfl rfl rfl ?_
                  refine o_T (y_pickF rfl rfl) rfl ?_
                  refine o_nil1 119 rfl rfl ?_
                  refine c_condF rfl ?_
                  refine c_skip ?_
                  refine c_seq ?_
                  refine c_region ?_
                  refine o_T (y_move rfl) rfl ?_
                  refine o_L (y_assign rfl) rfl rfl ?_
                  refine o_nil0 rfl ?_
                  refine c_ret ?_
                  refine fun aX wX heX hsX => ret1 Tryz.results195 heX rfl (s_take (s_take (s_take (s_take (s_take (s_skip (s_take s_nil))))))) ?_
                  first | (exfalso; omega) | (have ok9 := (Conn.ok_inSync ok0 hg).1; have e1 := inSync_opened (c := (⟨x, s, r⟩ : Conn)) (s := g) (by omega) (by omega) (by omega) h126 h127; have e2 := inAck_yes (c := ((⟨x, s, r⟩ : Conn).opened)) (s := g) h133; have e3 := inData_t (c := (((⟨x, s, r⟩ : Conn).opened).acked g).2) (s := g) (by first | exact .inl (by omega) | exact .inr (by omega)); have e4 := goodEnd_f (c := ((((⟨x, s, r⟩ : Conn).opened).acked g).2.take g).pump.1) (fun z => nomatch (h145.symm.trans z.1 : false = true)); rw [e1, e2, e3, e4] at ok9 ⊢; exact ⟨_, _, hl_8, rfl, ok9⟩)
              · try simp only [decide_eq_true_eq, decide_eq_false_iff_not, Bool.not_eq_true', Bool.not_eq_false', Int.not_lt, Int.not_le, Decidable.not_not, beq_iff_eq, bne_iff_ne, ne_eq, beq_eq_false_iff_ne] at h138
                refine o_take rfl rfl rfl ?_
                refine o_T (y_fa fl_178_4 rfl) rfl ?_
                refine o_take rfl rfl rfl ?_
                refine o_ld one_3 rfl (ms (ms (ms (ms (ms m0))))) Sg.g4 rfl ?_
                refine o_take rfl rfl rfl ?_
                refine o_T (y_and rfl rfl (fl4 hg.flags)) rfl ?_
                refine o_take rfl rfl rfl ?_
                refine o_T (y_neq rfl rfl) rfl ?_
                refine o_T (y_pickF rfl rfl) rfl ?_
                refine o_nil1 95 rfl rfl ?_
                refine c_cond rfl (fun h138_1 => ?_) (fun h138_1 => ?_)
                · try simp only [decide_eq_true_eq, decide_eq_false_iff_not, Bool.not_eq_true', Bool.not_eq_false', Int.not_lt, Int.not_le, Decidable.not_not, beq_iff_eq, bne_iff_ne, ne_eq, beq_eq_false_iff_ne] at h138_1
                  refine c_seq ?_
                  refine c_region ?_
                  refine o_T (y_move rfl) rfl ?_
                  refine o_ldw ag_178 rfl (ms (ms (ms (ms (ms m0))))) rfl rfl ?_
                  refine o_call en_214 rfl (t214 _ ps pr _ _ _ _ _ hk_3 hg) (s_take (s_take (s_take (s_skip (s_skip (s_skip (s_take s_nil))))))) rfl ?_
                  rintro v S' ⟨rfl, rfl, hk_6⟩
                  have hk_6_s := hk_6.s
                  have hk_6_r := hk_6.r
                  obtain ⟨hk_6_x1, hk_6_x2, hk_6_x3, hk_6_x4, hk_6_x5, hk_6_x6, hk_6_x7⟩ := hk_6.x
                  try dsimp only at hk_6_s hk_6_r
                  refine o_nil0 rfl ?_
                  refine c_seq ?_
                  refine c_region ?_
                  refine o_T (y_move rfl) rfl ?_
                  refine o_call en_184 rfl (t184 _ ps pr _ _ _ hk_6) (s_take (s_take (s_take s_nil))) rfl ?_
                  rintro v S' ⟨b_13, rfl, rfl⟩
                  refine o_alloc ze_178 rfl rfl (fun b_14 => ?_)
                  refine o_sta ag_178 rfl rfl rfl rfl r0 (setAll_full _ _ rfl) (of_ble rfl) ?_
                  refine o_nil0 rfl ?_
                  refine c_region ?_
                  refine o_T (y_move rfl) rfl ?_
                  refine o_ldw ag_178 rfl m0 rfl rfl ?_
                  refine o_bs1 sz_185 rfl rfl rfl rfl rfl rfl (fun b_15 => ?_)
                  refine o_lapp1 sz_185 rfl rfl rfl hl_1 rfl rfl segR.mk (s_get (ks (ks (ks (ks (ks (ks (ks k0))))))) (s_get (ks (ks (ks (ks (ks (ks (ks k0))))))) (s_get k0 (s_get (ks k0) s_nil)))) (by first | omega | (simp only [List.length_append, List.length_cons, List.length_nil]; omega) | (simp <;> omega)) (by first | omega | (simp only [List.length_append, List.length_cons, List.length_nil]; omega) | (simp <;> omega)) rfl (fun v_4 gv_9 hl_9 => ?_)
                  refine o_L (y_assign rfl) rfl rfl ?_
                  refine o_nil0 rfl ?_
                  refine c_seq ?_
                  refine c_region ?_
                  refine o_T (y_move rfl) rfl ?_
                  refine o_call en_169 rfl (t169 _ ps pr _ _ _ hk_6) (s_skip (s_skip (s_skip (s_take (s_take (s_take s_nil)))))) rfl ?_
                  rintro v S' ⟨gv_10, gd_2, hl_10, rfl, hk_7, hp_2⟩
                  have hk_7_s := hk_7.s
                  have hk_7_r := hk_7.r
                  obtain ⟨hk_7_x1, hk_7_x2, hk_7_x3, hk_7_x4, hk_7_x5, hk_7_x6, hk_7_x7⟩ := hk_7.x
                  try dsimp only at hk_7_s hk_7_r
                  refine o_L (y_assign rfl) rfl rfl ?_
                  refine o_nil0 rfl ?_
                  refine c_seq ?_
                  refine c_region ?_
                  refine o_T (y_move rfl) rfl ?_
                  refine o_T (y_move rfl) rfl ?_
                  refine o_lapp sz_185 rfl rfl rfl hl_9 hl_10 segR_plain (s_get (ks (ks (ks (ks (ks k0))))) (s_get (ks (ks (ks (ks (ks k0))))) (s_get k0 (s_get k0 s_nil)))) (lapp_b (by simp) (Nat.le_trans hp_2 (by decide))) (lapp_c (by simp) (Nat.le_trans hp_2 (by decide))) rfl (fun v_5 gv_11 hl_11 => ?_)
                  refine o_L (y_assign rfl) rfl rfl ?_
                  refine o_nil0 rfl ?_
                  refine c_seq ?_
                  refine c_seq ?_
                  refine c_region ?_
                  refine o_T (y_move rfl) rfl ?_
                  refine o_T (y_nilck rfl) rfl ?_
                  refine o_T (y_fa fl_167_6 rfl) rfl ?_
                  refine o_ld one_4 rfl (ms (ms m0)) Cn.g6 rfl ?_
                  refine o_T (y_move rfl) rfl ?_
                  refine o_split 114 rfl (fun h145 => ?_) (fun h145 => ?_)
                  · try simp only [decide_eq_true_eq, decide_eq_false_iff_not, Bool.not_eq_true', Bool.not_eq_false', Int.not_lt, Int.not_le, Decidable.not_not, beq_iff_eq, bne_iff_ne, ne_eq, beq_eq_false_iff_ne] at h145
                    refine o_take rfl rfl rfl ?_
                    refine o_T (y_move rfl) rfl ?_
                    refine o_take rfl rfl rfl ?_
                    refine o_T (y_nilck rfl) rfl ?_
                    refine o_take rfl rfl rfl ?_
                    refine o_T (y_fa fl_167_7 rfl) rfl ?_
                    refine o_take rfl rfl rfl ?_
                    refine o_ld one_4 rfl (ms (ms m0)) Cn.g7 rfl ?_
                    refine o_T (y_pickT rfl rfl) rfl ?_
                    refine o_nil1 119 rfl rfl ?_
                    refine c_cond rfl (fun h145_1 => ?_) (fun h145_1 => ?_)
                    · try simp only [decide_eq_true_eq, decide_eq_false_iff_not, Bool.not_eq_true', Bool.not_eq_false', Int.not_lt, Int.not_le, Decidable.not_not, beq_iff_eq, bne_iff_ne, ne_eq, beq_eq_false_iff_ne] at h145_1
                      refine c_seq ?_
                      refine c_region ?_
                      refine o_T (y_move rfl) rfl ?_
                      refine o_T (y_nilck rfl) rfl ?_
                      refine o_T (y_fa fl_167_2 rfl) rfl ?_
                      refine o_st one_3 rfl rfl rfl (rs (rs r0)) Cn.s2 (of_blt rfl) ?_
                      refine o_nil0 rfl ?_
                      refine c_seq ?_
                      refine c_region ?_
                      refine o_T (y_move rfl) rfl ?_
                      refine o_T (y_nilck rfl) rfl ?_
                      refine o_T (y_fa fl_167_13 rfl) rfl ?_
                      refine o_st one_3 rfl rfl rfl (rs (rs r0)) Cn.s13 (of_blt rfl) ?_
                      refine o_nil0 rfl ?_
                      refine c_seq ?_
                      refine c_region ?_
                      refine o_T (y_move rfl) rfl ?_
                      refine o_T (y_nilck rfl) rfl ?_
                      refine o_T (y_fa fl_167_10 rfl) rfl ?_
                      refine o_st one_3 rfl rfl rfl (rs (rs r0)) Cn.s10 (of_blt rfl) ?_
                      refine o_nil0 rfl ?_
                      refine c_seq ?_
                      refine c_region ?_
                      refine o_T (y_move rfl) rfl ?_
                      refine o_T (y_nilck rfl) rfl ?_
                      refine o_T (y_fa fl_167_11 rfl) rfl ?_
                      refine o_st one_3 rfl rfl rfl (rs (rs r0)) Cn.s11 (of_blt rfl) ?_
                      refine o_nil0 rfl ?_
                      refine c_seq ?_
                      refine c_region ?_
                      refine o_T (y_move rfl) rfl ?_
                      refine o_T (y_nilck rfl) rfl ?_
                      refine o_T (y_fa fl_167_12 rfl) rfl ?_
                      refine o_st one_3 rfl rfl rfl (rs (rs r0)) Cn.s12 (of_blt rfl) ?_
                      refine o_nil0 rfl ?_
                      refine c_region ?_
                      refine o_T (y_move rfl) rfl ?_
                      refine o_T (y_nilck rfl) rfl ?_
                      refine o_T (y_fa fl_167_9 rfl) rfl ?_
                      refine o_st one_3 rfl rfl rfl (rs (rs r0)) Cn.s9 (of_blt rfl) ?_
                      refine o_nil0 rfl ?_
                      refine c_seq ?_
                      refine c_region ?_
                      refine o_T (y_move rfl) rfl ?_
                      refine o_L (y_assign rfl) rfl rfl ?_
                      refine o_nil0 rfl ?_
                      refine c_ret ?_
                      refine fun aX wX heX hsX => ret1 Tryz.results195 heX rfl (s_take (s_take (s_take (s_take (s_take (s_skip (s_take s_nil))))))) ?_
                      first | (exfalso; omega) | (have ok9 := (Conn.ok_inSync ok0 hg).1; have e1 := inSync_opened (c := (⟨x, s, r⟩ : Conn)) (s := g) (by omega) (by omega) (by omega) h126 h127; have e2 := inAck_yes (c := ((⟨x, s, r⟩ : Conn).opened)) (s := g) h133; have e3 := inData_t (c := (((⟨x, s, r⟩ : Conn).opened).acked g).2) (s := g) (by first | exact .inl (by omega) | exact .inr (by omega)); have e4 := goodEnd_t (c := ((((⟨x, s, r⟩ : Conn).opened).acked g).2.take g).pump.1) h145 h145_1; rw [e1, e2, e3, e4] at ok9 ⊢; exact ⟨_, _, hl_11, rfl, ok9⟩)
                    · try simp only [decide_eq_true_eq, decide_eq_false_iff_not, Bool.not_eq_true', Bool.not_eq_false', Int.not_lt, Int.not_le, Decidable.not_not, beq_iff_eq, bne_iff_ne, ne_eq, beq_eq_false_iff_ne] at h145_1
                      refine c_skip ?_
                      refine c_seq ?_
                      refine c_region ?_
                      refine o_T (y_move rfl) rfl ?_
                      refine o_L (y_assign rfl) rfl rfl ?_
                      refine o_nil0 rfl ?_
                      refine c_ret ?_
                      refine fun aX wX heX hsX => ret1 Tryz.results195 heX rfl (s_take (s_take (s_take (s_take (s_take (s_skip (s_take s_nil))))))) ?_
                      first | (exfalso; omega) | (have ok9 := (Conn.ok_inSync ok0 hg).1; have e1 := inSync_opened (c := (⟨x, s, r⟩ : Conn)) (s := g) (by omega) (by omega) (by omega) h126 h127; have e2 := inAck_yes (c := ((⟨x, s, r⟩ : Conn).opened)) (s := g) h133; have e3 := inData_t (c := (((⟨x, s, r⟩ : Conn).opened).acked g).2) (s := g) (by first | exact .inl (by omega) | exact .inr (by omega)); have e4 := goodEnd_f (c := ((((⟨x, s, r⟩ : Conn).opened).acked g).2.take g).pump.1) (fun z => nomatch (h145_1.symm.trans z.2 : false = true)); rw [e1, e2, e3, e4] at ok9 ⊢; exact ⟨_, _, hl_11, rfl, ok9⟩)
                  · try simp only [decide_eq_true_eq, decide_eq_false_iff_not, Bool.not_eq_true', Bool.not_eq_false', Int.not_lt, Int.not_le, Decidable.not_not, beq_iff_eq, bne_iff_ne, ne_eq, beq_eq_false_iff_ne] at h145
                    refine o_pass rfl rfl rfl rfl rfl ?_
                    refine o_pass rfl rfl rfl rfl rfl ?_
                    refine o_pass rfl rfl rfl rfl rfl ?_
                    refine o_pass rfl rfl rfl rfl rfl ?_
                    refine o_T (y_pickF rfl rfl) rfl ?_
                    refine o_nil1 119 rfl rfl ?_
                    refine c_condF rfl ?_
                    refine c_skip ?_
                    refine c_seq ?_
                    refine c_region ?_
                    refine o_T (y_move rfl) rfl ?_
                    refine o_L (y_assign rfl) rfl rfl ?_
                    refine o_nil0 rfl ?_
                    refine c_ret ?_
                    refine fun aX wX heX hsX => ret1 Tryz.results195 heX rfl (s_take (s_take (s_take (s_take (s_take (s_skip (s_take s_nil))))))) ?_
                    first | (exfalso; omega) | (have ok9 := (Conn.ok_inSync ok0 hg).1; have e1 := inSync_opened (c := (⟨x, s, r⟩ : Conn)) (s := g) (by omega) (by omega) (by omega) h126 h127; have e2 := inAck_yes (c := ((⟨x, s, r⟩ : Conn).opened)) (s := g) h133; have e3 := inData_t (c := (((⟨x, s, r⟩ : Conn).opened).acked g).2) (s := g) (by first | exact .inl (by omega) | exact .inr (by omega)); have e4 := goodEnd_f (c := ((((⟨x, s, r⟩ : Conn).opened).acked g).2.take g).pump.1) (fun z => nomatch (h145.symm.trans z.1 : false = true)); rw [e1, e2, e3, e4] at ok9 ⊢; exact ⟨_, _, hl_11, rfl, ok9⟩)
                · try simp only [decide_eq_true_eq, decide_eq_false_iff_not, Bool.not_eq_true', Bool.not_eq_false', Int.not_lt, Int.not_le, Decidable.not_not, beq_iff_eq, bne_iff_ne, ne_eq, beq_eq_false_iff_ne] at h138_1
                  refine c_skip ?_
                  refine c_seq ?_
                  refine c_region ?_
                  refine o_T (y_move rfl) rfl ?_
                  refine o_call en_169 rfl (t169 _ ps pr _ _ _ hk_3) (s_take (s_take (s_take s_nil))) rfl ?_
                  rintro v S' ⟨gv_12, gd_3, hl_12, rfl, hk_8, hp_3⟩
                  have hk_8_s := hk_8.s
                  have hk_8_r := hk_8.r
                  obtain ⟨hk_8_x1, hk_8_x2, hk_8_x3, hk_8_x4, hk_8_x5, hk_8_x6, hk_8_x7⟩ := hk_8.x
                  try dsimp only at hk_8_s hk_8_r
                  refine o_L (y_assign rfl) rfl rfl ?_
                  refine o_nil0 rfl ?_
                  refine c_seq ?_
                  refine c_region ?_
                  refine o_T (y_move rfl) rfl ?_
                  refine o_T (y_move rfl) rfl ?_
                  refine o_lapp sz_185 rfl rfl rfl hl_1 hl_12 segR_plain (s_get (ks (ks (ks (ks (ks k0))))) (s_get (ks (ks (ks (ks (ks k0))))) (s_get k0 (s_get k0 s_nil)))) (lapp_b (by simp) (Nat.le_trans hp_3 (by decide))) (lapp_c (by simp) (Nat.le_trans hp_3 (by decide))) rfl (fun v_6 gv_13 hl_13 => ?_)
                  refine o_L (y_assign rfl) rfl rfl ?_
                  refine o_nil0 rfl ?_
                  refine c_seq ?_
                  refine c_seq ?_
                  refine c_region ?_
                  refine o_T (y_move rfl) rfl ?_
                  refine o_T (y_nilck rfl) rfl ?_
                  refine o_T (y_fa fl_167_6 rfl) rfl ?_
                  refine o_ld one_4 rfl (ms (ms m0)) Cn.g6 rfl ?_
                  refine o_T (y_move rfl) rfl ?_
                  refine o_split 114 rfl (fun h145 => ?_) (fun h145 => ?_)
                  · try simp only [decide_eq_true_eq, decide_eq_false_iff_not, Bool.not_eq_true', Bool.not_eq_false', Int.not_lt, Int.not_le, Decidable.not_not, beq_iff_eq, bne_iff_ne, ne_eq, beq_eq_false_iff_ne] at h145
                    refine o_take rfl rfl rfl ?_
                    refine o_T (y_move rfl) rfl ?_
                    refine o_take rfl rfl rfl ?_
                    refine o_T (y_nilck rfl) rfl ?_
                    refine o_take rfl rfl rfl ?_
                    refine o_T (y_fa fl_167_7 rfl) rfl ?_
                    refine o_take rfl rfl rfl ?_
                    refine o_ld one_4 rfl (ms (ms m0)) Cn.g7 rfl ?_
                    refine o_T (y_pickT rfl rfl) rfl ?_
                    refine o_nil1 119 rfl rfl ?_
                    refine c_cond rfl (fun h145_1 => ?_) (fun h145_1 => ?_)
                    · try simp only [decide_eq_true_eq, decide_eq_false_iff_not, Bool.not_eq_true', Bool.not_eq_false', Int.not_lt, Int.not_le, Decidable.not_not, beq_iff_eq, bne_iff_ne, ne_eq, beq_eq_false_iff_ne] at h145_1
                      refine c_seq ?_
                      refine c_region ?_
                      refine o_T (y_move rfl) rfl ?_
                      refine o_T (y_nilck rfl) rfl ?_
                      refine o_T (y_fa fl_167_2 rfl) rfl ?_
                      refine o_st one_3 rfl rfl rfl (rs (rs r0)) Cn.s2 (of_blt rfl) ?_
                      refine o_nil0 rfl ?_
                      refine c_seq ?_
                      refine c_region ?_
                      refine o_T (y_move rfl) rfl ?_
                      refine o_T (y_nilck rfl) rfl ?_
                      refine o_T (y_fa fl_167_13 rfl) rfl ?_
                      refine o_st one_3 rfl rfl rfl (rs (rs r0)) Cn.s13 (of_blt rfl) ?_
                      refine o_nil0 rfl ?_
                      refine c_seq ?_
                      refine c_region ?_
                      refine o_T (y_move rfl) rfl ?_
                      refine o_T (y_nilck rfl) rfl ?_
                      refine o_T (y_fa fl_167_10 rfl) rfl ?_
                      refine o_st one_3 rfl rfl rfl (rs (rs r0)) Cn.s10 (of_blt rfl) ?_
                      refine o_nil0 rfl ?_
                      refine c_seq ?_
                      refine c_region ?_
                      refine o_T (y_move rfl) rfl ?_
                      refine o_T (y_nilck rfl) rfl ?_
                      refine o_T (y_fa fl_167_11 rfl) rfl ?_
                      refine o_st one_3 rfl rfl rfl (rs (rs r0)) Cn.s11 (of_blt rfl) ?_
                      refine o_nil0 rfl ?_
                      refine c_seq ?_
                      refine c_region ?_
                      refine o_T (y_move rfl) rfl ?_
                      refine o_T (y_nilck rfl) rfl ?_
                      refine o_T (y_fa fl_167_12 rfl) rfl ?_
                      refine o_st one_3 rfl rfl rfl (rs (rs r0)) Cn.s12 (of_blt rfl) ?_
                      refine o_nil0 rfl ?_
                      refine c_region ?_
                      refine o_T (y_move rfl) rfl ?_
                      refine o_T (y_nilck rfl) rfl ?_
                      refine o_T (y_fa fl_167_9 rfl) rfl ?_
                      refine o_st one_3 rfl rfl rfl (rs (rs r0)) Cn.s9 (of_blt rfl) ?_
                      refine o_nil0 rfl ?_
                      refine c_seq ?_
                      refine c_region ?_
                      refine o_T (y_move rfl) rfl ?_
                      refine o_L (y_assign rfl) rfl rfl ?_
                      refine o_nil0 rfl ?_
                      refine c_ret ?_
                      refine fun aX wX heX hsX => ret1 Tryz.results195 heX rfl (s_take (s_take (s_take (s_take (s_take (s_skip (s_take s_nil))))))) ?_
                      first | (exfalso; omega) | (have ok9 := (Conn.ok_inSync ok0 hg).1; have e1 := inSync_opened (c := (⟨x, s, r⟩ : Conn)) (s := g) (by omega) (by omega) (by omega) h126 h127; have e2 := inAck_yes (c := ((⟨x, s, r⟩ : Conn).opened)) (s := g) h133; have e3 := inData_f (c := (((⟨x, s, r⟩ : Conn).opened).acked g).2) (s := g) (by omega); have e4 := goodEnd_t (c := (((⟨x, s, r⟩ : Conn).opened).acked g).2.pump.1) h145 h145_1; rw [e1, e2, e3, e4] at ok9 ⊢; exact ⟨_, _, hl_13, rfl, ok9⟩)
                    · try simp only [decide_eq_true_eq, decide_eq_false_iff_not, Bool.not_eq_true', Bool.not_eq_false', Int.not_lt, Int.not_le, Decidable.not_not, beq_iff_eq, bne_iff_ne, ne_eq, beq_eq_false_iff_ne] at h145_1
                      refine c_skip ?_
                      refine c_seq ?_
                      refine c_region ?_
                      refine o_T (y_move rfl) rfl ?_
                      refine o_L (y_assign rfl) rfl rfl ?_
                      refine o_nil0 rfl ?_
                      refine c_ret ?_
                      refine fun aX wX heX hsX => ret1 Tryz.results195 heX rfl (s_take (s_take (s_take (s_take (s_take (s_skip (s_take s_nil))))))) ?_
                      first | (exfalso; omega) | (have ok9 := (Conn.ok_inSync ok0 hg).1; have e1 := inSync_opened (c := (⟨x, s, r⟩ : Conn)) (s := g) (by omega) (by omega) (by omega) h126 h127; have e2 := inAck_yes (c := ((⟨x, s, r⟩ : Conn).opened)) (s := g) h133; have e3 := inData_f (c := (((⟨x, s, r⟩ : Conn).opened).acked g).2) (s := g) (by omega); have e4 := goodEnd_f (c := (((⟨x, s, r⟩ : Conn).opened).acked g).2.pump.1) (fun z => nomatch (h145_1.symm.trans z.2 : false = true)); rw [e1, e2, e3, e4] at ok9 ⊢; exact ⟨_, _, hl_13, rfl, ok9⟩)
                  · try simp only [decide_eq_true_eq, decide_eq_false_iff_not, Bool.not_eq_true', Bool.not_eq_false', Int.not_lt, Int.not_le, Decidable.not_not, beq_iff_eq, bne_iff_ne, ne_eq, beq_eq_false_iff_ne] at h145
                    refine o_pass rfl rfl rfl rfl rfl ?_
                    refine o_pass rfl rfl rfl rfl rfl ?_
                    refine o_pass rfl rfl rfl rfl rfl ?_
                    refine o_pass rfl rfl rfl rfl rfl ?_
                    refine o_T (y_pickF rfl rfl) rfl ?_
                    refine o_nil1 119 rfl rfl ?_
                    refine c_condF rfl ?_
                    refine c_skip ?_
                    refine c_seq ?_
                    refine c_region ?_
                    refine o_T (y_move rfl) rfl ?_
                    refine o_L (y_assign rfl) rfl rfl ?_
                    refine o_nil0 rfl ?_
                    refine c_ret ?_
                    refine fun aX wX heX hsX => ret1 Tryz.results195 heX rfl (s_take (s_take (s_take (s_take (s_take (s_skip (s_take s_nil))))))) ?_
                    first | (exfalso; omega) | (have ok9 := (Conn.ok_inSync ok0 hg).1; have e1 := inSync_opened (c := (⟨x, s, r⟩ : Conn)) (s := g) (by omega) (by omega) (by omega) h126 h127; have e2 := inAck_yes (c := ((⟨x, s, r⟩ : Conn).opened)) (s := g) h133; have e3 := inData_f (c := (((⟨x, s, r⟩ : Conn).opened).acked g).2) (s := g) (by omega); have e4 := goodEnd_f (c := (((⟨x, s, r⟩ : Conn).opened).acked g).2.pump.1) (fun z => nomatch (h145.symm.trans z.1 : false = true)); rw [e1, e2, e3, e4] at ok9 ⊢; exact ⟨_, _, hl_13, rfl, ok9⟩)
        · try simp only [decide_eq_true_eq, decide_eq_false_iff_not, Bool.not_eq_true', Bool.not_eq_false', Int.not_lt, Int.not_le, Decidable.not_not, beq_iff_eq, bne_iff_ne, ne_eq, beq_eq_false_iff_ne] at h126
          refine c_skip ?_
          refine c_seq ?_
          refine c_seq ?_
          refine c_region ?_
          refine o_T (y_move rfl) rfl ?_
          refine o_ldw ag_178 rfl (ms (ms m0)) rfl rfl ?_
          refine o_call en_213 rfl (t213 _ ps pr x _ _ _ _ ok0) (s_skip (s_skip (s_skip (s_take (s_take (s_take s_nil)))))) rfl ?_
          rintro v S' ⟨rfl, rfl, hk_9⟩
          have hk_9_s := hk_9.s
          have hk_9_r := hk_9.r
          obtain ⟨hk_9_x1, hk_9_x2, hk_9_x3, hk_9_x4, hk_9_x5, hk_9_x6, hk_9_x7⟩ := hk_9.x
          try dsimp only at hk_9_s hk_9_r
          refine o_T (y_not rfl) rfl ?_
          refine o_nil1 80 rfl rfl ?_
          refine c_cond rfl (fun h133 => ?_) (fun h133 => ?_)
          · try simp only [decide_eq_true_eq, decide_eq_false_iff_not, Bool.not_eq_true', Bool.not_eq_false', Int.not_lt, Int.not_le, Decidable.not_not, beq_iff_eq, bne_iff_ne, ne_eq, beq_eq_false_iff_ne] at h133
            refine c_seq ?_
            refine c_region ?_
            refine o_T (y_move rfl) rfl ?_
            refine o_call en_184 rfl (t184 _ ps pr _ _ _ hk_9) (s_take (s_take (s_take s_nil))) rfl ?_
            rintro v S' ⟨b_16, rfl, rfl⟩
            refine o_alloc ze_178 rfl rfl (fun b_17 => ?_)
            refine o_sta ag_178 rfl rfl rfl rfl r0 (setAll_full _ _ rfl) (of_ble rfl) ?_
            refine o_nil0 rfl ?_
            refine c_seq ?_
            refine c_region ?_
            refine o_ldw ag_178 rfl m0 rfl rfl ?_
            refine o_call en_179 rfl (t179 _ _) (s_skip (s_take s_nil)) rfl ?_
            rintro v S' ⟨gv_14, hl_14, rfl⟩
            refine o_L (y_assign rfl) rfl rfl ?_
            refine o_nil0 rfl ?_
            refine c_ret ?_
            refine fun aX wX heX hsX => ret1 Tryz.results195 heX rfl (s_take (s_take (s_skip (s_take (s_take (s_take (s_skip (s_skip (s_skip (s_take s_nil)))))))))) ?_
            first | (exfalso; omega) | (have ok9 := (Conn.ok_inSync ok0 hg).1; have e1 := inSync_ack (c := (⟨x, s, r⟩ : Conn)) (s := g) (by omega) (by omega) (by omega) h126; have e2 := inAck_no (c := (⟨x, s, r⟩ : Conn)) (s := g) h133; rw [e1, e2] at ok9 ⊢; exact ⟨_, _, hl_14, rfl, ok9⟩)
          · try simp only [decide_eq_true_eq, decide_eq_false_iff_not, Bool.not_eq_true', Bool.not_eq_false', Int.not_lt, Int.not_le, Decidable.not_not, beq_iff_eq, bne_iff_ne, ne_eq, beq_eq_false_iff_ne] at h133
            refine c_skip ?_
            refine c_seq ?_
            refine c_region ?_
            refine o_T (y_move rfl) rfl ?_
            refine o_L (y_assign rfl) rfl rfl ?_
            refine o_nil0 rfl ?_
            refine c_seq ?_
            refine c_seq ?_
            refine c_region ?_
            refine o_T (y_fa fl_178_6 rfl) rfl ?_
            refine o_ld one_81 rfl (ms (ms (ms (ms (ms m0))))) Sg.g6 rfl ?_
            refine o_T (y_len Tryz.underlying81 rfl) rfl ?_
            refine o_T (y_gtr rfl rfl) rfl ?_
            refine o_T (y_move rfl) rfl ?_
            refine o_split 90 rfl (fun h138 => ?_) (fun h138 => ?_)
            · try simp only [decide_eq_true_eq, decide_eq_false_iff_not, Bool.not_eq_true', Bool.not_eq_false', Int.not_lt, Int.not_le, Decidable.not_not, beq_iff_eq, bne_iff_ne, ne_eq, beq_eq_false_iff_ne] at h138
              refine o_pass rfl rfl rfl rfl rfl ?_
              refine o_pass rfl rfl rfl rfl rfl ?_
              refine o_pass rfl rfl rfl rfl rfl ?_
              refine o_pass rfl rfl rfl rfl rfl ?_
              refine o_T (y_pickT rfl rfl) rfl ?_
              refine o_nil1 95 rfl rfl ?_
              refine c_condT rfl ?_
              refine c_seq ?_
              refine c_region ?_
              refine o_T (y_move rfl) rfl ?_
              refine o_ldw ag_178 rfl (ms (ms (ms (ms (ms m0))))) rfl rfl ?_
              refine o_call en_214 rfl (t214 _ ps pr _ _ _ _ _ hk_9 hg) (s_take (s_take (s_take (s_skip (s_skip (s_skip (s_take s_nil))))))) rfl ?_
              rintro v S' ⟨rfl, rfl, hk_10⟩
              have hk_10_s := hk_10.s
              have hk_10_r := hk_10.r
              obtain ⟨hk_10_x1, hk_10_x2, hk_10_x3, hk_10_x4, hk_10_x5, hk_10_x6, hk_10_x7⟩ := hk_10.x
              try dsimp only at hk_10_s hk_10_r
              refine o_nil0 rfl ?_
              refine c_seq ?_
              refine c_region ?_
              refine o_T (y_move rfl) rfl ?_
              refine o_call en_184 rfl (t184 _ ps pr _ _ _ hk_10) (s_take (s_take (s_take s_nil))) rfl ?_
              rintro v S' ⟨b_18, rfl, rfl⟩
              refine o_alloc ze_178 rfl rfl (fun b_19 => ?_)
              refine o_sta ag_178 rfl rfl rfl rfl r0 (setAll_full _ _ rfl) (of_ble rfl) ?_
              refine o_nil0 rfl ?_
              refine c_region ?_
              refine o_T (y_move rfl) rfl ?_
              refine o_ldw ag_178 rfl m0 rfl rfl ?_
              refine o_bs1 sz_185 rfl rfl rfl rfl rfl rfl (fun b_20 => ?_)
              refine o_lapp1 sz_185 rfl rfl rfl hl_1 rfl rfl segR.mk (s_get (ks (ks (ks (ks (ks (ks (ks k0))))))) (s_get (ks (ks (ks (ks (ks (ks (ks k0))))))) (s_get k0 (s_get (ks k0) s_nil)))) (by first | omega | (simp only [List.length_append, List.length_cons, List.length_nil]; omega) | (simp <;> omega)) (by first | omega | (simp only [List.length_append, List.length_cons, List.length_nil]; omega) | (simp <;> omega)) rfl (fun v_7 gv_15 hl_15 => ?_)
              refine o_L (y_assign rfl) rfl rfl ?_
              refine o_nil0 rfl ?_
              refine c_seq ?_
              refine c_region ?_
              refine o_T (y_move rfl) rfl ?_
              refine o_call en_169 rfl (t169 _ ps pr _ _ _ hk_10) (s_skip (s_skip (s_skip (s_take (s_take (s_take s_nil)))))) rfl ?_
              rintro v S' ⟨gv_16, gd_4, hl_16, rfl, hk_11, hp_4⟩
              have hk_11_s := hk_11.s
              have hk_11_r := hk_11.r
              obtain ⟨hk_11_x1, hk_11_x2, hk_11_x3, hk_11_x4, hk_11_x5, hk_11_x6, hk_11_x7⟩ := hk_11.x
              try dsimp only at hk_11_s hk_11_r
              refine o_L (y_assign rfl) rfl rfl ?_
              refine o_nil0 rfl ?_
              refine c_seq ?_
              refine c_region ?_
              refine o_T (y_move rfl) rfl ?_
              refine o_T (y_move rfl) rfl ?_
              refine o_lapp sz_185 rfl rfl rfl hl_15 hl_16 segR_plain (s_get (ks (ks (ks (ks (ks k0))))) (s_get (ks (ks (ks (ks (ks k0))))) (s_get k0 (s_get k0 s_nil)))) (lapp_b (by simp) (Nat.le_trans hp_4 (by decide))) (lapp_c (by simp) (Nat.le_trans hp_4 (by decide))) rfl (fun v_8 gv_17 hl_17 => ?_)
              refine o_L (y_assign rfl) rfl rfl ?_
              refine o_nil0 rfl ?_
              refine c_seq ?_
              refine c_seq ?_
              refine c_region ?_
              refine o_T (y_move rfl) rfl ?_
              refine o_T (y_nilck rfl) rfl ?_
              refine o_T (y_fa fl_167_6 rfl) rfl ?_
              refine o_ld one_4 rfl (ms (ms m0)) Cn.g6 rfl ?_
              refine o_T (y_move rfl) rfl ?_
              refine o_split 114 rfl (fun h145 => ?_) (fun h145 => ?_)
              · try simp only [decide_eq_true_eq, decide_eq_false_iff_not, Bool.not_eq_true', Bool.not_eq_false', Int.not_lt, Int.not_le, Decidable.not_not, beq_iff_eq, bne_iff_ne, ne_eq, beq_eq_false_iff_ne] at h145
                refine o_take rfl rfl rfl ?_
                refine o_T (y_move rfl) rfl ?_
                refine o_take rfl rfl rfl ?_
                refine o_T (y_nilck rfl) rfl ?_
                refine o_take rfl rfl rfl ?_
                refine o_T (y_fa fl_167_7 rfl) rfl ?_
                refine o_take rfl rfl rfl ?_
                refine o_ld one_4 rfl (ms (ms m0)) Cn.g7 rfl ?_
                refine o_T (y_pickT rfl rfl) rfl ?_
                refine o_nil1 119 rfl rfl ?_
                refine c_cond rfl (fun h145_1 => ?_) (fun h145_1 => ?_)
                · try simp only [decide_eq_true_eq, decide_eq_false_iff_not, Bool.not_eq_true', Bool.not_eq_false', Int.not_lt, Int.not_le, Decidable.not_not, beq_iff_eq, bne_iff_ne, ne_eq, beq_eq_false_iff_ne] at h145_1
                  refine c_seq ?_
                  refine c_region ?_
                  refine o_T (y_move rfl) rfl ?_
                  refine o_T (y_nilck rfl) rfl ?_
                  refine o_T (y_fa fl_167_2 rfl) rfl ?_
                  refine o_st one_3 rfl rfl rfl (rs (rs r0)) Cn.s2 (of_blt rfl) ?_
                  refine o_nil0 rfl ?_
                  refine c_seq ?_
                  refine c_region ?_
                  refine o_T (y_move rfl) rfl ?_
                  refine o_T (y_nilck rfl) rfl ?_
                  refine o_T (y_fa fl_167_13 rfl) rfl ?_
                  refine o_st one_3 rfl rfl rfl (rs (rs r0)) Cn.s13 (of_blt rfl) ?_
                  refine o_nil0 rfl ?_
                  refine c_seq ?_
                  refine c_region ?_
                  refine o_T (y_move rfl) rfl ?_
                  refine o_T (y_nilck rfl) rfl ?_
                  refine o_T (y_fa fl_167_10 rfl) rfl ?_
                  refine o_st one_3 rfl rfl rfl (rs (rs r0)) Cn.s10 (of_blt rfl) ?_
                  refine o_nil0 rfl ?_
                  refine c_seq ?_
                  refine c_region ?_
                  refine o_T (y_move rfl) rfl ?_
                  refine o_T (y_nilck rfl) rfl ?_
                  refine o_T (y_fa fl_167_11 rfl) rfl ?_
                  refine o_st one_3 rfl rfl rfl (rs (rs r0)) Cn.s11 (of_blt rfl) ?_
                  refine o_nil0 rfl ?_
                  refine c_seq ?_
                  refine c_region ?_
                  refine o_T (y_move rfl) rfl ?_
                  refine o_T (y_nilck rfl) rfl ?_
                  refine o_T (y_fa fl_167_12 rfl) rfl ?_
                  refine o_st one_3 rfl rfl rfl (rs (rs r0)) Cn.s12 (of_blt rfl) ?_
                  refine o_nil0 rfl ?_
                  refine c_region ?_
                  refine o_T (y_move rfl) rfl ?_
                  refine o_T (y_nilck rfl) rfl ?_
                  refine o_T (y_fa fl_167_9 rfl) rfl ?_
                  refine o_st one_3 rfl rfl rfl (rs (rs r0)) Cn.s9 (of_blt rfl) ?_
                  refine o_nil0 rfl ?_
                  refine c_seq ?_
                  refine c_region ?_
                  refine o_T (y_move rfl) rfl ?_
                  refine o_L (y_assign rfl) rfl rfl ?_
                  refine o_nil0 rfl ?_
                  refine c_ret ?_
                  refine fun aX wX heX hsX => ret1 Tryz.results195 heX rfl (s_take (s_take (s_take (s_take (s_take (s_skip (s_take s_nil))))))) ?_
                  first | (exfalso; omega) | (have ok9 := (Conn.ok_inSync ok0 hg).1; have e1 := inSync_ack (c := (⟨x, s, r⟩ : Conn)) (s := g) (by omega) (by omega) (by omega) h126; have e2 := inAck_yes (c := (⟨x, s, r⟩ : Conn)) (s := g) h133; have e3 := inData_t (c := ((⟨x, s, r⟩ : Conn).acked g).2) (s := g) (by first | exact .inl (by omega) | exact .inr (by omega)); have e4 := goodEnd_t (c := (((⟨x, s, r⟩ : Conn).acked g).2.take g).pump.1) h145 h145_1; rw [e1, e2, e3, e4] at ok9 ⊢; exact ⟨_, _, hl_17, rfl, ok9⟩)
                · try simp only [decide_eq_true_eq, decide_eq_false_iff_not, Bool.not_eq_true', Bool.not_eq_false', Int.not_lt, Int.not_le, Decidable.not_not, beq_iff_eq, bne_iff_ne, ne_eq, beq_eq_false_iff_ne] at h145_1
                  refine c_skip ?_
                  refine c_seq ?_
                  refine c_region ?_
                  refine o_T (y_move rfl) rfl ?_
                  refine o_L (y_assign rfl) rfl rfl ?_
                  refine o_nil0 rfl ?_
                  refine c_ret ?_
                  refine fun aX wX heX hsX => ret1 Tryz.results195 heX rfl (s_take (s_take (s_take (s_take (s_take (s_skip (s_take s_nil))))))) ?_
                  first | (exfalso; omega) | (have ok9 := (Conn.ok_inSync ok0 hg).1; have e1 := inSync_ack (c := (⟨x, s, r⟩ : Conn)) (s := g) (by omega) (by omega) (by omega) h126; have e2 := inAck_yes (c := (⟨x, s, r⟩ : Conn)) (s := g) h133; have e3 := inData_t (c := ((⟨x, s, r⟩ : Conn).acked g).2) (s := g) (by first | exact .inl (by omega) | exact .inr (by omega)); have e4 := goodEnd_f (c := (((⟨x, s, r⟩ : Conn).acked g).2.take g).pump.1) (fun z => nomatch (h145_1.symm.trans z.2 : false = true)); rw [e1, e2, e3, e4] at ok9 ⊢; exact ⟨_, _, hl_17, rfl, ok9⟩)
              · try simp only [decide_eq_true_eq, decide_eq_false_iff_not, Bool.not_eq_true', Bool.not_eq_false', Int.not_lt, Int.not_le, Decidable.not_not, beq_iff_eq, bne_iff_ne, ne_eq, beq_eq_false_iff_ne] at h145
                refine o_pass rfl rfl rfl rfl rfl ?_
                refine o_pass rfl rfl rfl rfl rfl ?_
                refine o_pass rfl rfl rfl rfl rfl ?_
                refine o_pass rfl rfl rfl rfl rfl ?_
                refine o_T (y_pickF rfl rfl) rfl ?_
                refine o_nil1 119 rfl rfl ?_
                refine c_condF rfl ?_
                refine c_skip ?_
                refine c_seq ?_
                refine c_region ?_
                refine o_T (y_move rfl) rfl ?_
                refine o_L (y_assign rfl) rfl rfl ?_
                refine o_nil0 rfl ?_
                refine c_ret ?_
                refine fun aX wX heX hsX => ret1 Tryz.results195 heX rfl (s_take (s_take (s_take (s_take (s_take (s_skip (s_take s_nil))))))) ?_
                first | (exfalso; omega) | (have ok9 := (Conn.ok_inSync ok0 hg).1; have e1 := inSync_ack (c := (⟨x, s, r⟩ : Conn)) (s := g) (by omega) (by omega) (by omega) h126; have e2 := inAck_yes (c := (⟨x, s, r⟩ : Conn)) (s := g) h133; have e3 := inData_t (c := ((⟨x, s, r⟩ : Conn).acked g).2) (s := g) (by first | exact .inl (by omega) | exact .inr (by omega)); have e4 := goodEnd_f (c := (((⟨x, s, r⟩ : Conn).acked g).2.take g).pump.1) (fun z => nomatch (h145.symm.trans z.1 : false = true)); rw [e1, e2, e3, e4] at ok9 ⊢; exact ⟨_, _, hl_17, rfl, ok9⟩)
            · try simp only [decide_eq_true_eq, decide_eq_false_iff_not, Bool.not_eq_true', Bool.not_eq_false', Int.not_lt, Int.not_le, Decidable.not_not, beq_iff_eq, bne_iff_ne, ne_eq, beq_eq_false_iff_ne] at h138
              refine o_take rfl rfl rfl ?_
              refine o_T (y_fa fl_178_4 rfl) rfl ?_
              refine o_take rfl rfl rfl ?_
              refine o_ld one_3 rfl (ms (ms (ms (ms (ms m0))))) Sg.g4 rfl ?_
              refine o_take rfl rfl rfl ?_
              refine o_T (y_and rfl rfl (fl4 hg.flags)) rfl ?_
              refine o_take rfl rfl rfl ?_
              refine o_T (y_neq rfl rfl) rfl ?_
              refine o_T (y_pickF rfl rfl) rfl ?_
              refine o_nil1 95 rfl rfl ?_
              refine c_cond rfl (fun h138_1 => ?_) (fun h138_1 => ?_)
              · try simp only [decide_eq_true_eq, decide_eq_false_iff_not, Bool.not_eq_true', Bool.not_eq_false', Int.not_lt, Int.not_le, Decidable.not_not, beq_iff_eq, bne_iff_ne, ne_eq, beq_eq_false_iff_ne] at h138_1
                refine c_seq ?_
                refine c_region ?_
                refine o_T (y_move rfl) rfl ?_
                refine o_ldw ag_178 rfl (ms (ms (ms (ms (ms m0))))) rfl rfl ?_
                refine o_call en_214 rfl (t214 _ ps pr _ _ _ _ _ hk_9 hg) (s_take (s_take (s_take (s_skip (s_skip (s_skip (s_take s_nil))))))) rfl ?_
                rintro v S' ⟨rfl, rfl, hk_12⟩
                have hk_12_s := hk_12.s
                have hk_12_r := hk_12.r
                obtain ⟨hk_12_x1, hk_12_x2, hk_12_x3, hk_12_x4, hk_12_x5, hk_12_x6, hk_12_x7⟩ := hk_12.x
                try dsimp only at hk_12_s hk_12_r
                refine o_nil0 rfl ?_
                refine c_seq ?_
                refine c_region ?_
                refine o_T (y_move rfl) rfl ?_
                refine o_call en_184 rfl (t184 _ ps pr _ _ _ hk_12) (s_take (s_take (s_take s_nil))) rfl ?_
                rintro v S' ⟨b_21, rfl, rfl⟩
                refine o_alloc ze_178 rfl rfl (fun b_22 => ?_)
                refine o_sta ag_178 rfl rfl rfl rfl r0 (setAll_full _ _ rfl) (of_ble rfl) ?_
                refine o_nil0 rfl ?_
                refine c_region ?_
                refine o_T (y_move rfl) rfl ?_
                refine o_ldw ag_178 rfl m0 rfl rfl ?_
                refine o_bs1 sz_185 rfl rfl rfl rfl rfl rfl (fun b_23 => ?_)
                refine o_lapp1 sz_185 rfl rfl rfl hl_1 rfl rfl segR.mk (s_get (ks (ks (ks (ks (ks (ks (ks k0))))))) (s_get (ks (ks (ks (ks (ks (ks (ks k0))))))) (s_get k0 (s_get (ks k0) s_nil)))) (by first | omega | (simp only [List.length_append, List.length_cons, List.length_nil]; omega) | (simp <;> omega)) (by first | omega | (simp only [List.length_append, List.length_cons, List.length_nil]; omega) | (simp <;> omega)) rfl (fun v_9 gv_18 hl_18 => ?_)
                refine o_L (y_assign rfl) rfl rfl ?_
                refine o_nil0 rfl ?_
                refine c_seq ?_
                refine c_region ?_
                refine o_T (y_move rfl) rfl ?_
                refine o_call en_169 rfl (t169 _ ps pr _ _ _ hk_12) (s_skip (s_skip (s_skip (s_take (s_take (s_take s_nil)))))) rfl ?_
                rintro v S' ⟨gv_19, gd_5, hl_19, rfl, hk_13, hp_5⟩
                have hk_13_s := hk_13.s
                have hk_13_r := hk_13.r
                obtain ⟨hk_13_x1, hk_13_x2, hk_13_x3, hk_13_x4, hk_13_x5, hk_13_x6, hk_13_x7⟩ := hk_13.x
                try dsimp only at hk_13_s hk_13_r
                refine o_L (y_assign rfl) rfl rfl ?_
                refine o_nil0 rfl ?_
                refine c_seq ?_
                refine c_region ?_
                refine o_T (y_move rfl) rfl ?_
                refine o_T (y_move rfl) rfl ?_
                refine o_lapp sz_185 rfl rfl rfl hl_18 hl_19 segR_plain (s_get (ks (ks (ks (ks (ks k0))))) (s_get (ks (ks (ks (ks (ks k0))))) (s_get k0 (s_get k0 s_nil)))) (lapp_b (by simp) (Nat.le_trans hp_5 (by decide))) (lapp_c (by simp) (Nat.le_trans hp_5 (by decide))) rfl (fun v_10 gv_20 hl_20 => ?_)
                refine o_L (y_assign rfl) rfl rfl ?_
                refine o_nil0 rfl ?_
                refine c_seq ?_
                refine c_seq ?_
                refine c_region ?_
                refine o_T (y_move rfl) rfl ?_
                refine o_T (y_nilck rfl) rfl ?_
                refine o_T (y_fa fl_167_6 rfl) rfl ?_
                refine o_ld one_4 rfl (ms (ms m0)) Cn.g6 rfl ?_
                refine o_T (y_move rfl) rfl ?_
                refine o_split 114 rfl (fun h145 => ?_) (fun h145 => ?_)
                · try simp only [decide_eq_true_eq, decide_eq_false_iff_not, Bool.not_eq_true', Bool.not_eq_false', Int.not_lt, Int.not_le, Decidable.not_not, beq_iff_eq, bne_iff_ne, ne_eq, beq_eq_false_iff_ne] at h145
                  refine o_take rfl rfl rfl ?_
                  refine o_T (y_move rfl) rfl ?_
                  refine o_take rfl rfl rfl ?_
                  refine o_T (y_nilck rfl) rfl ?_
                  refine o_take rfl rfl rfl ?_
                  refine o_T (y_fa fl_167_7 rfl) rfl ?_
                  refine o_take rfl rfl rfl ?_
                  refine o_ld one_4 rfl (ms (ms m0)) Cn.g7 rfl ?_
                  refine o_T (y_pickT rfl rfl) rfl ?_
                  refine o_nil1 119 rfl rfl ?_
                  refine c_cond rfl (fun h145_1 => ?_) (fun h145_1 => ?_)
                  · try simp only [decide_eq_true_eq, decide_eq_false_iff_not, Bool.not_eq_true', Bool.not_eq_false', Int.not_lt, Int.not_le, Decidable.not_not, beq_iff_eq, bne_iff_ne, ne_eq, beq_eq_false_iff_ne] at h145_1
                    refine c_seq ?_
                    refine c_region ?_
                    refine o_T (y_move rfl) rfl ?_
                    refine o_T (y_nilck rfl) rfl ?_
                    refine o_T (y_fa fl_167_2 rfl) rfl ?_
                    refine o_st one_3 rfl rfl rfl (rs (rs r0)) Cn.s2 (of_blt rfl) ?_
                    refine o_nil0 rfl ?_
                    refine c_seq ?_
                    refine c_region ?_
                    refine o_T (y_move rfl) rfl ?_
                    refine o_T (y_nilck rfl) rfl ?_
                    refine o_T (y_fa fl_167_13 rfl) rfl ?_
                    refine o_st one_3 rfl rfl rfl (rs (rs r0)) Cn.s13 (of_blt rfl) ?_
                    refine o_nil0 rfl ?_
                    refine c_seq ?_
                    refine c_region ?_
                    refine o_T (y_move rfl) rfl ?_
                    refine o_T (y_nilck rfl) rfl ?_
                    refine o_T (y_fa fl_167_10 rfl) rfl ?_
                    refine o_st one_3 rfl rfl rfl (rs (rs r0)) Cn.s10 (of_blt rfl) ?_
                    refine o_nil0 rfl ?_
                    refine c_seq ?_
                    refine c_region ?_
                    refine o_T (y_move rfl) rfl ?_
                    refine o_T (y_nilck rfl) rfl ?_
                    refine o_T (y_fa fl_167_11 rfl) rfl ?_
                    refine o_st one_3 rfl rfl rfl (rs (rs r0)) Cn.s11 (of_blt rfl) ?_
                    refine o_nil0 rfl ?_
                    refine c_seq ?_
                    refine c_region ?_
                    refine o_T (y_move rfl) rfl ?_
                    refine o_T (y_nilck rfl) rfl ?_
                    refine o_T (y_fa fl_167_12 rfl) rfl ?_
                    refine o_st one_3 rfl rfl rfl (rs (rs r0)) Cn.s12 (of_blt rfl) ?_
                    refine o_nil0 rfl ?_
                    refine c_region ?_
                    refine o_T (y_move rfl) rfl ?_
                    refine o_T (y_nilck rfl) rfl ?_
                    refine o_T (y_fa fl_167_9 rfl) rfl ?_
                    refine o_st one_3 rfl rfl rfl (rs (rs r0)) Cn.s9 (of_blt rfl) ?_
                    refine o_nil0 rfl ?_
                    refine c_seq ?_
                    refine c_region ?_
                    refine o_T (y_move rfl) rfl ?_
                    refine o_L (y_assign rfl) rfl rfl ?_
                    refine o_nil0 rfl ?_
                    refine c_ret ?_
                    refine fun aX wX heX hsX => ret1 Tryz.results195 heX rfl (s_take (s_take (s_take (s_take (s_take (s_skip (s_take s_nil))))))) ?_
                    first | (exfalso; omega) | (have ok9 := (Conn.ok_inSync ok0 hg).1; have e1 := inSync_ack (c := (⟨x, s, r⟩ : Conn)) (s := g) (by omega) (by omega) (by omega) h126; have e2 := inAck_yes (c := (⟨x, s, r⟩ : Conn)) (s := g) h133; have e3 := inData_t (c := ((⟨x, s, r⟩ : Conn).acked g).2) (s := g) (by first | exact .inl (by omega) | exact .inr (by omega)); have e4 := goodEnd_t (c := (((⟨x, s, r⟩ : Conn).acked g).2.take g).pump.1) h145 h145_1; rw [e1, e2, e3, e4] at ok9 ⊢; exact ⟨_, _, hl_20, rfl, ok9⟩)
                  · try simp only [decide_eq_true_eq, decide_eq_false_iff_not, Bool.not_eq_true', Bool.not_eq_false', Int.not_lt, Int.not_le, Decidable.not_not, beq_iff_eq, bne_iff_ne, ne_eq, beq_eq_false_iff_ne] at h145_1
                    refine c_skip ?_
                    refine c_seq ?_
                    refine c_region ?_
                    refine o_T (y_move rfl) rfl ?_
                    refine o_L (y_assign rfl) rfl rfl ?_
                    refine o_nil0 rfl ?_
                    refine c_ret ?_
                    refine fun aX wX heX hsX => ret1 Tryz.results195 heX rfl (s_take (s_take (s_take (s_take (s_take (s_skip (s_take s_nil))))))) ?_
                    first | (exfalso; omega) | (have ok9 := (Conn.ok_inSync ok0 hg).1; have e1 := inSync_ack (c := (⟨x, s, r⟩ : Conn)) (s := g) (by omega) (by omega) (by omega) h126; have e2 := inAck_yes (c := (⟨x, s, r⟩ : Conn)) (s := g) h133; have e3 := inData_t (c := ((⟨x, s, r⟩ : Conn).acked g).2) (s := g) (by first | exact .inl (by omega) | exact .inr (by omega)); have e4 := goodEnd_f (c := (((⟨x, s, r⟩ : Conn).acked g).2.take g).pump.1) (fun z => nomatch (h145_1.symm.trans z.2 : false = true)); rw [e1, e2, e3, e4] at ok9 ⊢; exact ⟨_, _, hl_20, rfl, ok9⟩)
                · try simp only [decide_eq_true_eq, decide_eq_false_iff_not, Bool.not_eq_true', Bool.not_eq_false', Int.not_lt, Int.not_le, Decidable.not_not, beq_iff_eq, bne_iff_ne, ne_eq, beq_eq_false_iff_ne] at h145
                  refine o_pass rfl rfl rfl rfl rfl ?_
                  refine o_pass rfl rfl rfl rfl rfl ?_
                  refine o_pass rfl rfl rfl rfl rfl ?_
                  refine o_pass rfl rfl rfl rfl rfl ?_
                  refine o_T (y_pickF rfl rfl) rfl ?_
                  refine o_nil1 119 rfl rfl ?_
                  refine c_condF rfl ?_
                  refine c_skip ?_
                  refine c_seq ?_
                  refine c_region ?_
                  refine o_T (y_move rfl) rfl ?_
                  refine o_L (y_assign rfl) rfl rfl ?_
                  refine o_nil0 rfl ?_
                  refine c_ret ?_
                  refine fun aX wX heX hsX => ret1 Tryz.results195 heX rfl (s_take (s_take (s_take (s_take (s_take (s_skip (s_take s_nil))))))) ?_
                  first | (exfalso; omega) | (have ok9 := (Conn.ok_inSync ok0 hg).1; have e1 := inSync_ack (c := (⟨x, s, r⟩ : Conn)) (s := g) (by omega) (by omega) (by omega) h126; have e2 := inAck_yes (c := (⟨x, s, r⟩ : Conn)) (s := g) h133; have e3 := inData_t (c := ((⟨x, s, r⟩ : Conn).acked g).2) (s := g) (by first | exact .inl (by omega) | exact .inr (by omega)); have e4 := goodEnd_f (c := (((⟨x, s, r⟩ : Conn).acked g).2.take g).pump.1) (fun z => nomatch (h145.symm.trans z.1 : false = true)); rw [e1, e2, e3, e4] at ok9 ⊢; exact ⟨_, _, hl_20, rfl, ok9⟩)
              · try simp only [decide_eq_true_eq, decide_eq_false_iff_not, Bool.not_eq_true', Bool.not_eq_false', Int.not_lt, Int.not_le, Decidable.not_not, beq_iff_eq, bne_iff_ne, ne_eq, beq_eq_false_iff_ne] at h138_1
                refine c_skip ?_
                refine c_seq ?_
                refine c_region ?_
                refine o_T (y_move rfl) rfl ?_
                refine o_call en_169 rfl (t169 _ ps pr _ _ _ hk_9) (s_take (s_take (s_take s_nil))) rfl ?_
                rintro v S' ⟨gv_21, gd_6, hl_21, rfl, hk_14, hp_6⟩
                have hk_14_s := hk_14.s
                have hk_14_r := hk_14.r
                obtain ⟨hk_14_x1, hk_14_x2, hk_14_x3, hk_14_x4, hk_14_x5, hk_14_x6, hk_14_x7⟩ := hk_14.x
                try dsimp only at hk_14_s hk_14_r
                refine o_L (y_assign rfl) rfl rfl ?_
                refine o_nil0 rfl ?_
                refine c_seq ?_
                refine c_region ?_
                refine o_T (y_move rfl) rfl ?_
                refine o_T (y_move rfl) rfl ?_
                refine o_lapp sz_185 rfl rfl rfl hl_1 hl_21 segR_plain (s_get (ks (ks (ks (ks (ks k0))))) (s_get (ks (ks (ks (ks (ks k0))))) (s_get k0 (s_get k0 s_nil)))) (lapp_b (by simp) (Nat.le_trans hp_6 (by decide))) (lapp_c (by simp) (Nat.le_trans hp_6 (by decide))) rfl (fun v_11 gv_22 hl_22 => ?_)
                refine o_L (y_assign rfl) rfl rfl ?_
                refine o_nil0 rfl ?_
                refine c_seq ?_
                refine c_seq ?_
                refine c_region ?_
                refine o_T (y_move rfl) rfl ?_
                refine o_T (y_nilck rfl) rfl ?_
                refine o_T (y_fa fl_167_6 rfl) rfl ?_
                refine o_ld one_4 rfl (ms (ms m0)) Cn.g6 rfl ?_
                refine o_T (y_move rfl) rfl ?_
                refine o_split 114 rfl (fun h145 => ?_) (fun h145 => ?_)
                · try simp only [decide_eq_true_eq, decide_eq_false_iff_not, Bool.not_eq_true', Bool.not_eq_false', Int.not_lt, Int.not_le, Decidable.not_not, beq_iff_eq, bne_iff_ne, ne_eq, beq_eq_false_iff_ne] at h145
                  refine o_take rfl rfl rfl ?_
                  refine o_T (y_move rfl) rfl ?_
                  refine o_take rfl rfl rfl ?_
                  refine o_T (y_nilck rfl) rfl ?_
                  refine o_take rfl rfl rfl ?_
                  refine o_T (y_fa fl_167_7 rfl) rfl ?_
                  refine o_take rfl rfl rfl ?_
                  refine o_ld one_4 rfl (ms (ms m0)) Cn.g7 rfl ?_
                  refine o_T (y_pickT rfl rfl) rfl ?_
                  refine o_nil1 119 rfl rfl ?_
                  refine c_cond rfl (fun h145_1 => ?_) (fun h145_1 => ?_)
                  · try simp only [decide_eq_true_eq, decide_eq_false_iff_not, Bool.not_eq_true', Bool.not_eq_false', Int.not_lt, Int.not_le, Decidable.not_not, beq_iff_eq, bne_iff_ne, ne_eq, beq_eq_false_iff_ne] at h145_1
                    refine c_seq ?_
                    refine c_region ?_
                    refine o_T (y_move rfl) rfl ?_
                    refine o_T (y_nilck rfl) rfl ?_
                    refine o_T (y_fa fl_167_2 rfl) rfl ?_
                    refine o_st one_3 rfl rfl rfl (rs (rs r0)) Cn.s2 (of_blt rfl) ?_
                    refine o_nil0 rfl ?_
                    refine c_seq ?_
                    refine c_region ?_
                    refine o_T (y_move rfl) rfl ?_
                    refine o_T (y_nilck rfl) rfl ?_
                    refine o_T (y_fa fl_167_13 rfl) rfl ?_
                    refine o_st one_3 rfl rfl rfl (rs (rs r0)) Cn.s13 (of_blt rfl) ?_
                    refine o_nil0 rfl ?_
                    refine c_seq ?_
                    refine c_region ?_
                    refine o_T (y_move rfl) rfl ?_
                    refine o_T (y_nilck rfl) rfl ?_
                    refine o_T (y_fa fl_167_10 rfl) rfl ?_
                    refine o_st one_3 rfl rfl rfl (rs (rs r0)) Cn.s10 (of_blt rfl) ?_
                    refine o_nil0 rfl ?_
                    refine c_seq ?_
                    refine c_region ?_
                    refine o_T (y_move rfl) rfl ?_
                    refine o_T (y_nilck rfl) rfl ?_
                    refine o_T (y_fa fl_167_11 rfl) rfl ?_
                    refine o_st one_3 rfl rfl rfl (rs (rs r0)) Cn.s11 (of_blt rfl) ?_
                    refine o_nil0 rfl ?_
                    refine c_seq ?_
                    refine c_region ?_
                    refine o_T (y_move rfl) rfl ?_
                    refine o_T (y_nilck rfl) rfl ?_
                    refine o_T (y_fa fl_167_12 rfl) rfl ?_
                    refine o_st one_3 rfl rfl rfl (rs (rs r0)) Cn.s12 (of_blt rfl) ?_
                    refine o_nil0 rfl ?_
                    refine c_region ?_
                    refine o_T (y_move rfl) rfl ?_
                    refine o_T (y_nilck rfl) rfl ?_
                    refine o_T (y_fa fl_167_9 rfl) rfl ?_
                    refine o_st one_3 rfl rfl rfl (rs (rs r0)) Cn.s9 (of_blt rfl) ?_
                    refine o_nil0 rfl ?_
                    refine c_seq ?_
                    refine c_region ?_
                    refine o_T (y_move rfl) rfl ?_
                    refine o_L (y_assign rfl) rfl rfl ?_
                    refine o_nil0 rfl ?_
                    refine c_ret ?_
                    refine fun aX wX heX hsX => ret1 Tryz.results195 heX rfl (s_take (s_take (s_take (s_take (s_take (s_skip (s_take s_nil))))))) ?_
                    first | (exfalso; omega) | (have ok9 := (Conn.ok_inSync ok0 hg).1; have e1 := inSync_ack (c := (⟨x, s, r⟩ : Conn)) (s := g) (by omega) (by omega) (by omega) h126; have e2 := inAck_yes (c := (⟨x, s, r⟩ : Conn)) (s := g) h133; have e3 := inData_f (c := ((⟨x, s, r⟩ : Conn).acked g).2) (s := g) (by omega); have e4 := goodEnd_t (c := ((⟨x, s, r⟩ : Conn).acked g).2.pump.1) h145 h145_1; rw [e1, e2, e3, e4] at ok9 ⊢; exact ⟨_, _, hl_22, rfl, ok9⟩)
                  · try simp only [decide_eq_true_eq, decide_eq_false_iff_not, Bool.not_eq_true', Bool.not_eq_false', Int.not_lt, Int.not_le, Decidable.not_not, beq_iff_eq, bne_iff_ne, ne_eq, beq_eq_false_iff_ne] at h145_1
                    refine c_skip ?_
                    refine c_seq ?_
                    refine c_region ?_
                    refine o_T (y_move rfl) rfl ?_
                    refine o_L (y_assign rfl) rfl rfl ?_
                    refine o_nil0 rfl ?_
                    refine c_ret ?_
                    refine fun aX wX heX hsX => ret1 Tryz.results195 heX rfl (s_take (s_take (s_take (s_take (s_take (s_skip (s_take s_nil))))))) ?_
                    first | (exfalso; omega) | (have ok9 := (Conn.ok_inSync ok0 hg).1; have e1 := inSync_ack (c := (⟨x, s, r⟩ : Conn)) (s := g) (by omega) (by omega) (by omega) h126; have e2 := inAck_yes (c := (⟨x, s, r⟩ : Conn)) (s := g) h133; have e3 := inData_f (c := ((⟨x, s, r⟩ : Conn).acked g).2) (s := g) (by omega); have e4 := goodEnd_f (c := ((⟨x, s, r⟩ : Conn).acked g).2.pump.1) (fun z => nomatch (h145_1.symm.trans z.2 : false = true)); rw [e1, e2, e3, e4] at ok9 ⊢; exact ⟨_, _, hl_22, rfl, ok9⟩)
                · try simp only [decide_eq_true_eq, decide_eq_false_iff_not, Bool.not_eq_true', Bool.not_eq_false', Int.not_lt, Int.not_le, Decidable.not_not, beq_iff_eq, bne_iff_ne, ne_eq, beq_eq_false_iff_ne] at h145
                  refine o_pass rfl rfl rfl rfl rfl ?_
                  refine o_pass rfl rfl rfl rfl rfl ?_
                  refine o_pass rfl rfl rfl rfl rfl ?_
                  refine o_pass rfl rfl rfl rfl rfl ?_
                  refine o_T (y_pickF rfl rfl) rfl ?_
                  refine o_nil1 119 rfl rfl ?_
                  refine c_condF rfl ?_
                  refine c_skip ?_
                  refine c_seq ?_
                  refine c_region ?_
                  refine o_T (y_move rfl) rfl ?_
                  refine o_L (y_assign rfl) rfl rfl ?_
                  refine o_nil0 rfl ?_
                  refine c_ret ?_
                  refine fun aX wX heX hsX => ret1 Tryz.results195 heX rfl (s_take (s_take (s_take (s_take (s_take (s_skip (s_take s_nil))))))) ?_
                  first | (exfalso; omega) | (have ok9 := (Conn.ok_inSync ok0 hg).1; have e1 := inSync_ack (c := (⟨x, s, r⟩ : Conn)) (s := g) (by omega) (by omega) (by omega) h126; have e2 := inAck_yes (c := (⟨x, s, r⟩ : Conn)) (s := g) h133; have e3 := inData_f (c := ((⟨x, s, r⟩ : Conn).acked g).2) (s := g) (by omega); have e4 := goodEnd_f (c := ((⟨x, s, r⟩ : Conn).acked g).2.pump.1) (fun z => nomatch (h145.symm.trans z.1 : false = true)); rw [e1, e2, e3, e4] at ok9 ⊢; exact ⟨_, _, hl_22, rfl, ok9⟩)
theorem u195 (b ps pr : Nat) (k : Cn) (hk1 : k.sb = ptr ps) (hk2 : k.rb = ptr pr) (s : Sb) (r : Rb) (b2 : Nat) (g : Seg) (ok : Conn.Ok ⟨(Cn.cs k), s, r⟩) (hg : g.Ok) : Trip Tryz.prog 195 #[.pointer (some ⟨b, 0, none⟩), .agg (segC b2 g).enc] [[(b, .cells k.enc 167 (0, 0))], [(ps, .cells s.enc 162 (0, 0))], [(pr, .cells r.enc 165 (0, 0))], byG b2 g.data 5] (fun u S' => ∃ gv gd, Segs u (((⟨(Cn.cs k), s, r⟩ : Conn).inSync g).2) gv gd ∧ S' = [gv, gd, [(b, .cells ((((⟨(Cn.cs k), s, r⟩ : Conn).inSync g).1).x.cn ps pr).enc 167 (0, 0))], [(ps, .cells (((⟨(Cn.cs k), s, r⟩ : Conn).inSync g).1).s.enc 162 (0, 0))], [(pr, .cells (((⟨(Cn.cs k), s, r⟩ : Conn).inSync g).1).r.enc 165 (0, 0))], byG b2 g.data 5] ∧ (((⟨(Cn.cs k), s, r⟩ : Conn).inSync g).1).Ok) := by
  obtain ⟨a1, a2, a3, a4, a5, a6, a7, a8, a9, a10, a11, a12, a13, a14⟩ := k
  dsimp only at hk1 hk2
  subst hk1 hk2
  exact t195 b ps pr (Cs.mk a3 a4 a5 a6 a7 a8 a9 a10 a11 a12 a13 a14) s r b2 g ok hg

end Go.Proofs.Qxb6500351aGreat
