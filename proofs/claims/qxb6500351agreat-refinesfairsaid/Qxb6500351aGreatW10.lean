/- MADE BY PROGRAM (tools/gen.py over tools/specs351.py): walks. -/
import Derived.Test.Qxb6500351aGreatFacts
import Derived.Test.Qxb6500351aGreatW9
import Derived.Test.Qxb6500351aGreatMd6
set_option linter.unusedVariables false
set_option linter.unusedSimpArgs false
namespace Go.Proofs.Qxb6500351aGreat
open Go.Eng
set_option maxRecDepth 20000
set_option maxHeartbeats 4000000
/-- (*e2e/conn.Conn).Input -/
theorem t157 (b ps pr : Nat) (x : Cs) (s : Sb) (r : Rb) (b2 : Nat) (g : Seg) (ok : Conn.Ok ⟨x, s, r⟩) (hg : g.Ok) : Trip Tryz.prog 157 #[.pointer (some ⟨b, 0, none⟩), .agg (segC b2 g).enc] [[(b, .cells (x.cn ps pr).enc 167 (0, 0))], [(ps, .cells s.enc 162 (0, 0))], [(pr, .cells r.enc 165 (0, 0))], byG b2 g.data 5] (fun u S' => ∃ gv gd, Segs u (((⟨x, s, r⟩ : Conn).input g).2) gv gd ∧ S' = [gv, gd, [(b, .cells ((((⟨x, s, r⟩ : Conn).input g).1).x.cn ps pr).enc 167 (0, 0))], [(ps, .cells (((⟨x, s, r⟩ : Conn).input g).1).s.enc 162 (0, 0))], [(pr, .cells (((⟨x, s, r⟩ : Conn).input g).1).r.enc 165 (0, 0))], byG b2 g.data 5] ∧ (((⟨x, s, r⟩ : Conn).input g).1).Ok) := by
  have ok0 := ok
  have okS : s.Ok := ok.s
  have okR : r.Ok := ok.r
  obtain ⟨x1, x2, x3, x4, x5, x6, x7⟩ := ok.x
  obtain ⟨k1, k2, k3, k4, k5, k6, k7, k8⟩ := ok.s
  obtain ⟨j1, j2, j3, j4, j5, j6, j7, j8⟩ := ok.r
  dsimp only at x1 x2 x3 x4 x5 x6 x7 k1 k2 k3 k4 k5 k6 k7 k8 j1 j2 j3 j4 j5 j6 j7 j8
  have hq1 := hg.seq
  have hq2 := hg.ack
  refine fn_entry (args := [.pointer (some ⟨b, 0, none⟩), .agg (segC b2 g).enc]) Tryz.func157 rfl Tryz.ntmps157 rfl (fun w0 => ?_)
  refine c_seq ?_
  refine c_region ?_
  refine o_box rfl rfl rfl rfl (fun b_1 => ?_)
  refine o_L (y_assign rfl) rfl rfl ?_
  refine o_nil0 rfl ?_
  refine c_seq ?_
  refine c_region ?_
  refine o_T (y_fa fl_178_2 rfl) rfl ?_
  refine o_ld one_3 rfl m0 Sg.g2 rfl ?_
  refine o_callv en_143 rfl (t143i _ _ rfl (by assumption)) rfl ?_
  refine o_T (y_fa fl_178_2 rfl) rfl ?_
  refine o_st one_3 rfl rfl rfl r0 Sg.s2 (of_blt rfl) ?_
  refine o_nil0 rfl ?_
  refine c_seq ?_
  refine c_region ?_
  refine o_T (y_fa fl_178_3 rfl) rfl ?_
  refine o_ld one_3 rfl m0 Sg.g3 rfl ?_
  refine o_callv en_143 rfl (t143i _ _ rfl (by assumption)) rfl ?_
  refine o_T (y_fa fl_178_3 rfl) rfl ?_
  refine o_st one_3 rfl rfl rfl r0 Sg.s3 (of_blt rfl) ?_
  refine o_nil0 rfl ?_
  refine c_seq ?_
  refine c_region ?_
  refine o_T (y_fa fl_178_4 rfl) rfl ?_
  refine o_ld one_3 rfl m0 Sg.g4 rfl ?_
  refine o_T (y_and rfl rfl (fl15 hg.flags)) rfl ?_
  refine o_T (y_fa fl_178_4 rfl) rfl ?_
  refine o_st one_3 rfl rfl rfl r0 Sg.s4 (of_blt rfl) ?_
  refine o_nil0 rfl ?_
  refine c_seq ?_
  refine c_seq ?_
  refine c_row (g' := [(b_1, .cells (segC b2 g).enc 178 (0, 0))]) q0 rfl ?_
  refine c_region ?_
  refine o_T (y_move rfl) rfl ?_
  refine o_T (y_nilck rfl) rfl ?_
  refine o_T (y_fa fl_167_2 rfl) rfl ?_
  refine o_ld one_3 rfl (ms m0) Cn.g2 rfl ?_
  refine o_nil1 20 rfl rfl ?_
  refine c_block ?_
  refine c_seq ?_
  refine c_region ?_
  refine o_T (y_eql rfl rfl) rfl ?_
  refine o_L (y_assign rfl) rfl rfl ?_
  refine o_nil0 rfl ?_
  refine c_cond rfl (fun h56 => ?_) (fun h56 => ?_)
  · try simp only [decide_eq_true_eq, decide_eq_false_iff_not, Bool.not_eq_true', Bool.not_eq_false', Int.not_lt, Int.not_le, Decidable.not_not, beq_iff_eq, bne_iff_ne, ne_eq, beq_eq_false_iff_ne] at h56
    refine c_seq ?_
    refine c_region ?_
    refine o_T (y_move rfl) rfl ?_
    refine o_ldw ag_178 rfl m0 rfl rfl ?_
    refine o_call en_193 rfl (t193 _ ps pr x _ _ _ _ ok0 hg) (s_skip (s_take (s_take (s_take s_nil)))) rfl ?_
    rintro v S' ⟨gv_1, gd_1, hl_1, rfl⟩
    refine o_L (y_assign rfl) rfl rfl ?_
    refine o_nil0 rfl ?_
    refine c_ret ?_
    refine fun aX wX heX hsX => ret1 Tryz.results157 heX rfl (s_take (s_take (s_take (s_take (s_take (s_skip (s_take s_nil))))))) ?_
    first | (exfalso; omega) | (have ok9 := (Conn.ok_input ok0 hg).1; have e1 : (⟨x, s, r⟩ : Conn).input g = ((⟨x, s, r⟩ : Conn), (⟨x, s, r⟩ : Conn).inQuiet g) := (by unfold Conn.input; (repeat' split) <;> first | rfl | (exfalso; omega) | (exfalso; (try dsimp only at *); omega)); rw [e1] at ok9 ⊢; exact ⟨_, _, hl_1, rfl, ok9⟩)
  · try simp only [decide_eq_true_eq, decide_eq_false_iff_not, Bool.not_eq_true', Bool.not_eq_false', Int.not_lt, Int.not_le, Decidable.not_not, beq_iff_eq, bne_iff_ne, ne_eq, beq_eq_false_iff_ne] at h56
    refine c_seq ?_
    refine c_region ?_
    refine o_T (y_eql rfl rfl) rfl ?_
    refine o_L (y_assign rfl) rfl rfl ?_
    refine o_nil0 rfl ?_
    refine c_cond rfl (fun h58 => ?_) (fun h58 => ?_)
    · try simp only [decide_eq_true_eq, decide_eq_false_iff_not, Bool.not_eq_true', Bool.not_eq_false', Int.not_lt, Int.not_le, Decidable.not_not, beq_iff_eq, bne_iff_ne, ne_eq, beq_eq_false_iff_ne] at h58
      refine c_seq ?_
      refine c_region ?_
      refine o_T (y_move rfl) rfl ?_
      refine o_ldw ag_178 rfl m0 rfl rfl ?_
      refine o_call en_194 rfl (t194 _ ps pr x _ _ _ _ ok0 hg) (s_skip (s_take (s_take (s_take s_nil)))) rfl ?_
      rintro v S' ⟨gv_2, gd_2, hl_2, rfl, hk_1⟩
      have hk_1_s := hk_1.s
      have hk_1_r := hk_1.r
      obtain ⟨hk_1_x1, hk_1_x2, hk_1_x3, hk_1_x4, hk_1_x5, hk_1_x6, hk_1_x7⟩ := hk_1.x
      try dsimp only at hk_1_s hk_1_r
      refine o_L (y_assign rfl) rfl rfl ?_
      refine o_nil0 rfl ?_
      refine c_ret ?_
      refine fun aX wX heX hsX => ret1 Tryz.results157 heX rfl (s_take (s_take (s_take (s_take (s_take (s_skip (s_take s_nil))))))) ?_
      first | (exfalso; omega) | (have ok9 := (Conn.ok_input ok0 hg).1; have e1 : (⟨x, s, r⟩ : Conn).input g = (⟨x, s, r⟩ : Conn).inSynSent g := (by unfold Conn.input; (repeat' split) <;> first | rfl | (exfalso; omega) | (exfalso; (try dsimp only at *); omega)); rw [e1] at ok9 ⊢; exact ⟨_, _, hl_2, rfl, ok9⟩)
    · try simp only [decide_eq_true_eq, decide_eq_false_iff_not, Bool.not_eq_true', Bool.not_eq_false', Int.not_lt, Int.not_le, Decidable.not_not, beq_iff_eq, bne_iff_ne, ne_eq, beq_eq_false_iff_ne] at h58
      refine c_seq ?_
      refine c_seq ?_
      refine c_region ?_
      refine o_T (y_eql rfl rfl) rfl ?_
      refine o_L (y_assign rfl) rfl rfl ?_
      refine o_nil0 rfl ?_
      refine c_cond rfl (fun h60 => ?_) (fun h60 => ?_)
      · try simp only [decide_eq_true_eq, decide_eq_false_iff_not, Bool.not_eq_true', Bool.not_eq_false', Int.not_lt, Int.not_le, Decidable.not_not, beq_iff_eq, bne_iff_ne, ne_eq, beq_eq_false_iff_ne] at h60
        refine c_skip ?_
        refine c_cond rfl (fun h60_1 => ?_) (fun h60_1 => ?_)
        · try simp only [decide_eq_true_eq, decide_eq_false_iff_not, Bool.not_eq_true', Bool.not_eq_false', Int.not_lt, Int.not_le, Decidable.not_not, beq_iff_eq, bne_iff_ne, ne_eq, beq_eq_false_iff_ne] at h60_1
          refine c_seq ?_
          refine c_region ?_
          refine o_T (y_move rfl) rfl ?_
          refine o_ldw ag_178 rfl m0 rfl rfl ?_
          refine o_call en_195 rfl (t195 _ ps pr x _ _ _ _ ok0 hg) (s_skip (s_take (s_take (s_take (s_take s_nil))))) rfl ?_
          rintro v S' ⟨gv_3, gd_3, hl_3, rfl, hk_2⟩
          have hk_2_s := hk_2.s
          have hk_2_r := hk_2.r
          obtain ⟨hk_2_x1, hk_2_x2, hk_2_x3, hk_2_x4, hk_2_x5, hk_2_x6, hk_2_x7⟩ := hk_2.x
          try dsimp only at hk_2_s hk_2_r
          refine o_L (y_assign rfl) rfl rfl ?_
          refine o_nil0 rfl ?_
          refine c_ret ?_
          refine fun aX wX heX hsX => ret1 Tryz.results157 heX rfl (s_take (s_take (s_take (s_take (s_take (s_take s_nil)))))) ?_
          first | (exfalso; omega) | (have ok9 := (Conn.ok_input ok0 hg).1; have e1 : (⟨x, s, r⟩ : Conn).input g = (⟨x, s, r⟩ : Conn).inSync g := (by unfold Conn.input; (repeat' split) <;> first | rfl | (exfalso; omega) | (exfalso; (try dsimp only at *); omega)); rw [e1] at ok9 ⊢; exact ⟨_, _, hl_3, rfl, ok9⟩)
        · try simp only [decide_eq_true_eq, decide_eq_false_iff_not, Bool.not_eq_true', Bool.not_eq_false', Int.not_lt, Int.not_le, Decidable.not_not, beq_iff_eq, bne_iff_ne, ne_eq, beq_eq_false_iff_ne] at h60_1
          refine c_skip ?_
          refine c_seq ?_
          refine c_region ?_
          refine o_lbs0 (R := segR) sz_185 rfl (fun v_1 gv_4 hl_4 => ?_)
          refine o_L (y_assign rfl) rfl rfl ?_
          refine o_nil0 rfl ?_
          refine c_ret ?_
          refine fun aX wX heX hsX => ret1 Tryz.results157 heX rfl (s_take (s_take (s_skip (s_take (s_take (s_take (s_take s_nil))))))) ?_
          first | (exfalso; omega) | (have ok9 := (Conn.ok_input ok0 hg).1; have e1 : (⟨x, s, r⟩ : Conn).input g = (⟨x, s, r⟩ : Conn).inSync g := (by unfold Conn.input; (repeat' split) <;> first | rfl | (exfalso; omega) | (exfalso; (try dsimp only at *); omega)); rw [e1] at ok9 ⊢; exact ⟨_, _, hl_4, rfl, ok9⟩)
      · try simp only [decide_eq_true_eq, decide_eq_false_iff_not, Bool.not_eq_true', Bool.not_eq_false', Int.not_lt, Int.not_le, Decidable.not_not, beq_iff_eq, bne_iff_ne, ne_eq, beq_eq_false_iff_ne] at h60
        refine c_region ?_
        refine o_T (y_eql rfl rfl) rfl ?_
        refine o_L (y_assign rfl) rfl rfl ?_
        refine o_nil0 rfl ?_
        refine c_cond rfl (fun h60_1 => ?_) (fun h60_1 => ?_)
        · try simp only [decide_eq_true_eq, decide_eq_false_iff_not, Bool.not_eq_true', Bool.not_eq_false', Int.not_lt, Int.not_le, Decidable.not_not, beq_iff_eq, bne_iff_ne, ne_eq, beq_eq_false_iff_ne] at h60_1
          refine c_seq ?_
          refine c_region ?_
          refine o_T (y_move rfl) rfl ?_
          refine o_ldw ag_178 rfl m0 rfl rfl ?_
          refine o_call en_195 rfl (t195 _ ps pr x _ _ _ _ ok0 hg) (s_skip (s_take (s_take (s_take (s_take s_nil))))) rfl ?_
          rintro v S' ⟨gv_5, gd_4, hl_5, rfl, hk_3⟩
          have hk_3_s := hk_3.s
          have hk_3_r := hk_3.r
          obtain ⟨hk_3_x1, hk_3_x2, hk_3_x3, hk_3_x4, hk_3_x5, hk_3_x6, hk_3_x7⟩ := hk_3.x
          try dsimp only at hk_3_s hk_3_r
          refine o_L (y_assign rfl) rfl rfl ?_
          refine o_nil0 rfl ?_
          refine c_ret ?_
          refine fun aX wX heX hsX => ret1 Tryz.results157 heX rfl (s_take (s_take (s_take (s_take (s_take (s_take s_nil)))))) ?_
          first | (exfalso; omega) | (have ok9 := (Conn.ok_input ok0 hg).1; have e1 : (⟨x, s, r⟩ : Conn).input g = (⟨x, s, r⟩ : Conn).inSync g := (by unfold Conn.input; (repeat' split) <;> first | rfl | (exfalso; omega) | (exfalso; (try dsimp only at *); omega)); rw [e1] at ok9 ⊢; exact ⟨_, _, hl_5, rfl, ok9⟩)
        · try simp only [decide_eq_true_eq, decide_eq_false_iff_not, Bool.not_eq_true', Bool.not_eq_false', Int.not_lt, Int.not_le, Decidable.not_not, beq_iff_eq, bne_iff_ne, ne_eq, beq_eq_false_iff_ne] at h60_1
          refine c_skip ?_
          refine c_seq ?_
          refine c_region ?_
          refine o_lbs0 (R := segR) sz_185 rfl (fun v_2 gv_6 hl_6 => ?_)
          refine o_L (y_assign rfl) rfl rfl ?_
          refine o_nil0 rfl ?_
          refine c_ret ?_
          refine fun aX wX heX hsX => ret1 Tryz.results157 heX rfl (s_take (s_take (s_skip (s_take (s_take (s_take (s_take s_nil))))))) ?_
          first | (exfalso; omega) | (have ok9 := (Conn.ok_input ok0 hg).1; have e1 : (⟨x, s, r⟩ : Conn).input g = ((⟨x, s, r⟩ : Conn), []) := (by unfold Conn.input; (repeat' split) <;> first | rfl | (exfalso; omega) | (exfalso; (try dsimp only at *); omega)); rw [e1] at ok9 ⊢; exact ⟨_, _, hl_6, rfl, ok9⟩)
theorem u157 (b ps pr : Nat) (k : Cn) (hk1 : k.sb = ptr ps) (hk2 : k.rb = ptr pr) (s : Sb) (r : Rb) (b2 : Nat) (g : Seg) (ok : Conn.Ok ⟨(Cn.cs k), s, r⟩) (hg : g.Ok) : Trip Tryz.prog 157 #[.pointer (some ⟨b, 0, none⟩), .agg (segC b2 g).enc] [[(b, .cells k.enc 167 (0, 0))], [(ps, .cells s.enc 162 (0, 0))], [(pr, .cells r.enc 165 (0, 0))], byG b2 g.data 5] (fun u S' => ∃ gv gd, Segs u (((⟨(Cn.cs k), s, r⟩ : Conn).input g).2) gv gd ∧ S' = [gv, gd, [(b, .cells ((((⟨(Cn.cs k), s, r⟩ : Conn).input g).1).x.cn ps pr).enc 167 (0, 0))], [(ps, .cells (((⟨(Cn.cs k), s, r⟩ : Conn).input g).1).s.enc 162 (0, 0))], [(pr, .cells (((⟨(Cn.cs k), s, r⟩ : Conn).input g).1).r.enc 165 (0, 0))], byG b2 g.data 5] ∧ (((⟨(Cn.cs k), s, r⟩ : Conn).input g).1).Ok) := by
  obtain ⟨a1, a2, a3, a4, a5, a6, a7, a8, a9, a10, a11, a12, a13, a14⟩ := k
  dsimp only at hk1 hk2
  subst hk1 hk2
  exact t157 b ps pr (Cs.mk a3 a4 a5 a6 a7 a8 a9 a10 a11 a12 a13 a14) s r b2 g ok hg

/-- (*e2e/conn.Conn).OpenActive -/
theorem t131 (b ps pr : Nat) (x : Cs) (s : Sb) (r : Rb) (iss : Int) (ok : Conn.Ok ⟨x, s, r⟩) (h0 : x.st = 0) : Trip Tryz.prog 131 #[.pointer (some ⟨b, 0, none⟩), .int .i64 iss] [[(b, .cells (x.cn ps pr).enc 167 (0, 0))], [(ps, .cells s.enc 162 (0, 0))], [(pr, .cells r.enc 165 (0, 0))]] (fun u S' => ∃ v gv gd, u = .tuple #[v, .int .i64 0] ∧ Segs v (((⟨x, s, r⟩ : Conn).openA iss)).2 gv gd ∧ S' = [gv, gd, [(b, .cells (((((⟨x, s, r⟩ : Conn).openA iss)).1).x.cn ps pr).enc 167 (0, 0))], [(ps, .cells ((((⟨x, s, r⟩ : Conn).openA iss)).1).s.enc 162 (0, 0))], [(pr, .cells ((((⟨x, s, r⟩ : Conn).openA iss)).1).r.enc 165 (0, 0))]] ∧ ((((⟨x, s, r⟩ : Conn).openA iss)).1).Ok) := by
  have ok0 := ok
  have okS : s.Ok := ok.s
  have okR : r.Ok := ok.r
  obtain ⟨x1, x2, x3, x4, x5, x6, x7⟩ := ok.x
  obtain ⟨k1, k2, k3, k4, k5, k6, k7, k8⟩ := ok.s
  obtain ⟨j1, j2, j3, j4, j5, j6, j7, j8⟩ := ok.r
  dsimp only at x1 x2 x3 x4 x5 x6 x7 k1 k2 k3 k4 k5 k6 k7 k8 j1 j2 j3 j4 j5 j6 j7 j8
  refine fn_entry (args := [.pointer (some ⟨b, 0, none⟩), .int .i64 iss]) Tryz.func131 rfl Tryz.ntmps131 rfl (fun w0 => ?_)
  refine c_seq ?_
  refine c_region ?_
  refine o_L (y_assign rfl) rfl rfl ?_
  refine o_L (y_assign rfl) rfl rfl ?_
  refine o_nil0 rfl ?_
  refine c_seq ?_
  refine c_seq ?_
  refine c_region ?_
  refine o_T (y_move rfl) rfl ?_
  refine o_T (y_nilck rfl) rfl ?_
  refine o_T (y_fa fl_167_2 rfl) rfl ?_
  refine o_ld one_3 rfl m0 Cn.g2 rfl ?_
  refine o_T (y_neq rfl rfl) rfl ?_
  refine o_nil1 11 rfl rfl ?_
  refine c_cond rfl (fun h7 => ?_) (fun h7 => ?_)
  · try simp only [decide_eq_true_eq, decide_eq_false_iff_not, Bool.not_eq_true', Bool.not_eq_false', Int.not_lt, Int.not_le, Decidable.not_not, beq_iff_eq, bne_iff_ne, ne_eq, beq_eq_false_iff_ne] at h7
    exfalso; omega
  · try simp only [decide_eq_true_eq, decide_eq_false_iff_not, Bool.not_eq_true', Bool.not_eq_false', Int.not_lt, Int.not_le, Decidable.not_not, beq_iff_eq, bne_iff_ne, ne_eq, beq_eq_false_iff_ne] at h7
    refine c_skip ?_
    refine c_seq ?_
    refine c_region ?_
    refine o_T (y_move rfl) rfl ?_
    refine o_T (y_move rfl) rfl ?_
    refine o_call en_178 rfl (t178 _ ps pr x _ _ _ _ ok0 (by omega)) (s_take (s_take (s_take s_nil))) rfl ?_
    rintro v S' ⟨rfl, rfl, hk_1⟩
    have hk_1_s := hk_1.s
    have hk_1_r := hk_1.r
    obtain ⟨hk_1_x1, hk_1_x2, hk_1_x3, hk_1_x4, hk_1_x5, hk_1_x6, hk_1_x7⟩ := hk_1.x
    try dsimp only at hk_1_s hk_1_r
    refine o_nil0 rfl ?_
    refine c_seq ?_
    refine c_region ?_
    refine o_T (y_move rfl) rfl ?_
    refine o_call en_168 rfl (t168 _ ps pr _ _ _ hk_1) (s_take (s_take (s_take s_nil))) rfl ?_
    rintro v S' ⟨b_1, rfl, rfl⟩
    refine o_alloc ze_178 rfl rfl (fun b_2 => ?_)
    refine o_sta ag_178 rfl rfl rfl rfl r0 (setAll_full _ _ rfl) (of_ble rfl) ?_
    refine o_nil0 rfl ?_
    refine c_seq ?_
    refine c_region ?_
    refine o_ldw ag_178 rfl m0 rfl rfl ?_
    refine o_call en_179 rfl (t179 _ _) (s_skip (s_take s_nil)) rfl ?_
    rintro v S' ⟨gv_1, hl_1, rfl⟩
    refine o_L (y_assign rfl) rfl rfl ?_
    refine o_L (y_assign rfl) rfl rfl ?_
    refine o_nil0 rfl ?_
    refine c_ret ?_
    refine fun aX wX heX hsX => ret2 Tryz.results131 heX rfl rfl (s_take (s_take (s_skip (s_take (s_take (s_take s_nil)))))) ?_
    exact ⟨_, _, _, rfl, hl_1, rfl, (Conn.ok_openA ok0 iss).1⟩
theorem u131 (b ps pr : Nat) (k : Cn) (hk1 : k.sb = ptr ps) (hk2 : k.rb = ptr pr) (s : Sb) (r : Rb) (iss : Int) (ok : Conn.Ok ⟨(Cn.cs k), s, r⟩) (h0 : (Cn.cs k).st = 0) : Trip Tryz.prog 131 #[.pointer (some ⟨b, 0, none⟩), .int .i64 iss] [[(b, .cells k.enc 167 (0, 0))], [(ps, .cells s.enc 162 (0, 0))], [(pr, .cells r.enc 165 (0, 0))]] (fun u S' => ∃ v gv gd, u = .tuple #[v, .int .i64 0] ∧ Segs v (((⟨(Cn.cs k), s, r⟩ : Conn).openA iss)).2 gv gd ∧ S' = [gv, gd, [(b, .cells (((((⟨(Cn.cs k), s, r⟩ : Conn).openA iss)).1).x.cn ps pr).enc 167 (0, 0))], [(ps, .cells ((((⟨(Cn.cs k), s, r⟩ : Conn).openA iss)).1).s.enc 162 (0, 0))], [(pr, .cells ((((⟨(Cn.cs k), s, r⟩ : Conn).openA iss)).1).r.enc 165 (0, 0))]] ∧ ((((⟨(Cn.cs k), s, r⟩ : Conn).openA iss)).1).Ok) := by
  obtain ⟨a1, a2, a3, a4, a5, a6, a7, a8, a9, a10, a11, a12, a13, a14⟩ := k
  dsimp only at hk1 hk2
  subst hk1 hk2
  exact t131 b ps pr (Cs.mk a3 a4 a5 a6 a7 a8 a9 a10 a11 a12 a13 a14) s r iss ok h0

/-- (*e2e/conn.Conn).OpenPassive -/
theorem t161 (b ps pr : Nat) (x : Cs) (s : Sb) (r : Rb) (iss : Int) (b2 : Nat) (g : Seg) (ok : Conn.Ok ⟨x, s, r⟩) (hg : g.Ok) (h0 : x.st = 0) (h1 : g.flags = 1) : Trip Tryz.prog 161 #[.pointer (some ⟨b, 0, none⟩), .int .i64 iss, .agg (segC b2 g).enc] [[(b, .cells (x.cn ps pr).enc 167 (0, 0))], [(ps, .cells s.enc 162 (0, 0))], [(pr, .cells r.enc 165 (0, 0))]] (fun u S' => ∃ v gv gd, u = .tuple #[v, .int .i64 0] ∧ Segs v (((⟨x, s, r⟩ : Conn).openP iss g)).2 gv gd ∧ S' = [gv, gd, [(b, .cells (((((⟨x, s, r⟩ : Conn).openP iss g)).1).x.cn ps pr).enc 167 (0, 0))], [(ps, .cells ((((⟨x, s, r⟩ : Conn).openP iss g)).1).s.enc 162 (0, 0))], [(pr, .cells ((((⟨x, s, r⟩ : Conn).openP iss g)).1).r.enc 165 (0, 0))]] ∧ ((((⟨x, s, r⟩ : Conn).openP iss g)).1).Ok) := by
  have ok0 := ok
  have okS : s.Ok := ok.s
  have okR : r.Ok := ok.r
  obtain ⟨x1, x2, x3, x4, x5, x6, x7⟩ := ok.x
  obtain ⟨k1, k2, k3, k4, k5, k6, k7, k8⟩ := ok.s
  obtain ⟨j1, j2, j3, j4, j5, j6, j7, j8⟩ := ok.r
  dsimp only at x1 x2 x3 x4 x5 x6 x7 k1 k2 k3 k4 k5 k6 k7 k8 j1 j2 j3 j4 j5 j6 j7 j8
  have hw := window_b g.wnd
  refine fn_entry (args := [.pointer (some ⟨b, 0, none⟩), .int .i64 iss, .agg (segC b2 g).enc]) Tryz.func161 rfl Tryz.ntmps161 rfl (fun w0 => ?_)
  refine c_seq ?_
  refine c_region ?_
  refine o_box rfl rfl rfl rfl (fun b_1 => ?_)
  refine o_L (y_assign rfl) rfl rfl ?_
  refine o_L (y_assign rfl) rfl rfl ?_
  refine o_nil0 rfl ?_
  refine c_seq ?_
  refine c_seq ?_
  refine c_region ?_
  refine o_T (y_move rfl) rfl ?_
  refine o_T (y_nilck rfl) rfl ?_
  refine o_T (y_fa fl_167_2 rfl) rfl ?_
  refine o_ld one_3 rfl (ms m0) Cn.g2 rfl ?_
  refine o_T (y_neq rfl rfl) rfl ?_
  refine o_nil1 14 rfl rfl ?_
  refine c_cond rfl (fun h17 => ?_) (fun h17 => ?_)
  · try simp only [decide_eq_true_eq, decide_eq_false_iff_not, Bool.not_eq_true', Bool.not_eq_false', Int.not_lt, Int.not_le, Decidable.not_not, beq_iff_eq, bne_iff_ne, ne_eq, beq_eq_false_iff_ne] at h17
    exfalso; omega
  · try simp only [decide_eq_true_eq, decide_eq_false_iff_not, Bool.not_eq_true', Bool.not_eq_false', Int.not_lt, Int.not_le, Decidable.not_not, beq_iff_eq, bne_iff_ne, ne_eq, beq_eq_false_iff_ne] at h17
    refine c_skip ?_
    refine c_seq ?_
    refine c_seq ?_
    refine c_region ?_
    refine o_T (y_fa fl_178_4 rfl) rfl ?_
    refine o_ld one_3 rfl m0 Sg.g4 rfl ?_
    refine o_T (y_and rfl rfl (fl15 hg.flags)) rfl ?_
    refine o_T (y_neq rfl rfl) rfl ?_
    refine o_nil1 18 rfl rfl ?_
    refine c_cond rfl (fun h20 => ?_) (fun h20 => ?_)
    · try simp only [decide_eq_true_eq, decide_eq_false_iff_not, Bool.not_eq_true', Bool.not_eq_false', Int.not_lt, Int.not_le, Decidable.not_not, beq_iff_eq, bne_iff_ne, ne_eq, beq_eq_false_iff_ne] at h20
      exfalso; omega
    · try simp only [decide_eq_true_eq, decide_eq_false_iff_not, Bool.not_eq_true', Bool.not_eq_false', Int.not_lt, Int.not_le, Decidable.not_not, beq_iff_eq, bne_iff_ne, ne_eq, beq_eq_false_iff_ne] at h20
      refine c_skip ?_
      refine c_seq ?_
      refine c_region ?_
      refine o_T (y_move rfl) rfl ?_
      refine o_T (y_move rfl) rfl ?_
      refine o_call en_178 rfl (t178 _ ps pr x _ _ _ _ ok0 (by omega)) (s_skip (s_take (s_take (s_take s_nil)))) rfl ?_
      rintro v S' ⟨rfl, rfl, hk_1⟩
      have hk_1_s := hk_1.s
      have hk_1_r := hk_1.r
      obtain ⟨hk_1_x1, hk_1_x2, hk_1_x3, hk_1_x4, hk_1_x5, hk_1_x6, hk_1_x7⟩ := hk_1.x
      try dsimp only at hk_1_s hk_1_r
      refine o_nil0 rfl ?_
      refine c_seq ?_
      refine c_region ?_
      refine o_T (y_fa fl_178_2 rfl) rfl ?_
      refine o_ld one_3 rfl (ms (ms (ms m0))) Sg.g2 rfl ?_
      refine o_callv en_143 rfl (t143 _ _) rfl ?_
      refine o_L (y_assign rfl) rfl rfl ?_
      refine o_nil0 rfl ?_
      refine c_seq ?_
      refine c_region ?_
      refine o_T (y_move rfl) rfl ?_
      refine o_T (y_nilck rfl) rfl ?_
      refine o_T (y_fa fl_167_1 rfl) rfl ?_
      refine o_ld one_104 rfl m0 Cn.g1 rfl ?_
      refine o_T (y_move rfl) rfl ?_
      refine o_call en_197 rfl (t197 _ _ _ (by assumption)) (s_skip (s_skip (s_take s_nil))) rfl ?_
      rintro v S' ⟨rfl, rfl, hk_2⟩
      refine o_nil0 rfl ?_
      refine c_seq ?_
      refine c_region ?_
      refine o_T (y_move rfl) rfl ?_
      refine o_T (y_fa fl_178_5 rfl) rfl ?_
      refine o_ld one_3 rfl (ms (ms (ms m0))) Sg.g5 rfl ?_
      refine o_callv en_198 rfl (t198 _) rfl ?_
      refine o_T (y_nilck rfl) rfl ?_
      refine o_T (y_fa fl_167_9 rfl) rfl ?_
      refine o_st one_3 rfl rfl rfl (rs r0) Cn.s9 (of_blt rfl) ?_
      refine o_nil0 rfl ?_
      refine c_seq ?_
      refine c_region ?_
      refine o_T (y_move rfl) rfl ?_
      refine o_call en_168 rfl (u168 _ ps pr _ rfl rfl _ _ ?_) (s_get (ks k0) (s_get (ks k0) (s_get k0 s_nil))) rfl ?_
      · exact (⟨(by constructor <;> first | assumption | (dsimp only [Cn.cs]; omega) | (dsimp only [Cn.cs]; assumption)), by assumption, by assumption⟩)
      rintro v S' ⟨b_2, rfl, rfl⟩
      refine o_alloc ze_178 rfl rfl (fun b_3 => ?_)
      refine o_sta ag_178 rfl rfl rfl rfl r0 (setAll_full _ _ rfl) (of_ble rfl) ?_
      refine o_nil0 rfl ?_
      refine c_seq ?_
      refine c_region ?_
      refine o_ldw ag_178 rfl m0 rfl rfl ?_
      refine o_call en_179 rfl (t179 _ _) (s_skip (s_take s_nil)) rfl ?_
      rintro v S' ⟨gv_1, hl_1, rfl⟩
      refine o_L (y_assign rfl) rfl rfl ?_
      refine o_L (y_assign rfl) rfl rfl ?_
      refine o_nil0 rfl ?_
      refine c_ret ?_
      refine fun aX wX heX hsX => ret2 Tryz.results161 heX rfl rfl (s_take (s_take (s_skip (s_take (s_take (s_take s_nil)))))) ?_
      exact ⟨_, _, _, rfl, hl_1, rfl, (Conn.ok_openP ok0 iss g).1⟩
theorem u161 (b ps pr : Nat) (k : Cn) (hk1 : k.sb = ptr ps) (hk2 : k.rb = ptr pr) (s : Sb) (r : Rb) (iss : Int) (b2 : Nat) (g : Seg) (ok : Conn.Ok ⟨(Cn.cs k), s, r⟩) (hg : g.Ok) (h0 : (Cn.cs k).st = 0) (h1 : g.flags = 1) : Trip Tryz.prog 161 #[.pointer (some ⟨b, 0, none⟩), .int .i64 iss, .agg (segC b2 g).enc] [[(b, .cells k.enc 167 (0, 0))], [(ps, .cells s.enc 162 (0, 0))], [(pr, .cells r.enc 165 (0, 0))]] (fun u S' => ∃ v gv gd, u = .tuple #[v, .int .i64 0] ∧ Segs v (((⟨(Cn.cs k), s, r⟩ : Conn).openP iss g)).2 gv gd ∧ S' = [gv, gd, [(b, .cells (((((⟨(Cn.cs k), s, r⟩ : Conn).openP iss g)).1).x.cn ps pr).enc 167 (0, 0))], [(ps, .cells ((((⟨(Cn.cs k), s, r⟩ : Conn).openP iss g)).1).s.enc 162 (0, 0))], [(pr, .cells ((((⟨(Cn.cs k), s, r⟩ : Conn).openP iss g)).1).r.enc 165 (0, 0))]] ∧ ((((⟨(Cn.cs k), s, r⟩ : Conn).openP iss g)).1).Ok) := by
  obtain ⟨a1, a2, a3, a4, a5, a6, a7, a8, a9, a10, a11, a12, a13, a14⟩ := k
  dsimp only at hk1 hk2
  subst hk1 hk2
  exact t161 b ps pr (Cs.mk a3 a4 a5 a6 a7 a8 a9 a10 a11 a12 a13 a14) s r iss b2 g ok hg h0 h1

/-- (*e2e/conn.Conn).Tick -/
theorem t126 (b ps pr : Nat) (x : Cs) (s : Sb) (r : Rb)  (ok : Conn.Ok ⟨x, s, r⟩) : Trip Tryz.prog 126 #[.pointer (some ⟨b, 0, none⟩)] [[(b, .cells (x.cn ps pr).enc 167 (0, 0))], [(ps, .cells s.enc 162 (0, 0))], [(pr, .cells r.enc 165 (0, 0))]] (fun u S' => ∃ gv gd, Segs u (((⟨x, s, r⟩ : Conn).tick).2) gv gd ∧ S' = [gv, gd, [(b, .cells ((((⟨x, s, r⟩ : Conn).tick).1).x.cn ps pr).enc 167 (0, 0))], [(ps, .cells (((⟨x, s, r⟩ : Conn).tick).1).s.enc 162 (0, 0))], [(pr, .cells (((⟨x, s, r⟩ : Conn).tick).1).r.enc 165 (0, 0))]] ∧ (((⟨x, s, r⟩ : Conn).tick).1).Ok) := by
  have ok0 := ok
  have okS : s.Ok := ok.s
  have okR : r.Ok := ok.r
  obtain ⟨x1, x2, x3, x4, x5, x6, x7⟩ := ok.x
  obtain ⟨k1, k2, k3, k4, k5, k6, k7, k8⟩ := ok.s
  obtain ⟨j1, j2, j3, j4, j5, j6, j7, j8⟩ := ok.r
  dsimp only at x1 x2 x3 x4 x5 x6 x7 k1 k2 k3 k4 k5 k6 k7 k8 j1 j2 j3 j4 j5 j6 j7 j8
  refine fn_entry (args := [.pointer (some ⟨b, 0, none⟩)]) Tryz.func126 rfl Tryz.ntmps126 rfl (fun w0 => ?_)
  refine c_seq ?_
  refine c_region ?_
  refine o_L (y_assign rfl) rfl rfl ?_
  refine o_nil0 rfl ?_
  refine c_seq ?_
  refine c_region ?_
  refine o_lbs0 (R := segR) sz_185 rfl (fun v_1 gv_1 hl_1 => ?_)
  refine o_L (y_assign rfl) rfl rfl ?_
  refine o_nil0 rfl ?_
  refine c_seq ?_
  refine c_seq ?_
  refine c_region ?_
  refine o_T (y_move rfl) rfl ?_
  refine o_T (y_nilck rfl) rfl ?_
  refine o_T (y_fa fl_167_2 rfl) rfl ?_
  refine o_ld one_3 rfl (ms (ms m0)) Cn.g2 rfl ?_
  refine o_T (y_eql rfl rfl) rfl ?_
  refine o_nil1 11 rfl rfl ?_
  refine c_cond rfl (fun h8 => ?_) (fun h8 => ?_)
  · try simp only [decide_eq_true_eq, decide_eq_false_iff_not, Bool.not_eq_true', Bool.not_eq_false', Int.not_lt, Int.not_le, Decidable.not_not, beq_iff_eq, bne_iff_ne, ne_eq, beq_eq_false_iff_ne] at h8
    refine c_seq ?_
    refine c_region ?_
    refine o_T (y_move rfl) rfl ?_
    refine o_L (y_assign rfl) rfl rfl ?_
    refine o_nil0 rfl ?_
    refine c_ret ?_
    refine fun aX wX heX hsX => ret1 Tryz.results126 heX rfl (s_take (s_take (s_take (s_take (s_take s_nil))))) ?_
    first | (exfalso; omega) | (have ok9 := (Conn.ok_tick ok0).1; have e1 : ((⟨x, s, r⟩ : Conn).tick) = ((⟨x, s, r⟩ : Conn), []) := (by unfold Conn.tick; dsimp only; (repeat' split) <;> first | rfl | (exfalso; omega) | (exfalso; (try dsimp only at *); omega) | (simp_all; done)); rw [e1] at ok9 ⊢; exact ⟨_, _, hl_1, rfl, ok9⟩)
  · try simp only [decide_eq_true_eq, decide_eq_false_iff_not, Bool.not_eq_true', Bool.not_eq_false', Int.not_lt, Int.not_le, Decidable.not_not, beq_iff_eq, bne_iff_ne, ne_eq, beq_eq_false_iff_ne] at h8
    refine c_skip ?_
    refine c_seq ?_
    refine c_seq ?_
    refine c_region ?_
    refine o_T (y_move rfl) rfl ?_
    refine o_T (y_nilck rfl) rfl ?_
    refine o_T (y_fa fl_167_2 rfl) rfl ?_
    refine o_ld one_3 rfl (ms (ms m0)) Cn.g2 rfl ?_
    refine o_T (y_eql rfl rfl) rfl ?_
    refine o_nil1 17 rfl rfl ?_
    refine c_cond rfl (fun h11 => ?_) (fun h11 => ?_)
    · try simp only [decide_eq_true_eq, decide_eq_false_iff_not, Bool.not_eq_true', Bool.not_eq_false', Int.not_lt, Int.not_le, Decidable.not_not, beq_iff_eq, bne_iff_ne, ne_eq, beq_eq_false_iff_ne] at h11
      refine c_seq ?_
      refine c_seq ?_
      refine c_region ?_
      refine o_T (y_move rfl) rfl ?_
      refine o_T (y_nilck rfl) rfl ?_
      refine o_T (y_fa fl_167_13 rfl) rfl ?_
      refine o_ld one_3 rfl (ms (ms m0)) Cn.g13 rfl ?_
      refine o_T (y_gtr rfl rfl) rfl ?_
      refine o_nil1 22 rfl rfl ?_
      refine c_cond rfl (fun h12 => ?_) (fun h12 => ?_)
      · try simp only [decide_eq_true_eq, decide_eq_false_iff_not, Bool.not_eq_true', Bool.not_eq_false', Int.not_lt, Int.not_le, Decidable.not_not, beq_iff_eq, bne_iff_ne, ne_eq, beq_eq_false_iff_ne] at h12
        refine c_region ?_
        refine o_T (y_move rfl) rfl ?_
        refine o_T (y_nilck rfl) rfl ?_
        refine o_T (y_fa fl_167_13 rfl) rfl ?_
        refine o_ld one_3 rfl (ms (ms m0)) Cn.g13 rfl ?_
        refine o_T (y_sub rfl rfl (w64 (by omega))) rfl ?_
        refine o_T (y_nilck rfl) rfl ?_
        refine o_T (y_fa fl_167_13 rfl) rfl ?_
        refine o_st one_3 rfl rfl rfl (rs (rs r0)) Cn.s13 (of_blt rfl) ?_
        refine o_nil0 rfl ?_
        refine c_seq ?_
        refine c_seq ?_
        refine c_region ?_
        refine o_T (y_move rfl) rfl ?_
        refine o_T (y_nilck rfl) rfl ?_
        refine o_T (y_fa fl_167_13 rfl) rfl ?_
        refine o_ld one_3 rfl (ms (ms m0)) Cn.g13 rfl ?_
        refine o_T (y_eql rfl rfl) rfl ?_
        refine o_nil1 34 rfl rfl ?_
        refine c_cond rfl (fun h15 => ?_) (fun h15 => ?_)
        · try simp only [decide_eq_true_eq, decide_eq_false_iff_not, Bool.not_eq_true', Bool.not_eq_false', Int.not_lt, Int.not_le, Decidable.not_not, beq_iff_eq, bne_iff_ne, ne_eq, beq_eq_false_iff_ne] at h15
          refine c_seq ?_
          refine c_region ?_
          refine o_T (y_move rfl) rfl ?_
          refine o_T (y_nilck rfl) rfl ?_
          refine o_T (y_fa fl_167_1 rfl) rfl ?_
          refine o_ld one_104 rfl (ms (ms m0)) Cn.g1 rfl ?_
          refine o_callrv en_112 rfl (t112 _ _ (by assumption)) (s_skip (s_skip (s_skip (s_skip (s_take s_nil))))) rfl ?_
          refine o_T (y_eql rfl rfl) rfl ?_
          refine o_nil1 40 rfl rfl ?_
          refine c_cond rfl (fun h16 => ?_) (fun h16 => ?_)
          · try simp only [decide_eq_true_eq, decide_eq_false_iff_not, Bool.not_eq_true', Bool.not_eq_false', Int.not_lt, Int.not_le, Decidable.not_not, beq_iff_eq, bne_iff_ne, ne_eq, beq_eq_false_iff_ne] at h16
            refine c_region ?_
            refine o_T (y_move rfl) rfl ?_
            refine o_call en_165 rfl (u165 _ ps pr _ rfl rfl _ _ ?_) (s_skip (s_skip (s_take (s_take (s_take s_nil))))) rfl ?_
            · exact (⟨(by constructor <;> first | assumption | (dsimp only [Cn.cs]; omega) | (dsimp only [Cn.cs]; assumption)), by assumption, by assumption⟩)
            rintro v S' ⟨rfl, rfl, hk_1⟩
            have hk_1_s := hk_1.s
            have hk_1_r := hk_1.r
            obtain ⟨hk_1_x1, hk_1_x2, hk_1_x3, hk_1_x4, hk_1_x5, hk_1_x6, hk_1_x7⟩ := hk_1.x
            try dsimp only at hk_1_s hk_1_r
            refine o_nil0 rfl ?_
            refine c_seq ?_
            refine c_region ?_
            refine o_T (y_move rfl) rfl ?_
            refine o_L (y_assign rfl) rfl rfl ?_
            refine o_nil0 rfl ?_
            refine c_ret ?_
            refine fun aX wX heX hsX => ret1 Tryz.results126 heX rfl (s_get (ks (ks (ks k0))) (s_get (ks (ks (ks k0))) (s_get k0 (s_get k0 (s_get k0 s_nil))))) ?_
            first | (exfalso; omega) | (have ok9 := (Conn.ok_tick ok0).1; have e1 : ((⟨x, s, r⟩ : Conn).tick) = ((⟨({ x with quiet := x.quiet - 1 } : Cs), s, r⟩ : Conn).wipe, []) := (by unfold Conn.tick; dsimp only; (repeat' split) <;> first | rfl | (exfalso; omega) | (exfalso; (try dsimp only at *); omega) | (simp_all; done)); rw [e1] at ok9 ⊢; exact ⟨_, _, hl_1, rfl, ok9⟩)
          · try simp only [decide_eq_true_eq, decide_eq_false_iff_not, Bool.not_eq_true', Bool.not_eq_false', Int.not_lt, Int.not_le, Decidable.not_not, beq_iff_eq, bne_iff_ne, ne_eq, beq_eq_false_iff_ne] at h16
            refine c_skip ?_
            refine c_seq ?_
            refine c_region ?_
            refine o_T (y_move rfl) rfl ?_
            refine o_L (y_assign rfl) rfl rfl ?_
            refine o_nil0 rfl ?_
            refine c_ret ?_
            refine fun aX wX heX hsX => ret1 Tryz.results126 heX rfl (s_take (s_take (s_take (s_take (s_take s_nil))))) ?_
            first | (exfalso; omega) | (have ok9 := (Conn.ok_tick ok0).1; have e1 : ((⟨x, s, r⟩ : Conn).tick) = ((⟨({ x with quiet := x.quiet - 1 } : Cs), s, r⟩ : Conn), []) := (by unfold Conn.tick; dsimp only; (repeat' split) <;> first | rfl | (exfalso; omega) | (exfalso; (try dsimp only at *); omega) | (simp_all; done)); rw [e1] at ok9 ⊢; exact ⟨_, _, hl_1, rfl, ok9⟩)
        · try simp only [decide_eq_true_eq, decide_eq_false_iff_not, Bool.not_eq_true', Bool.not_eq_false', Int.not_lt, Int.not_le, Decidable.not_not, beq_iff_eq, bne_iff_ne, ne_eq, beq_eq_false_iff_ne] at h15
          refine c_skip ?_
          refine c_seq ?_
          refine c_region ?_
          refine o_T (y_move rfl) rfl ?_
          refine o_L (y_assign rfl) rfl rfl ?_
          refine o_nil0 rfl ?_
          refine c_ret ?_
          refine fun aX wX heX hsX => ret1 Tryz.results126 heX rfl (s_take (s_take (s_take (s_take (s_take s_nil))))) ?_
          first | (exfalso; omega) | (have ok9 := (Conn.ok_tick ok0).1; have e1 : ((⟨x, s, r⟩ : Conn).tick) = ((⟨({ x with quiet := x.quiet - 1 } : Cs), s, r⟩ : Conn), []) := (by unfold Conn.tick; dsimp only; (repeat' split) <;> first | rfl | (exfalso; omega) | (exfalso; (try dsimp only at *); omega) | (simp_all; done)); rw [e1] at ok9 ⊢; exact ⟨_, _, hl_1, rfl, ok9⟩)
      · try simp only [decide_eq_true_eq, decide_eq_false_iff_not, Bool.not_eq_true', Bool.not_eq_false', Int.not_lt, Int.not_le, Decidable.not_not, beq_iff_eq, bne_iff_ne, ne_eq, beq_eq_false_iff_ne] at h12
        refine c_skip ?_
        refine c_seq ?_
        refine c_seq ?_
        refine c_region ?_
        refine o_T (y_move rfl) rfl ?_
        refine o_T (y_nilck rfl) rfl ?_
        refine o_T (y_fa fl_167_13 rfl) rfl ?_
        refine o_ld one_3 rfl (ms (ms m0)) Cn.g13 rfl ?_
        refine o_T (y_eql rfl rfl) rfl ?_
        refine o_nil1 34 rfl rfl ?_
        refine c_cond rfl (fun h15 => ?_) (fun h15 => ?_)
        · try simp only [decide_eq_true_eq, decide_eq_false_iff_not, Bool.not_eq_true', Bool.not_eq_false', Int.not_lt, Int.not_le, Decidable.not_not, beq_iff_eq, bne_iff_ne, ne_eq, beq_eq_false_iff_ne] at h15
          refine c_seq ?_
          refine c_region ?_
          refine o_T (y_move rfl) rfl ?_
          refine o_T (y_nilck rfl) rfl ?_
          refine o_T (y_fa fl_167_1 rfl) rfl ?_
          refine o_ld one_104 rfl (ms (ms m0)) Cn.g1 rfl ?_
          refine o_callrv en_112 rfl (t112 _ _ (by assumption)) (s_skip (s_skip (s_skip (s_skip (s_take s_nil))))) rfl ?_
          refine o_T (y_eql rfl rfl) rfl ?_
          refine o_nil1 40 rfl rfl ?_
          refine c_cond rfl (fun h16 => ?_) (fun h16 => ?_)
          · try simp only [decide_eq_true_eq, decide_eq_false_iff_not, Bool.not_eq_true', Bool.not_eq_false', Int.not_lt, Int.not_le, Decidable.not_not, beq_iff_eq, bne_iff_ne, ne_eq, beq_eq_false_iff_ne] at h16
            refine c_region ?_
            refine o_T (y_move rfl) rfl ?_
            refine o_call en_165 rfl (t165 _ ps pr x _ _ ok0) (s_skip (s_skip (s_take (s_take (s_take s_nil))))) rfl ?_
            rintro v S' ⟨rfl, rfl, hk_2⟩
            have hk_2_s := hk_2.s
            have hk_2_r := hk_2.r
            obtain ⟨hk_2_x1, hk_2_x2, hk_2_x3, hk_2_x4, hk_2_x5, hk_2_x6, hk_2_x7⟩ := hk_2.x
            try dsimp only at hk_2_s hk_2_r
            refine o_nil0 rfl ?_
            refine c_seq ?_
            refine c_region ?_
            refine o_T (y_move rfl) rfl ?_
            refine o_L (y_assign rfl) rfl rfl ?_
            refine o_nil0 rfl ?_
            refine c_ret ?_
            refine fun aX wX heX hsX => ret1 Tryz.results126 heX rfl (s_get (ks (ks (ks k0))) (s_get (ks (ks (ks k0))) (s_get k0 (s_get k0 (s_get k0 s_nil))))) ?_
            first | (exfalso; omega) | (have ok9 := (Conn.ok_tick ok0).1; have e1 : ((⟨x, s, r⟩ : Conn).tick) = ((⟨x, s, r⟩ : Conn).wipe, []) := (by unfold Conn.tick; dsimp only; (repeat' split) <;> first | rfl | (exfalso; omega) | (exfalso; (try dsimp only at *); omega) | (simp_all; done)); rw [e1] at ok9 ⊢; exact ⟨_, _, hl_1, rfl, ok9⟩)
          · try simp only [decide_eq_true_eq, decide_eq_false_iff_not, Bool.not_eq_true', Bool.not_eq_false', Int.not_lt, Int.not_le, Decidable.not_not, beq_iff_eq, bne_iff_ne, ne_eq, beq_eq_false_iff_ne] at h16
            refine c_skip ?_
            refine c_seq ?_
            refine c_region ?_
            refine o_T (y_move rfl) rfl ?_
            refine o_L (y_assign rfl) rfl rfl ?_
            refine o_nil0 rfl ?_
            refine c_ret ?_
            refine fun aX wX heX hsX => ret1 Tryz.results126 heX rfl (s_take (s_take (s_take (s_take (s_take s_nil))))) ?_
            first | (exfalso; omega) | (have ok9 := (Conn.ok_tick ok0).1; have e1 : ((⟨x, s, r⟩ : Conn).tick) = ((⟨x, s, r⟩ : Conn), []) := (by unfold Conn.tick; dsimp only; (repeat' split) <;> first | rfl | (exfalso; omega) | (exfalso; (try dsimp only at *); omega) | (simp_all; done)); rw [e1] at ok9 ⊢; exact ⟨_, _, hl_1, rfl, ok9⟩)
        · try simp only [decide_eq_true_eq, decide_eq_false_iff_not, Bool.not_eq_true', Bool.not_eq_false', Int.not_lt, Int.not_le, Decidable.not_not, beq_iff_eq, bne_iff_ne, ne_eq, beq_eq_false_iff_ne] at h15
          refine c_skip ?_
          refine c_seq ?_
          refine c_region ?_
          refine o_T (y_move rfl) rfl ?_
          refine o_L (y_assign rfl) rfl rfl ?_
          refine o_nil0 rfl ?_
          refine c_ret ?_
          refine fun aX wX heX hsX => ret1 Tryz.results126 heX rfl (s_take (s_take (s_take (s_take (s_take s_nil))))) ?_
          first | (exfalso; omega) | (have ok9 := (Conn.ok_tick ok0).1; have e1 : ((⟨x, s, r⟩ : Conn).tick) = ((⟨x, s, r⟩ : Conn), []) := (by unfold Conn.tick; dsimp only; (repeat' split) <;> first | rfl | (exfalso; omega) | (exfalso; (try dsimp only at *); omega) | (simp_all; done)); rw [e1] at ok9 ⊢; exact ⟨_, _, hl_1, rfl, ok9⟩)
    · try simp only [decide_eq_true_eq, decide_eq_false_iff_not, Bool.not_eq_true', Bool.not_eq_false', Int.not_lt, Int.not_le, Decidable.not_not, beq_iff_eq, bne_iff_ne, ne_eq, beq_eq_false_iff_ne] at h11
      refine c_skip ?_
      refine c_seq ?_
      refine c_region ?_
      refine o_T (y_move rfl) rfl ?_
      refine o_T (y_nilck rfl) rfl ?_
      refine o_T (y_fa fl_167_12 rfl) rfl ?_
      refine o_st one_3 rfl rfl rfl (rs (rs r0)) Cn.s12 (of_blt rfl) ?_
      refine o_nil0 rfl ?_
      refine c_seq ?_
      refine c_seq ?_
      refine c_region ?_
      refine o_T (y_move rfl) rfl ?_
      refine o_T (y_nilck rfl) rfl ?_
      refine o_T (y_fa fl_167_10 rfl) rfl ?_
      refine o_ld one_3 rfl (ms (ms m0)) Cn.g10 rfl ?_
      refine o_T (y_gtr rfl rfl) rfl ?_
      refine o_nil1 51 rfl rfl ?_
      refine c_cond rfl (fun h23 => ?_) (fun h23 => ?_)
      · try simp only [decide_eq_true_eq, decide_eq_false_iff_not, Bool.not_eq_true', Bool.not_eq_false', Int.not_lt, Int.not_le, Decidable.not_not, beq_iff_eq, bne_iff_ne, ne_eq, beq_eq_false_iff_ne] at h23
        refine c_seq ?_
        refine c_region ?_
        refine o_T (y_move rfl) rfl ?_
        refine o_T (y_nilck rfl) rfl ?_
        refine o_T (y_fa fl_167_10 rfl) rfl ?_
        refine o_ld one_3 rfl (ms (ms m0)) Cn.g10 rfl ?_
        refine o_T (y_sub rfl rfl (w64 (by omega))) rfl ?_
        refine o_T (y_nilck rfl) rfl ?_
        refine o_T (y_fa fl_167_10 rfl) rfl ?_
        refine o_st one_3 rfl rfl rfl (rs (rs r0)) Cn.s10 (of_blt rfl) ?_
        refine o_nil0 rfl ?_
        refine c_seq ?_
        refine c_region ?_
        refine o_T (y_move rfl) rfl ?_
        refine o_T (y_nilck rfl) rfl ?_
        refine o_T (y_fa fl_167_10 rfl) rfl ?_
        refine o_ld one_3 rfl (ms (ms m0)) Cn.g10 rfl ?_
        refine o_T (y_eql rfl rfl) rfl ?_
        refine o_nil1 63 rfl rfl ?_
        refine c_cond rfl (fun h25 => ?_) (fun h25 => ?_)
        · try simp only [decide_eq_true_eq, decide_eq_false_iff_not, Bool.not_eq_true', Bool.not_eq_false', Int.not_lt, Int.not_le, Decidable.not_not, beq_iff_eq, bne_iff_ne, ne_eq, beq_eq_false_iff_ne] at h25
          refine c_seq ?_
          refine c_seq ?_
          refine c_region ?_
          refine o_T (y_move rfl) rfl ?_
          refine o_T (y_nilck rfl) rfl ?_
          refine o_T (y_fa fl_167_11 rfl) rfl ?_
          refine o_ld one_3 rfl (ms (ms m0)) Cn.g11 rfl ?_
          refine o_T (y_eql rfl rfl) rfl ?_
          refine o_nil1 68 rfl rfl ?_
          refine c_cond rfl (fun h26 => ?_) (fun h26 => ?_)
          · try simp only [decide_eq_true_eq, decide_eq_false_iff_not, Bool.not_eq_true', Bool.not_eq_false', Int.not_lt, Int.not_le, Decidable.not_not, beq_iff_eq, bne_iff_ne, ne_eq, beq_eq_false_iff_ne] at h26
            refine c_seq ?_
            refine c_region ?_
            refine o_T (y_move rfl) rfl ?_
            refine o_call en_166 rfl (u166 _ ps pr _ rfl rfl _ _ _ ?_) (s_skip (s_skip (s_take (s_take (s_take s_nil))))) rfl ?_
            · exact (⟨(by constructor <;> first | assumption | (dsimp only [Cn.cs]; omega) | (dsimp only [Cn.cs]; assumption)), by assumption, by assumption⟩)
            rintro v S' ⟨rfl, rfl, hk_3⟩
            have hk_3_s := hk_3.s
            have hk_3_r := hk_3.r
            obtain ⟨hk_3_x1, hk_3_x2, hk_3_x3, hk_3_x4, hk_3_x5, hk_3_x6, hk_3_x7⟩ := hk_3.x
            try dsimp only at hk_3_s hk_3_r
            refine o_nil0 rfl ?_
            refine c_seq ?_
            refine c_region ?_
            refine o_T (y_move rfl) rfl ?_
            refine o_L (y_assign rfl) rfl rfl ?_
            refine o_nil0 rfl ?_
            refine c_ret ?_
            refine fun aX wX heX hsX => ret1 Tryz.results126 heX rfl (s_get (ks (ks (ks k0))) (s_get (ks (ks (ks k0))) (s_get k0 (s_get k0 (s_get k0 s_nil))))) ?_
            first | (exfalso; omega) | (have ok9 := (Conn.ok_tick ok0).1; have e1 : ((⟨x, s, r⟩ : Conn).tick) = ((⟨({ x with credit := 12, timer := x.timer - 1 } : Cs), s, r⟩ : Conn).fail 19, []) := (by unfold Conn.tick; dsimp only; (repeat' split) <;> first | rfl | (exfalso; omega) | (exfalso; (try dsimp only at *); omega) | (simp_all; done)); rw [e1] at ok9 ⊢; exact ⟨_, _, hl_1, rfl, ok9⟩)
          · try simp only [decide_eq_true_eq, decide_eq_false_iff_not, Bool.not_eq_true', Bool.not_eq_false', Int.not_lt, Int.not_le, Decidable.not_not, beq_iff_eq, bne_iff_ne, ne_eq, beq_eq_false_iff_ne] at h26
            refine c_skip ?_
            refine c_seq ?_
            refine c_region ?_
            refine o_T (y_move rfl) rfl ?_
            refine o_T (y_nilck rfl) rfl ?_
            refine o_T (y_fa fl_167_11 rfl) rfl ?_
            refine o_ld one_3 rfl (ms (ms m0)) Cn.g11 rfl ?_
            refine o_T (y_add rfl rfl (w64 (by omega))) rfl ?_
            refine o_T (y_nilck rfl) rfl ?_
            refine o_T (y_fa fl_167_11 rfl) rfl ?_
            refine o_st one_3 rfl rfl rfl (rs (rs r0)) Cn.s11 (of_blt rfl) ?_
            refine o_nil0 rfl ?_
            refine c_seq ?_
            refine c_region ?_
            refine o_T (y_move rfl) rfl ?_
            refine o_call en_167 rfl (u167 _ ps pr _ rfl rfl ?_) (s_skip (s_skip (s_take s_nil))) rfl ?_
            · constructor <;> first | assumption | (dsimp only [Cn.cs]; omega) | (dsimp only [Cn.cs]; assumption)
            rintro v S' ⟨rfl, rfl⟩
            refine o_nil0 rfl ?_
            refine c_seq ?_
            refine c_region ?_
            refine o_T (y_move rfl) rfl ?_
            refine o_call en_168 rfl (t168 _ ps pr _ _ _ ?_) (s_take (s_skip (s_skip (s_take (s_take s_nil))))) rfl ?_
            · exact (⟨(Cs.ok_arm (by constructor <;> first | assumption | (dsimp only [Cn.cs]; omega) | (dsimp only [Cn.cs]; assumption))), by assumption, by assumption⟩)
            rintro v S' ⟨b_1, rfl, rfl⟩
            refine o_alloc ze_178 rfl rfl (fun b_2 => ?_)
            refine o_sta ag_178 rfl rfl rfl rfl r0 (setAll_full _ _ rfl) (of_ble rfl) ?_
            refine o_nil0 rfl ?_
            refine c_region ?_
            refine o_T (y_move rfl) rfl ?_
            refine o_ldw ag_178 rfl m0 rfl rfl ?_
            refine o_bs1 sz_185 rfl rfl rfl rfl rfl rfl (fun b_3 => ?_)
            refine o_lapp1 sz_185 rfl rfl rfl hl_1 rfl rfl segR.mk (s_get (ks (ks (ks (ks (ks (ks k0)))))) (s_get (ks (ks (ks (ks (ks (ks k0)))))) (s_get k0 (s_get (ks k0) s_nil)))) (by first | omega | (simp only [List.length_append, List.length_cons, List.length_nil]; omega) | (simp <;> omega)) (by first | omega | (simp only [List.length_append, List.length_cons, List.length_nil]; omega) | (simp <;> omega)) rfl (fun v_2 gv_2 hl_2 => ?_)
            refine o_L (y_assign rfl) rfl rfl ?_
            refine o_nil0 rfl ?_
            refine c_seq ?_
            refine c_region ?_
            refine o_T (y_move rfl) rfl ?_
            refine o_call en_169 rfl (t169 _ ps pr _ _ _ ?_) (s_skip (s_skip (s_skip (s_take (s_take (s_take s_nil)))))) rfl ?_
            · exact (⟨(Cs.ok_arm (by constructor <;> first | assumption | (dsimp only [Cn.cs]; omega) | (dsimp only [Cn.cs]; assumption))), by assumption, by assumption⟩)
            rintro v S' ⟨gv_3, gd_1, hl_3, rfl, hk_4, hp_1⟩
            have hk_4_s := hk_4.s
            have hk_4_r := hk_4.r
            obtain ⟨hk_4_x1, hk_4_x2, hk_4_x3, hk_4_x4, hk_4_x5, hk_4_x6, hk_4_x7⟩ := hk_4.x
            try dsimp only at hk_4_s hk_4_r
            refine o_L (y_assign rfl) rfl rfl ?_
            refine o_nil0 rfl ?_
            refine c_seq ?_
            refine c_region ?_
            refine o_T (y_move rfl) rfl ?_
            refine o_T (y_move rfl) rfl ?_
            refine o_lapp sz_185 rfl rfl rfl hl_2 hl_3 segR_plain (s_get (ks (ks (ks (ks (ks k0))))) (s_get (ks (ks (ks (ks (ks k0))))) (s_get k0 (s_get k0 s_nil)))) (lapp_b (by simp) (Nat.le_trans hp_1 (by decide))) (lapp_c (by simp) (Nat.le_trans hp_1 (by decide))) rfl (fun v_3 gv_4 hl_4 => ?_)
            refine o_L (y_assign rfl) rfl rfl ?_
            refine o_nil0 rfl ?_
            refine c_ret ?_
            refine fun aX wX heX hsX => ret1 Tryz.results126 heX rfl (s_take (s_take (s_take (s_take (s_take s_nil))))) ?_
            first | (exfalso; omega) | (have ok9 := (Conn.ok_tick ok0).1; have e1 : ((⟨x, s, r⟩ : Conn).tick) = ((⟨({ x with credit := 12, timer := x.timer - 1, retries := x.retries + 1 } : Cs).arm, s, r⟩ : Conn).pump.1, (⟨({ x with credit := 12, timer := x.timer - 1, retries := x.retries + 1 } : Cs).arm, s, r⟩ : Conn).again :: (⟨({ x with credit := 12, timer := x.timer - 1, retries := x.retries + 1 } : Cs).arm, s, r⟩ : Conn).pump.2) := (by unfold Conn.tick; dsimp only; (repeat' split) <;> first | rfl | (exfalso; omega) | (exfalso; (try dsimp only at *); omega) | (simp_all; done)); rw [e1] at ok9 ⊢; exact ⟨_, _, hl_4, rfl, ok9⟩)
        · try simp only [decide_eq_true_eq, decide_eq_false_iff_not, Bool.not_eq_true', Bool.not_eq_false', Int.not_lt, Int.not_le, Decidable.not_not, beq_iff_eq, bne_iff_ne, ne_eq, beq_eq_false_iff_ne] at h25
          refine c_skip ?_
          refine c_seq ?_
          refine c_region ?_
          refine o_T (y_move rfl) rfl ?_
          refine o_call en_169 rfl (u169 _ ps pr _ rfl rfl _ _ ?_) (s_skip (s_skip (s_take (s_take (s_take s_nil))))) rfl ?_
          · exact (⟨(by constructor <;> first | assumption | (dsimp only [Cn.cs]; omega) | (dsimp only [Cn.cs]; assumption)), by assumption, by assumption⟩)
          rintro v S' ⟨gv_5, gd_2, hl_5, rfl, hk_5, hp_2⟩
          have hk_5_s := hk_5.s
          have hk_5_r := hk_5.r
          obtain ⟨hk_5_x1, hk_5_x2, hk_5_x3, hk_5_x4, hk_5_x5, hk_5_x6, hk_5_x7⟩ := hk_5.x
          try dsimp only at hk_5_s hk_5_r
          refine o_L (y_assign rfl) rfl rfl ?_
          refine o_nil0 rfl ?_
          refine c_seq ?_
          refine c_region ?_
          refine o_T (y_move rfl) rfl ?_
          refine o_T (y_move rfl) rfl ?_
          refine o_lapp sz_185 rfl rfl rfl hl_1 hl_5 segR_plain (s_get (ks (ks (ks (ks (ks k0))))) (s_get (ks (ks (ks (ks (ks k0))))) (s_get k0 (s_get k0 s_nil)))) (lapp_b (by simp) (Nat.le_trans hp_2 (by decide))) (lapp_c (by simp) (Nat.le_trans hp_2 (by decide))) rfl (fun v_4 gv_6 hl_6 => ?_)
          refine o_L (y_assign rfl) rfl rfl ?_
          refine o_nil0 rfl ?_
          refine c_ret ?_
          refine fun aX wX heX hsX => ret1 Tryz.results126 heX rfl (s_take (s_take (s_take (s_take (s_take s_nil))))) ?_
          first | (exfalso; omega) | (have ok9 := (Conn.ok_tick ok0).1; have e1 : ((⟨x, s, r⟩ : Conn).tick) = (⟨({ x with credit := 12, timer := x.timer - 1 } : Cs), s, r⟩ : Conn).pump := (by unfold Conn.tick; dsimp only; (repeat' split) <;> first | rfl | (exfalso; omega) | (exfalso; (try dsimp only at *); omega) | (simp_all; done)); rw [e1] at ok9 ⊢; exact ⟨_, _, hl_6, rfl, ok9⟩)
      · try simp only [decide_eq_true_eq, decide_eq_false_iff_not, Bool.not_eq_true', Bool.not_eq_false', Int.not_lt, Int.not_le, Decidable.not_not, beq_iff_eq, bne_iff_ne, ne_eq, beq_eq_false_iff_ne] at h23
        refine c_skip ?_
        refine c_seq ?_
        refine c_region ?_
        refine o_T (y_move rfl) rfl ?_
        refine o_call en_169 rfl (u169 _ ps pr _ rfl rfl _ _ ?_) (s_skip (s_skip (s_take (s_take (s_take s_nil))))) rfl ?_
        · exact (⟨(by constructor <;> first | assumption | (dsimp only [Cn.cs]; omega) | (dsimp only [Cn.cs]; assumption)), by assumption, by assumption⟩)
        rintro v S' ⟨gv_7, gd_3, hl_7, rfl, hk_6, hp_3⟩
        have hk_6_s := hk_6.s
        have hk_6_r := hk_6.r
        obtain ⟨hk_6_x1, hk_6_x2, hk_6_x3, hk_6_x4, hk_6_x5, hk_6_x6, hk_6_x7⟩ := hk_6.x
        try dsimp only at hk_6_s hk_6_r
        refine o_L (y_assign rfl) rfl rfl ?_
        refine o_nil0 rfl ?_
        refine c_seq ?_
        refine c_region ?_
        refine o_T (y_move rfl) rfl ?_
        refine o_T (y_move rfl) rfl ?_
        refine o_lapp sz_185 rfl rfl rfl hl_1 hl_7 segR_plain (s_get (ks (ks (ks (ks (ks k0))))) (s_get (ks (ks (ks (ks (ks k0))))) (s_get k0 (s_get k0 s_nil)))) (lapp_b (by simp) (Nat.le_trans hp_3 (by decide))) (lapp_c (by simp) (Nat.le_trans hp_3 (by decide))) rfl (fun v_5 gv_8 hl_8 => ?_)
        refine o_L (y_assign rfl) rfl rfl ?_
        refine o_nil0 rfl ?_
        refine c_ret ?_
        refine fun aX wX heX hsX => ret1 Tryz.results126 heX rfl (s_take (s_take (s_take (s_take (s_take s_nil))))) ?_
        first | (exfalso; omega) | (have ok9 := (Conn.ok_tick ok0).1; have e1 : ((⟨x, s, r⟩ : Conn).tick) = (⟨{ x with credit := 12 }, s, r⟩ : Conn).pump := (by unfold Conn.tick; dsimp only; (repeat' split) <;> first | rfl | (exfalso; omega) | (exfalso; (try dsimp only at *); omega) | (simp_all; done)); rw [e1] at ok9 ⊢; exact ⟨_, _, hl_8, rfl, ok9⟩)
theorem u126 (b ps pr : Nat) (k : Cn) (hk1 : k.sb = ptr ps) (hk2 : k.rb = ptr pr) (s : Sb) (r : Rb)  (ok : Conn.Ok ⟨(Cn.cs k), s, r⟩) : Trip Tryz.prog 126 #[.pointer (some ⟨b, 0, none⟩)] [[(b, .cells k.enc 167 (0, 0))], [(ps, .cells s.enc 162 (0, 0))], [(pr, .cells r.enc 165 (0, 0))]] (fun u S' => ∃ gv gd, Segs u (((⟨(Cn.cs k), s, r⟩ : Conn).tick).2) gv gd ∧ S' = [gv, gd, [(b, .cells ((((⟨(Cn.cs k), s, r⟩ : Conn).tick).1).x.cn ps pr).enc 167 (0, 0))], [(ps, .cells (((⟨(Cn.cs k), s, r⟩ : Conn).tick).1).s.enc 162 (0, 0))], [(pr, .cells (((⟨(Cn.cs k), s, r⟩ : Conn).tick).1).r.enc 165 (0, 0))]] ∧ (((⟨(Cn.cs k), s, r⟩ : Conn).tick).1).Ok) := by
  obtain ⟨a1, a2, a3, a4, a5, a6, a7, a8, a9, a10, a11, a12, a13, a14⟩ := k
  dsimp only at hk1 hk2
  subst hk1 hk2
  exact t126 b ps pr (Cs.mk a3 a4 a5 a6 a7 a8 a9 a10 a11 a12 a13 a14) s r ok

end Go.Proofs.Qxb6500351aGreat
