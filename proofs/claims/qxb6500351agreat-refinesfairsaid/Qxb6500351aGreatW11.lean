/- MADE BY PROGRAM (tools/gen.py over tools/specs351.py): walks. -/
import Derived.Test.Qxb6500351aGreatFacts
import Derived.Test.Qxb6500351aGreatW10
set_option linter.unusedVariables false
set_option linter.unusedSimpArgs false
namespace Go.Proofs.Qxb6500351aGreat
open Go.Eng
set_option maxRecDepth 20000
set_option maxHeartbeats 4000000
/-- (*e2e/conn.Conn).Close -/
theorem t141 (b ps pr : Nat) (x : Cs) (s : Sb) (r : Rb)  (ok : Conn.Ok ⟨x, s, r⟩) : Trip Tryz.prog 141 #[.pointer (some ⟨b, 0, none⟩)] [[(b, .cells (x.cn ps pr).enc 167 (0, 0))], [(ps, .cells s.enc 162 (0, 0))], [(pr, .cells r.enc 165 (0, 0))]] (fun u S' => (((⟨x, s, r⟩ : Conn).close).2.2 ≠ 0 ∧ u = .tuple #[.slice none 0 0, .int .i64 ((⟨x, s, r⟩ : Conn).close).2.2] ∧ S' = [[(b, .cells (x.cn ps pr).enc 167 (0, 0))], [(ps, .cells s.enc 162 (0, 0))], [(pr, .cells r.enc 165 (0, 0))]] ∧ ((⟨x, s, r⟩ : Conn).close).1 = (⟨x, s, r⟩ : Conn)) ∨ (((⟨x, s, r⟩ : Conn).close).2.2 = 0 ∧ ∃ v gv gd, u = .tuple #[v, .int .i64 0] ∧ Segs v ((⟨x, s, r⟩ : Conn).close).2.1 gv gd ∧ S' = [gv, gd, [(b, .cells ((((⟨x, s, r⟩ : Conn).close).1).x.cn ps pr).enc 167 (0, 0))], [(ps, .cells (((⟨x, s, r⟩ : Conn).close).1).s.enc 162 (0, 0))], [(pr, .cells (((⟨x, s, r⟩ : Conn).close).1).r.enc 165 (0, 0))]] ∧ (((⟨x, s, r⟩ : Conn).close).1).Ok)) := by
  have ok0 := ok
  have okS : s.Ok := ok.s
  have okR : r.Ok := ok.r
  obtain ⟨x1, x2, x3, x4, x5, x6, x7⟩ := ok.x
  obtain ⟨k1, k2, k3, k4, k5, k6, k7, k8⟩ := ok.s
  obtain ⟨j1, j2, j3, j4, j5, j6, j7, j8⟩ := ok.r
  dsimp only at x1 x2 x3 x4 x5 x6 x7 k1 k2 k3 k4 k5 k6 k7 k8 j1 j2 j3 j4 j5 j6 j7 j8
  refine fn_entry (args := [.pointer (some ⟨b, 0, none⟩)]) Tryz.func141 rfl Tryz.ntmps141 rfl (fun w0 => ?_)
  refine c_seq ?_
  refine c_region ?_
  refine o_L (y_assign rfl) rfl rfl ?_
  refine o_L (y_assign rfl) rfl rfl ?_
  refine o_nil0 rfl ?_
  refine c_seq ?_
  refine c_seq ?_
  refine c_region ?_
  refine o_T (y_move rfl) rfl ?_
  refine o_T (y_nilck rfl) rfl ?_
  refine o_T (y_fa fl_167_2 rfl) rfl ?_
  refine o_ld one_3 rfl m0 Cn.g2 rfl ?_
  refine o_nil1 9 rfl rfl ?_
  refine c_block ?_
  refine c_seq ?_
  refine c_region ?_
  refine o_T (y_eql rfl rfl) rfl ?_
  refine o_L (y_assign rfl) rfl rfl ?_
  refine o_nil0 rfl ?_
  refine c_cond rfl (fun h102 => ?_) (fun h102 => ?_)
  · try simp only [decide_eq_true_eq, decide_eq_false_iff_not, Bool.not_eq_true', Bool.not_eq_false', Int.not_lt, Int.not_le, Decidable.not_not, beq_iff_eq, bne_iff_ne, ne_eq, beq_eq_false_iff_ne] at h102
    refine c_seq ?_
    refine c_region ?_
    refine o_L (y_assign rfl) rfl rfl ?_
    refine o_L (y_assign rfl) rfl rfl ?_
    refine o_nil0 rfl ?_
    refine c_ret ?_
    refine fun aX wX heX hsX => ret2 Tryz.results141 heX rfl rfl (s_take (s_take (s_take s_nil))) ?_
    first | (exfalso; omega) | (have e1 : ((⟨x, s, r⟩ : Conn).close) = ((⟨x, s, r⟩ : Conn), [], 13) := (by unfold Conn.close; (repeat' split) <;> first | rfl | (exfalso; omega) | (simp_all; done)); rw [e1]; exact .inl ⟨by dsimp only; omega, rfl, rfl, rfl⟩)
  · try simp only [decide_eq_true_eq, decide_eq_false_iff_not, Bool.not_eq_true', Bool.not_eq_false', Int.not_lt, Int.not_le, Decidable.not_not, beq_iff_eq, bne_iff_ne, ne_eq, beq_eq_false_iff_ne] at h102
    refine c_seq ?_
    refine c_region ?_
    refine o_T (y_eql rfl rfl) rfl ?_
    refine o_L (y_assign rfl) rfl rfl ?_
    refine o_nil0 rfl ?_
    refine c_cond rfl (fun h104 => ?_) (fun h104 => ?_)
    · try simp only [decide_eq_true_eq, decide_eq_false_iff_not, Bool.not_eq_true', Bool.not_eq_false', Int.not_lt, Int.not_le, Decidable.not_not, beq_iff_eq, bne_iff_ne, ne_eq, beq_eq_false_iff_ne] at h104
      refine c_seq ?_
      refine c_region ?_
      refine o_T (y_move rfl) rfl ?_
      refine o_callrv en_181 rfl (t181 _ ps pr x _ _ ok0) (s_take (s_take (s_take s_nil))) rfl ?_
      refine o_L (y_assign rfl) rfl rfl ?_
      refine o_nil0 rfl ?_
      refine c_seq ?_
      refine c_region ?_
      refine o_T (y_move rfl) rfl ?_
      refine o_L (y_assign rfl) rfl rfl ?_
      refine o_L (y_assign rfl) rfl rfl ?_
      refine o_nil0 rfl ?_
      refine c_ret ?_
      refine fun aX wX heX hsX => ret2 Tryz.results141 heX rfl rfl (s_take (s_take (s_take s_nil))) ?_
      first | (exfalso; omega) | (have e1 : ((⟨x, s, r⟩ : Conn).close) = ((⟨x, s, r⟩ : Conn), [], x.ended) := (by unfold Conn.close; (repeat' split) <;> first | rfl | (exfalso; omega) | (simp_all; done)); rw [e1]; exact .inl ⟨by dsimp only; unfold Cs.ended; split <;> omega, rfl, rfl, rfl⟩)
    · try simp only [decide_eq_true_eq, decide_eq_false_iff_not, Bool.not_eq_true', Bool.not_eq_false', Int.not_lt, Int.not_le, Decidable.not_not, beq_iff_eq, bne_iff_ne, ne_eq, beq_eq_false_iff_ne] at h104
      refine c_seq ?_
      refine c_region ?_
      refine o_T (y_eql rfl rfl) rfl ?_
      refine o_L (y_assign rfl) rfl rfl ?_
      refine o_nil0 rfl ?_
      refine c_cond rfl (fun h107 => ?_) (fun h107 => ?_)
      · try simp only [decide_eq_true_eq, decide_eq_false_iff_not, Bool.not_eq_true', Bool.not_eq_false', Int.not_lt, Int.not_le, Decidable.not_not, beq_iff_eq, bne_iff_ne, ne_eq, beq_eq_false_iff_ne] at h107
        refine c_seq ?_
        refine c_region ?_
        refine o_T (y_move rfl) rfl ?_
        refine o_call en_166 rfl (t166 _ ps pr x _ _ _ ok0) (s_take (s_take (s_take s_nil))) rfl ?_
        rintro v S' ⟨rfl, rfl, hk_1⟩
        have hk_1_s := hk_1.s
        have hk_1_r := hk_1.r
        obtain ⟨hk_1_x1, hk_1_x2, hk_1_x3, hk_1_x4, hk_1_x5, hk_1_x6, hk_1_x7⟩ := hk_1.x
        try dsimp only at hk_1_s hk_1_r
        refine o_nil0 rfl ?_
        refine c_seq ?_
        refine c_region ?_
        refine o_lbs0 (R := segR) sz_185 rfl (fun v_1 gv_1 hl_1 => ?_)
        refine o_L (y_assign rfl) rfl rfl ?_
        refine o_L (y_assign rfl) rfl rfl ?_
        refine o_nil0 rfl ?_
        refine c_ret ?_
        refine fun aX wX heX hsX => ret2 Tryz.results141 heX rfl rfl (s_take (s_take (s_take (s_take (s_take s_nil))))) ?_
        first | (exfalso; omega) | (have e1 : ((⟨x, s, r⟩ : Conn).close) = ((⟨x, s, r⟩ : Conn).fail 20, [], 0) := (by unfold Conn.close; (repeat' split) <;> first | rfl | (exfalso; omega) | (exfalso; (try dsimp only at *); omega) | (simp_all; done)); rw [e1]; exact .inr ⟨rfl, _, _, _, rfl, hl_1, rfl, Conn.ok_fail ok0 20⟩)
      · try simp only [decide_eq_true_eq, decide_eq_false_iff_not, Bool.not_eq_true', Bool.not_eq_false', Int.not_lt, Int.not_le, Decidable.not_not, beq_iff_eq, bne_iff_ne, ne_eq, beq_eq_false_iff_ne] at h107
        refine c_skip ?_
        refine c_seq ?_
        refine c_seq ?_
        refine c_region ?_
        refine o_T (y_move rfl) rfl ?_
        refine o_T (y_nilck rfl) rfl ?_
        refine o_T (y_fa fl_167_4 rfl) rfl ?_
        refine o_ld one_4 rfl m0 Cn.g4 rfl ?_
        refine o_nil1 25 rfl rfl ?_
        refine c_cond rfl (fun h111 => ?_) (fun h111 => ?_)
        · try simp only [decide_eq_true_eq, decide_eq_false_iff_not, Bool.not_eq_true', Bool.not_eq_false', Int.not_lt, Int.not_le, Decidable.not_not, beq_iff_eq, bne_iff_ne, ne_eq, beq_eq_false_iff_ne] at h111
          refine c_seq ?_
          refine c_region ?_
          refine o_L (y_assign rfl) rfl rfl ?_
          refine o_L (y_assign rfl) rfl rfl ?_
          refine o_nil0 rfl ?_
          refine c_ret ?_
          refine fun aX wX heX hsX => ret2 Tryz.results141 heX rfl rfl (s_take (s_take (s_take s_nil))) ?_
          first | (exfalso; omega) | (have e1 : ((⟨x, s, r⟩ : Conn).close) = ((⟨x, s, r⟩ : Conn), [], 15) := (by unfold Conn.close; (repeat' split) <;> first | rfl | (exfalso; omega) | (simp_all; done)); rw [e1]; exact .inl ⟨by dsimp only; omega, rfl, rfl, rfl⟩)
        · try simp only [decide_eq_true_eq, decide_eq_false_iff_not, Bool.not_eq_true', Bool.not_eq_false', Int.not_lt, Int.not_le, Decidable.not_not, beq_iff_eq, bne_iff_ne, ne_eq, beq_eq_false_iff_ne] at h111
          refine c_skip ?_
          refine c_seq ?_
          refine c_region ?_
          refine o_T (y_move rfl) rfl ?_
          refine o_T (y_nilck rfl) rfl ?_
          refine o_T (y_fa fl_167_4 rfl) rfl ?_
          refine o_st one_4 rfl rfl rfl r0 Cn.s4 (of_blt rfl) ?_
          refine o_nil0 rfl ?_
          refine c_seq ?_
          refine c_region ?_
          refine o_T (y_move rfl) rfl ?_
          refine o_call en_169 rfl (u169 _ ps pr _ rfl rfl _ _ ?_) (s_take (s_take (s_take s_nil))) rfl ?_
          · exact (⟨(by constructor <;> first | assumption | (dsimp only [Cn.cs]; omega) | (dsimp only [Cn.cs]; assumption)), by assumption, by assumption⟩)
          rintro v S' ⟨gv_2, gd_1, hl_2, rfl, hk_2, hp_1⟩
          have hk_2_s := hk_2.s
          have hk_2_r := hk_2.r
          obtain ⟨hk_2_x1, hk_2_x2, hk_2_x3, hk_2_x4, hk_2_x5, hk_2_x6, hk_2_x7⟩ := hk_2.x
          try dsimp only at hk_2_s hk_2_r
          refine o_L (y_assign rfl) rfl rfl ?_
          refine o_nil0 rfl ?_
          refine c_seq ?_
          refine c_region ?_
          refine o_T (y_move rfl) rfl ?_
          refine o_L (y_assign rfl) rfl rfl ?_
          refine o_L (y_assign rfl) rfl rfl ?_
          refine o_nil0 rfl ?_
          refine c_ret ?_
          refine fun aX wX heX hsX => ret2 Tryz.results141 heX rfl rfl (s_take (s_take (s_take (s_take (s_take s_nil))))) ?_
          first | (exfalso; omega) | (have e1 : ((⟨x, s, r⟩ : Conn).close) = ((⟨{ x with weClosed := true }, s, r⟩ : Conn).pump.1, (⟨{ x with weClosed := true }, s, r⟩ : Conn).pump.2, 0) := (by unfold Conn.close; (repeat' split) <;> first | rfl | (exfalso; omega) | (exfalso; (try dsimp only at *); omega) | (simp_all; done)); rw [e1]; exact .inr ⟨rfl, _, _, _, rfl, hl_2, rfl, hk_2⟩)
theorem u141 (b ps pr : Nat) (k : Cn) (hk1 : k.sb = ptr ps) (hk2 : k.rb = ptr pr) (s : Sb) (r : Rb)  (ok : Conn.Ok ⟨(Cn.cs k), s, r⟩) : Trip Tryz.prog 141 #[.pointer (some ⟨b, 0, none⟩)] [[(b, .cells k.enc 167 (0, 0))], [(ps, .cells s.enc 162 (0, 0))], [(pr, .cells r.enc 165 (0, 0))]] (fun u S' => (((⟨(Cn.cs k), s, r⟩ : Conn).close).2.2 ≠ 0 ∧ u = .tuple #[.slice none 0 0, .int .i64 ((⟨(Cn.cs k), s, r⟩ : Conn).close).2.2] ∧ S' = [[(b, .cells k.enc 167 (0, 0))], [(ps, .cells s.enc 162 (0, 0))], [(pr, .cells r.enc 165 (0, 0))]] ∧ ((⟨(Cn.cs k), s, r⟩ : Conn).close).1 = (⟨(Cn.cs k), s, r⟩ : Conn)) ∨ (((⟨(Cn.cs k), s, r⟩ : Conn).close).2.2 = 0 ∧ ∃ v gv gd, u = .tuple #[v, .int .i64 0] ∧ Segs v ((⟨(Cn.cs k), s, r⟩ : Conn).close).2.1 gv gd ∧ S' = [gv, gd, [(b, .cells ((((⟨(Cn.cs k), s, r⟩ : Conn).close).1).x.cn ps pr).enc 167 (0, 0))], [(ps, .cells (((⟨(Cn.cs k), s, r⟩ : Conn).close).1).s.enc 162 (0, 0))], [(pr, .cells (((⟨(Cn.cs k), s, r⟩ : Conn).close).1).r.enc 165 (0, 0))]] ∧ (((⟨(Cn.cs k), s, r⟩ : Conn).close).1).Ok)) := by
  obtain ⟨a1, a2, a3, a4, a5, a6, a7, a8, a9, a10, a11, a12, a13, a14⟩ := k
  dsimp only at hk1 hk2
  subst hk1 hk2
  exact t141 b ps pr (Cs.mk a3 a4 a5 a6 a7 a8 a9 a10 a11 a12 a13 a14) s r ok

/-- (*e2e/conn.Conn).Abort -/
theorem t140 (b ps pr : Nat) (x : Cs) (s : Sb) (r : Rb)  (ok : Conn.Ok ⟨x, s, r⟩) : Trip Tryz.prog 140 #[.pointer (some ⟨b, 0, none⟩)] [[(b, .cells (x.cn ps pr).enc 167 (0, 0))], [(ps, .cells s.enc 162 (0, 0))], [(pr, .cells r.enc 165 (0, 0))]] (fun u S' => (((⟨x, s, r⟩ : Conn).abort).2.2 ≠ 0 ∧ u = .tuple #[.slice none 0 0, .int .i64 ((⟨x, s, r⟩ : Conn).abort).2.2] ∧ S' = [[(b, .cells (x.cn ps pr).enc 167 (0, 0))], [(ps, .cells s.enc 162 (0, 0))], [(pr, .cells r.enc 165 (0, 0))]] ∧ ((⟨x, s, r⟩ : Conn).abort).1 = (⟨x, s, r⟩ : Conn)) ∨ (((⟨x, s, r⟩ : Conn).abort).2.2 = 0 ∧ ∃ v gv gd, u = .tuple #[v, .int .i64 0] ∧ Segs v ((⟨x, s, r⟩ : Conn).abort).2.1 gv gd ∧ S' = [gv, gd, [(b, .cells ((((⟨x, s, r⟩ : Conn).abort).1).x.cn ps pr).enc 167 (0, 0))], [(ps, .cells (((⟨x, s, r⟩ : Conn).abort).1).s.enc 162 (0, 0))], [(pr, .cells (((⟨x, s, r⟩ : Conn).abort).1).r.enc 165 (0, 0))]] ∧ (((⟨x, s, r⟩ : Conn).abort).1).Ok)) := by
  have ok0 := ok
  have okS : s.Ok := ok.s
  have okR : r.Ok := ok.r
  obtain ⟨x1, x2, x3, x4, x5, x6, x7⟩ := ok.x
  obtain ⟨k1, k2, k3, k4, k5, k6, k7, k8⟩ := ok.s
  obtain ⟨j1, j2, j3, j4, j5, j6, j7, j8⟩ := ok.r
  dsimp only at x1 x2 x3 x4 x5 x6 x7 k1 k2 k3 k4 k5 k6 k7 k8 j1 j2 j3 j4 j5 j6 j7 j8
  refine fn_entry (args := [.pointer (some ⟨b, 0, none⟩)]) Tryz.func140 rfl Tryz.ntmps140 rfl (fun w0 => ?_)
  refine c_seq ?_
  refine c_region ?_
  refine o_L (y_assign rfl) rfl rfl ?_
  refine o_L (y_assign rfl) rfl rfl ?_
  refine o_nil0 rfl ?_
  refine c_seq ?_
  refine c_seq ?_
  refine c_region ?_
  refine o_T (y_move rfl) rfl ?_
  refine o_T (y_nilck rfl) rfl ?_
  refine o_T (y_fa fl_167_2 rfl) rfl ?_
  refine o_ld one_3 rfl m0 Cn.g2 rfl ?_
  refine o_nil1 10 rfl rfl ?_
  refine c_block ?_
  refine c_seq ?_
  refine c_region ?_
  refine o_T (y_eql rfl rfl) rfl ?_
  refine o_L (y_assign rfl) rfl rfl ?_
  refine o_nil0 rfl ?_
  refine c_cond rfl (fun h122 => ?_) (fun h122 => ?_)
  · try simp only [decide_eq_true_eq, decide_eq_false_iff_not, Bool.not_eq_true', Bool.not_eq_false', Int.not_lt, Int.not_le, Decidable.not_not, beq_iff_eq, bne_iff_ne, ne_eq, beq_eq_false_iff_ne] at h122
    refine c_seq ?_
    refine c_region ?_
    refine o_L (y_assign rfl) rfl rfl ?_
    refine o_L (y_assign rfl) rfl rfl ?_
    refine o_nil0 rfl ?_
    refine c_ret ?_
    refine fun aX wX heX hsX => ret2 Tryz.results140 heX rfl rfl (s_take (s_take (s_take s_nil))) ?_
    first | (exfalso; omega) | (have e1 : ((⟨x, s, r⟩ : Conn).abort) = ((⟨x, s, r⟩ : Conn), [], 13) := (by unfold Conn.abort; (repeat' split) <;> first | rfl | (exfalso; omega) | (simp_all; done)); rw [e1]; exact .inl ⟨by dsimp only; omega, rfl, rfl, rfl⟩)
  · try simp only [decide_eq_true_eq, decide_eq_false_iff_not, Bool.not_eq_true', Bool.not_eq_false', Int.not_lt, Int.not_le, Decidable.not_not, beq_iff_eq, bne_iff_ne, ne_eq, beq_eq_false_iff_ne] at h122
    refine c_seq ?_
    refine c_region ?_
    refine o_T (y_eql rfl rfl) rfl ?_
    refine o_L (y_assign rfl) rfl rfl ?_
    refine o_nil0 rfl ?_
    refine c_cond rfl (fun h124 => ?_) (fun h124 => ?_)
    · try simp only [decide_eq_true_eq, decide_eq_false_iff_not, Bool.not_eq_true', Bool.not_eq_false', Int.not_lt, Int.not_le, Decidable.not_not, beq_iff_eq, bne_iff_ne, ne_eq, beq_eq_false_iff_ne] at h124
      refine c_seq ?_
      refine c_seq ?_
      refine c_region ?_
      refine o_T (y_move rfl) rfl ?_
      refine o_T (y_nilck rfl) rfl ?_
      refine o_T (y_fa fl_167_3 rfl) rfl ?_
      refine o_ld one_70 rfl m0 Cn.g3 rfl ?_
      refine o_T (y_eql rfl rfl) rfl ?_
      refine o_nil1 19 rfl rfl ?_
      refine c_cond rfl (fun h125 => ?_) (fun h125 => ?_)
      · try simp only [decide_eq_true_eq, decide_eq_false_iff_not, Bool.not_eq_true', Bool.not_eq_false', Int.not_lt, Int.not_le, Decidable.not_not, beq_iff_eq, bne_iff_ne, ne_eq, beq_eq_false_iff_ne] at h125
        refine c_seq ?_
        refine c_region ?_
        refine o_T (y_move rfl) rfl ?_
        refine o_T (y_nilck rfl) rfl ?_
        refine o_T (y_fa fl_167_13 rfl) rfl ?_
        refine o_ld one_3 rfl m0 Cn.g13 rfl ?_
        refine o_L (y_assign rfl) rfl rfl ?_
        refine o_nil0 rfl ?_
        refine c_seq ?_
        refine c_region ?_
        refine o_T (y_move rfl) rfl ?_
        refine o_call en_166 rfl (t166 _ ps pr x _ _ _ ok0) (s_take (s_take (s_take s_nil))) rfl ?_
        rintro v S' ⟨rfl, rfl, hk_1⟩
        have hk_1_s := hk_1.s
        have hk_1_r := hk_1.r
        obtain ⟨hk_1_x1, hk_1_x2, hk_1_x3, hk_1_x4, hk_1_x5, hk_1_x6, hk_1_x7⟩ := hk_1.x
        try dsimp only at hk_1_s hk_1_r
        refine o_nil0 rfl ?_
        refine c_region ?_
        refine o_T (y_move rfl) rfl ?_
        refine o_T (y_move rfl) rfl ?_
        refine o_T (y_nilck rfl) rfl ?_
        refine o_T (y_fa fl_167_13 rfl) rfl ?_
        refine o_st one_3 rfl rfl rfl r0 Cn.s13 (of_blt rfl) ?_
        refine o_nil0 rfl ?_
        refine c_seq ?_
        refine c_region ?_
        refine o_lbs0 (R := segR) sz_185 rfl (fun v_1 gv_1 hl_1 => ?_)
        refine o_L (y_assign rfl) rfl rfl ?_
        refine o_L (y_assign rfl) rfl rfl ?_
        refine o_nil0 rfl ?_
        refine c_ret ?_
        refine fun aX wX heX hsX => ret2 Tryz.results140 heX rfl rfl (s_take (s_take (s_take (s_take (s_take s_nil))))) ?_
        first | (exfalso; omega) | (have e1 : ((⟨x, s, r⟩ : Conn).abort) = ((⟨{ ((⟨x, s, r⟩ : Conn).fail 20).x with quiet := x.quiet }, ((⟨x, s, r⟩ : Conn).fail 20).s, ((⟨x, s, r⟩ : Conn).fail 20).r⟩ : Conn), [], 0) := (by unfold Conn.abort; (repeat' split) <;> first | rfl | (exfalso; omega) | (exfalso; (try dsimp only at *); omega) | (simp_all; done)); rw [e1]; exact .inr ⟨rfl, _, _, _, rfl, hl_1, rfl, ⟨⟨by simp [Conn.fail, Cs.zero], by simp [Conn.fail, Cs.zero], by simp [Conn.fail, Cs.zero], by simp [Conn.fail, Cs.zero], by simp [Conn.fail, Cs.zero], by simp [Conn.fail, Cs.zero], x7⟩, (Conn.ok_fail ok0 20).s, (Conn.ok_fail ok0 20).r⟩⟩)
      · try simp only [decide_eq_true_eq, decide_eq_false_iff_not, Bool.not_eq_true', Bool.not_eq_false', Int.not_lt, Int.not_le, Decidable.not_not, beq_iff_eq, bne_iff_ne, ne_eq, beq_eq_false_iff_ne] at h125
        refine c_skip ?_
        refine c_seq ?_
        refine c_region ?_
        refine o_lbs0 (R := segR) sz_185 rfl (fun v_2 gv_2 hl_2 => ?_)
        refine o_L (y_assign rfl) rfl rfl ?_
        refine o_L (y_assign rfl) rfl rfl ?_
        refine o_nil0 rfl ?_
        refine c_ret ?_
        refine fun aX wX heX hsX => ret2 Tryz.results140 heX rfl rfl (s_take (s_take (s_take (s_take (s_take s_nil))))) ?_
        first | (exfalso; omega) | (have e1 : ((⟨x, s, r⟩ : Conn).abort) = ((⟨x, s, r⟩ : Conn), [], 0) := (by unfold Conn.abort; (repeat' split) <;> first | rfl | (exfalso; omega) | (exfalso; (try dsimp only at *); omega) | (simp_all; done)); rw [e1]; exact .inr ⟨rfl, _, _, _, rfl, hl_2, rfl, ok0⟩)
    · try simp only [decide_eq_true_eq, decide_eq_false_iff_not, Bool.not_eq_true', Bool.not_eq_false', Int.not_lt, Int.not_le, Decidable.not_not, beq_iff_eq, bne_iff_ne, ne_eq, beq_eq_false_iff_ne] at h124
      refine c_seq ?_
      refine c_region ?_
      refine o_T (y_eql rfl rfl) rfl ?_
      refine o_L (y_assign rfl) rfl rfl ?_
      refine o_nil0 rfl ?_
      refine c_cond rfl (fun h131 => ?_) (fun h131 => ?_)
      · try simp only [decide_eq_true_eq, decide_eq_false_iff_not, Bool.not_eq_true', Bool.not_eq_false', Int.not_lt, Int.not_le, Decidable.not_not, beq_iff_eq, bne_iff_ne, ne_eq, beq_eq_false_iff_ne] at h131
        refine c_seq ?_
        refine c_region ?_
        refine o_T (y_move rfl) rfl ?_
        refine o_call en_166 rfl (t166 _ ps pr x _ _ _ ok0) (s_take (s_take (s_take s_nil))) rfl ?_
        rintro v S' ⟨rfl, rfl, hk_2⟩
        have hk_2_s := hk_2.s
        have hk_2_r := hk_2.r
        obtain ⟨hk_2_x1, hk_2_x2, hk_2_x3, hk_2_x4, hk_2_x5, hk_2_x6, hk_2_x7⟩ := hk_2.x
        try dsimp only at hk_2_s hk_2_r
        refine o_nil0 rfl ?_
        refine c_seq ?_
        refine c_region ?_
        refine o_lbs0 (R := segR) sz_185 rfl (fun v_3 gv_3 hl_3 => ?_)
        refine o_L (y_assign rfl) rfl rfl ?_
        refine o_L (y_assign rfl) rfl rfl ?_
        refine o_nil0 rfl ?_
        refine c_ret ?_
        refine fun aX wX heX hsX => ret2 Tryz.results140 heX rfl rfl (s_take (s_take (s_take (s_take (s_take s_nil))))) ?_
        first | (exfalso; omega) | (have e1 : ((⟨x, s, r⟩ : Conn).abort) = ((⟨x, s, r⟩ : Conn).fail 20, [], 0) := (by unfold Conn.abort; (repeat' split) <;> first | rfl | (exfalso; omega) | (exfalso; (try dsimp only at *); omega) | (simp_all; done)); rw [e1]; exact .inr ⟨rfl, _, _, _, rfl, hl_3, rfl, Conn.ok_fail ok0 20⟩)
      · try simp only [decide_eq_true_eq, decide_eq_false_iff_not, Bool.not_eq_true', Bool.not_eq_false', Int.not_lt, Int.not_le, Decidable.not_not, beq_iff_eq, bne_iff_ne, ne_eq, beq_eq_false_iff_ne] at h131
        refine c_skip ?_
        refine c_seq ?_
        refine c_region ?_
        refine o_T (y_move rfl) rfl ?_
        refine o_callrv en_108 rfl (t108 _ ps pr x _ _ ok0) (s_take (s_take (s_take s_nil))) rfl ?_
        refine o_L (y_assign rfl) rfl rfl ?_
        refine o_nil0 rfl ?_
        refine c_seq ?_
        refine c_region ?_
        refine o_T (y_move rfl) rfl ?_
        refine o_call en_185 rfl (t185 _) s_nil rfl ?_
        rintro v S' ⟨b_1, rfl, rfl⟩
        refine o_alloc ze_178 rfl rfl (fun b_2 => ?_)
        refine o_sta ag_178 rfl rfl rfl rfl r0 (setAll_full _ _ rfl) (of_ble rfl) ?_
        refine o_nil0 rfl ?_
        refine c_seq ?_
        refine c_region ?_
        refine o_T (y_move rfl) rfl ?_
        refine o_call en_166 rfl (t166 _ ps pr x _ _ _ ?_) (s_skip (s_skip (s_take (s_take (s_take s_nil))))) rfl ?_
        · exact (⟨ok0.x, by assumption, by assumption⟩)
        rintro v S' ⟨rfl, rfl, hk_3⟩
        have hk_3_s := hk_3.s
        have hk_3_r := hk_3.r
        obtain ⟨hk_3_x1, hk_3_x2, hk_3_x3, hk_3_x4, hk_3_x5, hk_3_x6, hk_3_x7⟩ := hk_3.x
        try dsimp only at hk_3_s hk_3_r
        refine o_nil0 rfl ?_
        refine c_seq ?_
        refine c_region ?_
        refine o_ldw ag_178 rfl (ms (ms (ms m0))) rfl rfl ?_
        refine o_call en_179 rfl (t179 _ _) (s_skip (s_skip (s_skip (s_skip (s_take s_nil))))) rfl ?_
        rintro v S' ⟨gv_4, hl_4, rfl⟩
        refine o_L (y_assign rfl) rfl rfl ?_
        refine o_L (y_assign rfl) rfl rfl ?_
        refine o_nil0 rfl ?_
        refine c_ret ?_
        refine fun aX wX heX hsX => ret2 Tryz.results140 heX rfl rfl (s_take (s_take (s_take (s_take (s_take s_nil))))) ?_
        first | (exfalso; omega) | (have e1 : ((⟨x, s, r⟩ : Conn).abort) = ((⟨x, s, r⟩ : Conn).fail 20, [rstS (⟨x, s, r⟩ : Conn).sndNxt], 0) := (by unfold Conn.abort; (repeat' split) <;> first | rfl | (exfalso; omega) | (exfalso; (try dsimp only at *); omega) | (simp_all; done)); rw [e1]; exact .inr ⟨rfl, _, _, _, rfl, hl_4, rfl, Conn.ok_fail ok0 20⟩)
theorem u140 (b ps pr : Nat) (k : Cn) (hk1 : k.sb = ptr ps) (hk2 : k.rb = ptr pr) (s : Sb) (r : Rb)  (ok : Conn.Ok ⟨(Cn.cs k), s, r⟩) : Trip Tryz.prog 140 #[.pointer (some ⟨b, 0, none⟩)] [[(b, .cells k.enc 167 (0, 0))], [(ps, .cells s.enc 162 (0, 0))], [(pr, .cells r.enc 165 (0, 0))]] (fun u S' => (((⟨(Cn.cs k), s, r⟩ : Conn).abort).2.2 ≠ 0 ∧ u = .tuple #[.slice none 0 0, .int .i64 ((⟨(Cn.cs k), s, r⟩ : Conn).abort).2.2] ∧ S' = [[(b, .cells k.enc 167 (0, 0))], [(ps, .cells s.enc 162 (0, 0))], [(pr, .cells r.enc 165 (0, 0))]] ∧ ((⟨(Cn.cs k), s, r⟩ : Conn).abort).1 = (⟨(Cn.cs k), s, r⟩ : Conn)) ∨ (((⟨(Cn.cs k), s, r⟩ : Conn).abort).2.2 = 0 ∧ ∃ v gv gd, u = .tuple #[v, .int .i64 0] ∧ Segs v ((⟨(Cn.cs k), s, r⟩ : Conn).abort).2.1 gv gd ∧ S' = [gv, gd, [(b, .cells ((((⟨(Cn.cs k), s, r⟩ : Conn).abort).1).x.cn ps pr).enc 167 (0, 0))], [(ps, .cells (((⟨(Cn.cs k), s, r⟩ : Conn).abort).1).s.enc 162 (0, 0))], [(pr, .cells (((⟨(Cn.cs k), s, r⟩ : Conn).abort).1).r.enc 165 (0, 0))]] ∧ (((⟨(Cn.cs k), s, r⟩ : Conn).abort).1).Ok)) := by
  obtain ⟨a1, a2, a3, a4, a5, a6, a7, a8, a9, a10, a11, a12, a13, a14⟩ := k
  dsimp only at hk1 hk2
  subst hk1 hk2
  exact t140 b ps pr (Cs.mk a3 a4 a5 a6 a7 a8 a9 a10 a11 a12 a13 a14) s r ok

/-- (*e2e/conn.Conn).Send -/
theorem t135 (b ps pr : Nat) (x : Cs) (s : Sb) (r : Rb) (b2 o n cap e : Nat) (cs : Array Value) (l : List Int) (ok : Conn.Ok ⟨x, s, r⟩) (hy : BytAt o n cap cs l) : Trip Tryz.prog 135 #[.pointer (some ⟨b, 0, none⟩), .slice (some ⟨b2, o, none⟩) n cap] [[(b, .cells (x.cn ps pr).enc 167 (0, 0))], [(ps, .cells s.enc 162 (0, 0))], [(pr, .cells r.enc 165 (0, 0))], [(b2, .cells cs e (0, 0))]] (fun u S' => (((⟨x, s, r⟩ : Conn).send l).2.2.2 ≠ 0 ∧ u = .tuple #[.int .i64 0, .slice none 0 0, .int .i64 ((⟨x, s, r⟩ : Conn).send l).2.2.2] ∧ S' = [[(b, .cells (x.cn ps pr).enc 167 (0, 0))], [(ps, .cells s.enc 162 (0, 0))], [(pr, .cells r.enc 165 (0, 0))], [(b2, .cells cs e (0, 0))]] ∧ ((⟨x, s, r⟩ : Conn).send l).1 = (⟨x, s, r⟩ : Conn)) ∨ (((⟨x, s, r⟩ : Conn).send l).2.2.2 = 0 ∧ ∃ v gv gd, u = .tuple #[.int .i64 ((⟨x, s, r⟩ : Conn).send l).2.1, v, .int .i64 0] ∧ Segs v ((⟨x, s, r⟩ : Conn).send l).2.2.1 gv gd ∧ S' = [gv, gd, [(b, .cells ((((⟨x, s, r⟩ : Conn).send l).1).x.cn ps pr).enc 167 (0, 0))], [(ps, .cells (((⟨x, s, r⟩ : Conn).send l).1).s.enc 162 (0, 0))], [(pr, .cells (((⟨x, s, r⟩ : Conn).send l).1).r.enc 165 (0, 0))], [(b2, .cells cs e (0, 0))]] ∧ (((⟨x, s, r⟩ : Conn).send l).1).Ok)) := by
  have ok0 := ok
  have okS : s.Ok := ok.s
  have okR : r.Ok := ok.r
  obtain ⟨x1, x2, x3, x4, x5, x6, x7⟩ := ok.x
  obtain ⟨k1, k2, k3, k4, k5, k6, k7, k8⟩ := ok.s
  obtain ⟨j1, j2, j3, j4, j5, j6, j7, j8⟩ := ok.r
  dsimp only at x1 x2 x3 x4 x5 x6 x7 k1 k2 k3 k4 k5 k6 k7 k8 j1 j2 j3 j4 j5 j6 j7 j8
  have hn := hy.n_eq
  have hyl := hy.len
  refine fn_entry (args := [.pointer (some ⟨b, 0, none⟩), .slice (some ⟨b2, o, none⟩) n cap]) Tryz.func135 rfl Tryz.ntmps135 rfl (fun w0 => ?_)
  refine c_seq ?_
  refine c_region ?_
  refine o_L (y_assign rfl) rfl rfl ?_
  refine o_L (y_assign rfl) rfl rfl ?_
  refine o_L (y_assign rfl) rfl rfl ?_
  refine o_nil0 rfl ?_
  refine c_seq ?_
  refine c_seq ?_
  refine c_region ?_
  refine o_T (y_move rfl) rfl ?_
  refine o_T (y_nilck rfl) rfl ?_
  refine o_T (y_fa fl_167_2 rfl) rfl ?_
  refine o_ld one_3 rfl m0 Cn.g2 rfl ?_
  refine o_nil1 13 rfl rfl ?_
  refine c_block ?_
  refine c_seq ?_
  refine c_region ?_
  refine o_T (y_eql rfl rfl) rfl ?_
  refine o_L (y_assign rfl) rfl rfl ?_
  refine o_nil0 rfl ?_
  refine c_cond rfl (fun h51 => ?_) (fun h51 => ?_)
  · try simp only [decide_eq_true_eq, decide_eq_false_iff_not, Bool.not_eq_true', Bool.not_eq_false', Int.not_lt, Int.not_le, Decidable.not_not, beq_iff_eq, bne_iff_ne, ne_eq, beq_eq_false_iff_ne] at h51
    refine c_seq ?_
    refine c_region ?_
    refine o_L (y_assign rfl) rfl rfl ?_
    refine o_L (y_assign rfl) rfl rfl ?_
    refine o_L (y_assign rfl) rfl rfl ?_
    refine o_nil0 rfl ?_
    refine c_ret ?_
    refine fun aX wX heX hsX => ret3 Tryz.results135 heX rfl rfl rfl (s_take (s_take (s_take (s_take s_nil)))) ?_
    first | (exfalso; omega) | (have e1 : ((⟨x, s, r⟩ : Conn).send l) = ((⟨x, s, r⟩ : Conn), 0, [], 13) := (by unfold Conn.send; (repeat' split) <;> first | rfl | (exfalso; omega) | (simp_all; done)); rw [e1]; exact .inl ⟨by dsimp only; omega, rfl, rfl, rfl⟩)
  · try simp only [decide_eq_true_eq, decide_eq_false_iff_not, Bool.not_eq_true', Bool.not_eq_false', Int.not_lt, Int.not_le, Decidable.not_not, beq_iff_eq, bne_iff_ne, ne_eq, beq_eq_false_iff_ne] at h51
    refine c_seq ?_
    refine c_seq ?_
    refine c_region ?_
    refine o_T (y_eql rfl rfl) rfl ?_
    refine o_L (y_assign rfl) rfl rfl ?_
    refine o_nil0 rfl ?_
    refine c_cond rfl (fun h53 => ?_) (fun h53 => ?_)
    · try simp only [decide_eq_true_eq, decide_eq_false_iff_not, Bool.not_eq_true', Bool.not_eq_false', Int.not_lt, Int.not_le, Decidable.not_not, beq_iff_eq, bne_iff_ne, ne_eq, beq_eq_false_iff_ne] at h53
      refine c_skip ?_
      refine c_cond rfl (fun h53_1 => ?_) (fun h53_1 => ?_)
      · try simp only [decide_eq_true_eq, decide_eq_false_iff_not, Bool.not_eq_true', Bool.not_eq_false', Int.not_lt, Int.not_le, Decidable.not_not, beq_iff_eq, bne_iff_ne, ne_eq, beq_eq_false_iff_ne] at h53_1
        refine c_seq ?_
        refine c_region ?_
        refine o_L (y_assign rfl) rfl rfl ?_
        refine o_L (y_assign rfl) rfl rfl ?_
        refine o_L (y_assign rfl) rfl rfl ?_
        refine o_nil0 rfl ?_
        refine c_ret ?_
        refine fun aX wX heX hsX => ret3 Tryz.results135 heX rfl rfl rfl (s_take (s_take (s_take (s_take s_nil)))) ?_
        first | (exfalso; omega) | (have e1 : ((⟨x, s, r⟩ : Conn).send l) = ((⟨x, s, r⟩ : Conn), 0, [], 14) := (by unfold Conn.send; (repeat' split) <;> first | rfl | (exfalso; omega) | (simp_all; done)); rw [e1]; exact .inl ⟨by dsimp only; omega, rfl, rfl, rfl⟩)
      · try simp only [decide_eq_true_eq, decide_eq_false_iff_not, Bool.not_eq_true', Bool.not_eq_false', Int.not_lt, Int.not_le, Decidable.not_not, beq_iff_eq, bne_iff_ne, ne_eq, beq_eq_false_iff_ne] at h53_1
        refine c_seq ?_
        refine c_region ?_
        refine o_T (y_eql rfl rfl) rfl ?_
        refine o_L (y_assign rfl) rfl rfl ?_
        refine o_nil0 rfl ?_
        refine c_cond rfl (fun h55 => ?_) (fun h55 => ?_)
        · try simp only [decide_eq_true_eq, decide_eq_false_iff_not, Bool.not_eq_true', Bool.not_eq_false', Int.not_lt, Int.not_le, Decidable.not_not, beq_iff_eq, bne_iff_ne, ne_eq, beq_eq_false_iff_ne] at h55
          refine c_seq ?_
          refine c_region ?_
          refine o_T (y_move rfl) rfl ?_
          refine o_callrv en_181 rfl (t181 _ ps pr x _ _ ok0) (s_take (s_take (s_take s_nil))) rfl ?_
          refine o_L (y_assign rfl) rfl rfl ?_
          refine o_nil0 rfl ?_
          refine c_seq ?_
          refine c_region ?_
          refine o_T (y_move rfl) rfl ?_
          refine o_L (y_assign rfl) rfl rfl ?_
          refine o_L (y_assign rfl) rfl rfl ?_
          refine o_L (y_assign rfl) rfl rfl ?_
          refine o_nil0 rfl ?_
          refine c_ret ?_
          refine fun aX wX heX hsX => ret3 Tryz.results135 heX rfl rfl rfl (s_take (s_take (s_take (s_take s_nil)))) ?_
          first | (exfalso; omega) | (have e1 : ((⟨x, s, r⟩ : Conn).send l) = ((⟨x, s, r⟩ : Conn), 0, [], 14) := (by unfold Conn.send; (repeat' split) <;> first | rfl | (exfalso; omega) | (simp_all; done)); rw [e1]; exact .inl ⟨by dsimp only; omega, rfl, rfl, rfl⟩)
        · try simp only [decide_eq_true_eq, decide_eq_false_iff_not, Bool.not_eq_true', Bool.not_eq_false', Int.not_lt, Int.not_le, Decidable.not_not, beq_iff_eq, bne_iff_ne, ne_eq, beq_eq_false_iff_ne] at h55
          refine c_skip ?_
          refine c_seq ?_
          refine c_seq ?_
          refine c_region ?_
          refine o_T (y_move rfl) rfl ?_
          refine o_T (y_nilck rfl) rfl ?_
          refine o_T (y_fa fl_167_4 rfl) rfl ?_
          refine o_ld one_4 rfl m0 Cn.g4 rfl ?_
          refine o_nil1 27 rfl rfl ?_
          refine c_cond rfl (fun h59 => ?_) (fun h59 => ?_)
          · try simp only [decide_eq_true_eq, decide_eq_false_iff_not, Bool.not_eq_true', Bool.not_eq_false', Int.not_lt, Int.not_le, Decidable.not_not, beq_iff_eq, bne_iff_ne, ne_eq, beq_eq_false_iff_ne] at h59
            refine c_seq ?_
            refine c_region ?_
            refine o_L (y_assign rfl) rfl rfl ?_
            refine o_L (y_assign rfl) rfl rfl ?_
            refine o_L (y_assign rfl) rfl rfl ?_
            refine o_nil0 rfl ?_
            refine c_ret ?_
            refine fun aX wX heX hsX => ret3 Tryz.results135 heX rfl rfl rfl (s_take (s_take (s_take (s_take s_nil)))) ?_
            first | (exfalso; omega) | (have e1 : ((⟨x, s, r⟩ : Conn).send l) = ((⟨x, s, r⟩ : Conn), 0, [], 14) := (by unfold Conn.send; (repeat' split) <;> first | rfl | (exfalso; omega) | (simp_all; done)); rw [e1]; exact .inl ⟨by dsimp only; omega, rfl, rfl, rfl⟩)
          · try simp only [decide_eq_true_eq, decide_eq_false_iff_not, Bool.not_eq_true', Bool.not_eq_false', Int.not_lt, Int.not_le, Decidable.not_not, beq_iff_eq, bne_iff_ne, ne_eq, beq_eq_false_iff_ne] at h59
            refine c_skip ?_
            refine c_seq ?_
            refine c_seq ?_
            refine c_region ?_
            refine o_T (y_move rfl) rfl ?_
            refine o_T (y_len Tryz.underlying81 rfl) rfl ?_
            refine o_T (y_gtr rfl rfl) rfl ?_
            refine o_nil1 30 rfl rfl ?_
            refine c_cond rfl (fun h62 => ?_) (fun h62 => ?_)
            · try simp only [decide_eq_true_eq, decide_eq_false_iff_not, Bool.not_eq_true', Bool.not_eq_false', Int.not_lt, Int.not_le, Decidable.not_not, beq_iff_eq, bne_iff_ne, ne_eq, beq_eq_false_iff_ne] at h62
              refine c_seq ?_
              refine c_region ?_
              refine o_T (y_move rfl) rfl ?_
              refine o_T (y_nilck rfl) rfl ?_
              refine o_T (y_fa fl_167_0 rfl) rfl ?_
              refine o_ld one_102 rfl m0 Cn.g0 rfl ?_
              refine o_callrv en_110 rfl (t110 _ _ (by assumption)) (s_skip (s_take s_nil)) rfl ?_
              refine o_T (y_eql rfl rfl) rfl ?_
              refine o_nil1 36 rfl rfl ?_
              refine c_cond rfl (fun h63 => ?_) (fun h63 => ?_)
              · try simp only [decide_eq_true_eq, decide_eq_false_iff_not, Bool.not_eq_true', Bool.not_eq_false', Int.not_lt, Int.not_le, Decidable.not_not, beq_iff_eq, bne_iff_ne, ne_eq, beq_eq_false_iff_ne] at h63
                refine c_seq ?_
                refine c_region ?_
                refine o_L (y_assign rfl) rfl rfl ?_
                refine o_L (y_assign rfl) rfl rfl ?_
                refine o_L (y_assign rfl) rfl rfl ?_
                refine o_nil0 rfl ?_
                refine c_ret ?_
                refine fun aX wX heX hsX => ret3 Tryz.results135 heX rfl rfl rfl (s_take (s_take (s_take (s_take s_nil)))) ?_
                first | (exfalso; omega) | (have e1 : ((⟨x, s, r⟩ : Conn).send l) = ((⟨x, s, r⟩ : Conn), 0, [], 14) := (by unfold Conn.send; (repeat' split) <;> first | rfl | (exfalso; omega) | (simp_all; done)); rw [e1]; exact .inl ⟨by dsimp only; omega, rfl, rfl, rfl⟩)
              · try simp only [decide_eq_true_eq, decide_eq_false_iff_not, Bool.not_eq_true', Bool.not_eq_false', Int.not_lt, Int.not_le, Decidable.not_not, beq_iff_eq, bne_iff_ne, ne_eq, beq_eq_false_iff_ne] at h63
                refine c_skip ?_
                refine c_seq ?_
                refine c_region ?_
                refine o_T (y_move rfl) rfl ?_
                refine o_T (y_nilck rfl) rfl ?_
                refine o_T (y_fa fl_167_0 rfl) rfl ?_
                refine o_ld one_102 rfl m0 Cn.g0 rfl ?_
                refine o_T (y_move rfl) rfl ?_
                refine o_call en_182 rfl (t182 _ _ _ _ _ _ _ _ _ (by assumption) hy) (s_skip (s_take (s_skip (s_take s_nil)))) rfl ?_
                rintro v S' ⟨rfl, rfl⟩
                refine o_L (y_assign rfl) rfl rfl ?_
                refine o_nil0 rfl ?_
                refine c_seq ?_
                have okP := Sb.ok_put okS hy.bytes
                refine c_region ?_
                refine o_T (y_move rfl) rfl ?_
                refine o_call en_169 rfl (t169 _ ps pr x _ _ ?_) (s_get (ks (ks k0)) (s_get k0 (s_get (ks k0) s_nil))) rfl ?_
                · exact (⟨ok0.x, by assumption, by assumption⟩)
                rintro v S' ⟨gv_1, gd_1, hl_1, rfl, hk_1, hp_1⟩
                have hk_1_s := hk_1.s
                have hk_1_r := hk_1.r
                obtain ⟨hk_1_x1, hk_1_x2, hk_1_x3, hk_1_x4, hk_1_x5, hk_1_x6, hk_1_x7⟩ := hk_1.x
                try dsimp only at hk_1_s hk_1_r
                refine o_L (y_assign rfl) rfl rfl ?_
                refine o_nil0 rfl ?_
                refine c_seq ?_
                refine c_region ?_
                refine o_T (y_move rfl) rfl ?_
                refine o_T (y_move rfl) rfl ?_
                refine o_L (y_assign rfl) rfl rfl ?_
                refine o_L (y_assign rfl) rfl rfl ?_
                refine o_L (y_assign rfl) rfl rfl ?_
                refine o_nil0 rfl ?_
                refine c_ret ?_
                refine fun aX wX heX hsX => ret3 Tryz.results135 heX rfl rfl rfl (s_take (s_take (s_take (s_take (s_take (s_take s_nil)))))) ?_
                first | (exfalso; omega) | (have e1 : ((⟨x, s, r⟩ : Conn).send l) = ((⟨x, s, r⟩ : Conn), 0, [], 14) := (by unfold Conn.send; (repeat' split) <;> first | rfl | (exfalso; omega) | (simp_all; done)); rw [e1]; exact .inl ⟨by dsimp only; omega, rfl, rfl, rfl⟩)
            · try simp only [decide_eq_true_eq, decide_eq_false_iff_not, Bool.not_eq_true', Bool.not_eq_false', Int.not_lt, Int.not_le, Decidable.not_not, beq_iff_eq, bne_iff_ne, ne_eq, beq_eq_false_iff_ne] at h62
              refine c_skip ?_
              refine c_seq ?_
              refine c_region ?_
              refine o_T (y_move rfl) rfl ?_
              refine o_T (y_nilck rfl) rfl ?_
              refine o_T (y_fa fl_167_0 rfl) rfl ?_
              refine o_ld one_102 rfl m0 Cn.g0 rfl ?_
              refine o_T (y_move rfl) rfl ?_
              refine o_call en_182 rfl (t182 _ _ _ _ _ _ _ _ _ (by assumption) hy) (s_skip (s_take (s_skip (s_take s_nil)))) rfl ?_
              rintro v S' ⟨rfl, rfl⟩
              refine o_L (y_assign rfl) rfl rfl ?_
              refine o_nil0 rfl ?_
              refine c_seq ?_
              have okP := Sb.ok_put okS hy.bytes
              refine c_region ?_
              refine o_T (y_move rfl) rfl ?_
              refine o_call en_169 rfl (t169 _ ps pr x _ _ ?_) (s_get (ks (ks k0)) (s_get k0 (s_get (ks k0) s_nil))) rfl ?_
              · exact (⟨ok0.x, by assumption, by assumption⟩)
              rintro v S' ⟨gv_2, gd_2, hl_2, rfl, hk_2, hp_2⟩
              have hk_2_s := hk_2.s
              have hk_2_r := hk_2.r
              obtain ⟨hk_2_x1, hk_2_x2, hk_2_x3, hk_2_x4, hk_2_x5, hk_2_x6, hk_2_x7⟩ := hk_2.x
              try dsimp only at hk_2_s hk_2_r
              refine o_L (y_assign rfl) rfl rfl ?_
              refine o_nil0 rfl ?_
              refine c_seq ?_
              refine c_region ?_
              refine o_T (y_move rfl) rfl ?_
              refine o_T (y_move rfl) rfl ?_
              refine o_L (y_assign rfl) rfl rfl ?_
              refine o_L (y_assign rfl) rfl rfl ?_
              refine o_L (y_assign rfl) rfl rfl ?_
              refine o_nil0 rfl ?_
              refine c_ret ?_
              refine fun aX wX heX hsX => ret3 Tryz.results135 heX rfl rfl rfl (s_take (s_take (s_take (s_take (s_take (s_take s_nil)))))) ?_
              first | (exfalso; omega) | (have e1 : ((⟨x, s, r⟩ : Conn).send l) = ((⟨x, s, r⟩ : Conn), 0, [], 14) := (by unfold Conn.send; (repeat' split) <;> first | rfl | (exfalso; omega) | (simp_all; done)); rw [e1]; exact .inl ⟨by dsimp only; omega, rfl, rfl, rfl⟩)
    · try simp only [decide_eq_true_eq, decide_eq_false_iff_not, Bool.not_eq_true', Bool.not_eq_false', Int.not_lt, Int.not_le, Decidable.not_not, beq_iff_eq, bne_iff_ne, ne_eq, beq_eq_false_iff_ne] at h53
      refine c_region ?_
      refine o_T (y_eql rfl rfl) rfl ?_
      refine o_L (y_assign rfl) rfl rfl ?_
      refine o_nil0 rfl ?_
      refine c_cond rfl (fun h53_1 => ?_) (fun h53_1 => ?_)
      · try simp only [decide_eq_true_eq, decide_eq_false_iff_not, Bool.not_eq_true', Bool.not_eq_false', Int.not_lt, Int.not_le, Decidable.not_not, beq_iff_eq, bne_iff_ne, ne_eq, beq_eq_false_iff_ne] at h53_1
        refine c_seq ?_
        refine c_region ?_
        refine o_L (y_assign rfl) rfl rfl ?_
        refine o_L (y_assign rfl) rfl rfl ?_
        refine o_L (y_assign rfl) rfl rfl ?_
        refine o_nil0 rfl ?_
        refine c_ret ?_
        refine fun aX wX heX hsX => ret3 Tryz.results135 heX rfl rfl rfl (s_take (s_take (s_take (s_take s_nil)))) ?_
        first | (exfalso; omega) | (have e1 : ((⟨x, s, r⟩ : Conn).send l) = ((⟨x, s, r⟩ : Conn), 0, [], 14) := (by unfold Conn.send; (repeat' split) <;> first | rfl | (exfalso; omega) | (simp_all; done)); rw [e1]; exact .inl ⟨by dsimp only; omega, rfl, rfl, rfl⟩)
      · try simp only [decide_eq_true_eq, decide_eq_false_iff_not, Bool.not_eq_true', Bool.not_eq_false', Int.not_lt, Int.not_le, Decidable.not_not, beq_iff_eq, bne_iff_ne, ne_eq, beq_eq_false_iff_ne] at h53_1
        refine c_seq ?_
        refine c_region ?_
        refine o_T (y_eql rfl rfl) rfl ?_
        refine o_L (y_assign rfl) rfl rfl ?_
        refine o_nil0 rfl ?_
        refine c_cond rfl (fun h55 => ?_) (fun h55 => ?_)
        · try simp only [decide_eq_true_eq, decide_eq_false_iff_not, Bool.not_eq_true', Bool.not_eq_false', Int.not_lt, Int.not_le, Decidable.not_not, beq_iff_eq, bne_iff_ne, ne_eq, beq_eq_false_iff_ne] at h55
          refine c_seq ?_
          refine c_region ?_
          refine o_T (y_move rfl) rfl ?_
          refine o_callrv en_181 rfl (t181 _ ps pr x _ _ ok0) (s_take (s_take (s_take s_nil))) rfl ?_
          refine o_L (y_assign rfl) rfl rfl ?_
          refine o_nil0 rfl ?_
          refine c_seq ?_
          refine c_region ?_
          refine o_T (y_move rfl) rfl ?_
          refine o_L (y_assign rfl) rfl rfl ?_
          refine o_L (y_assign rfl) rfl rfl ?_
          refine o_L (y_assign rfl) rfl rfl ?_
          refine o_nil0 rfl ?_
          refine c_ret ?_
          refine fun aX wX heX hsX => ret3 Tryz.results135 heX rfl rfl rfl (s_take (s_take (s_take (s_take s_nil)))) ?_
          first | (exfalso; omega) | (have e1 : ((⟨x, s, r⟩ : Conn).send l) = ((⟨x, s, r⟩ : Conn), 0, [], x.ended) := (by unfold Conn.send; (repeat' split) <;> first | rfl | (exfalso; omega) | (simp_all; done)); rw [e1]; exact .inl ⟨by dsimp only; unfold Cs.ended; split <;> omega, rfl, rfl, rfl⟩)
        · try simp only [decide_eq_true_eq, decide_eq_false_iff_not, Bool.not_eq_true', Bool.not_eq_false', Int.not_lt, Int.not_le, Decidable.not_not, beq_iff_eq, bne_iff_ne, ne_eq, beq_eq_false_iff_ne] at h55
          refine c_skip ?_
          refine c_seq ?_
          refine c_seq ?_
          refine c_region ?_
          refine o_T (y_move rfl) rfl ?_
          refine o_T (y_nilck rfl) rfl ?_
          refine o_T (y_fa fl_167_4 rfl) rfl ?_
          refine o_ld one_4 rfl m0 Cn.g4 rfl ?_
          refine o_nil1 27 rfl rfl ?_
          refine c_cond rfl (fun h59 => ?_) (fun h59 => ?_)
          · try simp only [decide_eq_true_eq, decide_eq_false_iff_not, Bool.not_eq_true', Bool.not_eq_false', Int.not_lt, Int.not_le, Decidable.not_not, beq_iff_eq, bne_iff_ne, ne_eq, beq_eq_false_iff_ne] at h59
            refine c_seq ?_
            refine c_region ?_
            refine o_L (y_assign rfl) rfl rfl ?_
            refine o_L (y_assign rfl) rfl rfl ?_
            refine o_L (y_assign rfl) rfl rfl ?_
            refine o_nil0 rfl ?_
            refine c_ret ?_
            refine fun aX wX heX hsX => ret3 Tryz.results135 heX rfl rfl rfl (s_take (s_take (s_take (s_take s_nil)))) ?_
            first | (exfalso; omega) | (have e1 : ((⟨x, s, r⟩ : Conn).send l) = ((⟨x, s, r⟩ : Conn), 0, [], 15) := (by unfold Conn.send; (repeat' split) <;> first | rfl | (exfalso; omega) | (simp_all; done)); rw [e1]; exact .inl ⟨by dsimp only; omega, rfl, rfl, rfl⟩)
          · try simp only [decide_eq_true_eq, decide_eq_false_iff_not, Bool.not_eq_true', Bool.not_eq_false', Int.not_lt, Int.not_le, Decidable.not_not, beq_iff_eq, bne_iff_ne, ne_eq, beq_eq_false_iff_ne] at h59
            refine c_skip ?_
            refine c_seq ?_
            refine c_seq ?_
            refine c_region ?_
            refine o_T (y_move rfl) rfl ?_
            refine o_T (y_len Tryz.underlying81 rfl) rfl ?_
            refine o_T (y_gtr rfl rfl) rfl ?_
            refine o_nil1 30 rfl rfl ?_
            refine c_cond rfl (fun h62 => ?_) (fun h62 => ?_)
            · try simp only [decide_eq_true_eq, decide_eq_false_iff_not, Bool.not_eq_true', Bool.not_eq_false', Int.not_lt, Int.not_le, Decidable.not_not, beq_iff_eq, bne_iff_ne, ne_eq, beq_eq_false_iff_ne] at h62
              refine c_seq ?_
              refine c_region ?_
              refine o_T (y_move rfl) rfl ?_
              refine o_T (y_nilck rfl) rfl ?_
              refine o_T (y_fa fl_167_0 rfl) rfl ?_
              refine o_ld one_102 rfl m0 Cn.g0 rfl ?_
              refine o_callrv en_110 rfl (t110 _ _ (by assumption)) (s_skip (s_take s_nil)) rfl ?_
              refine o_T (y_eql rfl rfl) rfl ?_
              refine o_nil1 36 rfl rfl ?_
              refine c_cond rfl (fun h63 => ?_) (fun h63 => ?_)
              · try simp only [decide_eq_true_eq, decide_eq_false_iff_not, Bool.not_eq_true', Bool.not_eq_false', Int.not_lt, Int.not_le, Decidable.not_not, beq_iff_eq, bne_iff_ne, ne_eq, beq_eq_false_iff_ne] at h63
                refine c_seq ?_
                refine c_region ?_
                refine o_L (y_assign rfl) rfl rfl ?_
                refine o_L (y_assign rfl) rfl rfl ?_
                refine o_L (y_assign rfl) rfl rfl ?_
                refine o_nil0 rfl ?_
                refine c_ret ?_
                refine fun aX wX heX hsX => ret3 Tryz.results135 heX rfl rfl rfl (s_take (s_take (s_take (s_take s_nil)))) ?_
                first | (exfalso; omega) | (have e1 : ((⟨x, s, r⟩ : Conn).send l) = ((⟨x, s, r⟩ : Conn), 0, [], 14) := (by unfold Conn.send; (repeat' split) <;> first | rfl | (exfalso; omega) | (simp_all; done)); rw [e1]; exact .inl ⟨by dsimp only; omega, rfl, rfl, rfl⟩)
              · try simp only [decide_eq_true_eq, decide_eq_false_iff_not, Bool.not_eq_true', Bool.not_eq_false', Int.not_lt, Int.not_le, Decidable.not_not, beq_iff_eq, bne_iff_ne, ne_eq, beq_eq_false_iff_ne] at h63
                refine c_skip ?_
                refine c_seq ?_
                refine c_region ?_
                refine o_T (y_move rfl) rfl ?_
                refine o_T (y_nilck rfl) rfl ?_
                refine o_T (y_fa fl_167_0 rfl) rfl ?_
                refine o_ld one_102 rfl m0 Cn.g0 rfl ?_
                refine o_T (y_move rfl) rfl ?_
                refine o_call en_182 rfl (t182 _ _ _ _ _ _ _ _ _ (by assumption) hy) (s_skip (s_take (s_skip (s_take s_nil)))) rfl ?_
                rintro v S' ⟨rfl, rfl⟩
                refine o_L (y_assign rfl) rfl rfl ?_
                refine o_nil0 rfl ?_
                refine c_seq ?_
                have okP := Sb.ok_put okS hy.bytes
                refine c_region ?_
                refine o_T (y_move rfl) rfl ?_
                refine o_call en_169 rfl (t169 _ ps pr x _ _ ?_) (s_get (ks (ks k0)) (s_get k0 (s_get (ks k0) s_nil))) rfl ?_
                · exact (⟨ok0.x, by assumption, by assumption⟩)
                rintro v S' ⟨gv_3, gd_3, hl_3, rfl, hk_3, hp_3⟩
                have hk_3_s := hk_3.s
                have hk_3_r := hk_3.r
                obtain ⟨hk_3_x1, hk_3_x2, hk_3_x3, hk_3_x4, hk_3_x5, hk_3_x6, hk_3_x7⟩ := hk_3.x
                try dsimp only at hk_3_s hk_3_r
                refine o_L (y_assign rfl) rfl rfl ?_
                refine o_nil0 rfl ?_
                refine c_seq ?_
                refine c_region ?_
                refine o_T (y_move rfl) rfl ?_
                refine o_T (y_move rfl) rfl ?_
                refine o_L (y_assign rfl) rfl rfl ?_
                refine o_L (y_assign rfl) rfl rfl ?_
                refine o_L (y_assign rfl) rfl rfl ?_
                refine o_nil0 rfl ?_
                refine c_ret ?_
                refine fun aX wX heX hsX => ret3 Tryz.results135 heX rfl rfl rfl (s_take (s_take (s_take (s_take (s_take (s_take s_nil)))))) ?_
                first | (exfalso; omega) | (have e1 : ((⟨x, s, r⟩ : Conn).send l) = ((⟨x, s.put l, r⟩ : Conn).pump.1, s.putN l, (⟨x, s.put l, r⟩ : Conn).pump.2, 0) := (by unfold Conn.send; (repeat' split) <;> first | rfl | (exfalso; omega) | (exfalso; (try dsimp only at *); omega) | (simp_all; done)); rw [e1]; exact .inr ⟨rfl, _, _, _, rfl, hl_3, rfl, hk_3⟩)
            · try simp only [decide_eq_true_eq, decide_eq_false_iff_not, Bool.not_eq_true', Bool.not_eq_false', Int.not_lt, Int.not_le, Decidable.not_not, beq_iff_eq, bne_iff_ne, ne_eq, beq_eq_false_iff_ne] at h62
              refine c_skip ?_
              refine c_seq ?_
              refine c_region ?_
              refine o_T (y_move rfl) rfl ?_
              refine o_T (y_nilck rfl) rfl ?_
              refine o_T (y_fa fl_167_0 rfl) rfl ?_
              refine o_ld one_102 rfl m0 Cn.g0 rfl ?_
              refine o_T (y_move rfl) rfl ?_
              refine o_call en_182 rfl (t182 _ _ _ _ _ _ _ _ _ (by assumption) hy) (s_skip (s_take (s_skip (s_take s_nil)))) rfl ?_
              rintro v S' ⟨rfl, rfl⟩
              refine o_L (y_assign rfl) rfl rfl ?_
              refine o_nil0 rfl ?_
              refine c_seq ?_
              have okP := Sb.ok_put okS hy.bytes
              refine c_region ?_
              refine o_T (y_move rfl) rfl ?_
              refine o_call en_169 rfl (t169 _ ps pr x _ _ ?_) (s_get (ks (ks k0)) (s_get k0 (s_get (ks k0) s_nil))) rfl ?_
              · exact (⟨ok0.x, by assumption, by assumption⟩)
              rintro v S' ⟨gv_4, gd_4, hl_4, rfl, hk_4, hp_4⟩
              have hk_4_s := hk_4.s
              have hk_4_r := hk_4.r
              obtain ⟨hk_4_x1, hk_4_x2, hk_4_x3, hk_4_x4, hk_4_x5, hk_4_x6, hk_4_x7⟩ := hk_4.x
              try dsimp only at hk_4_s hk_4_r
              refine o_L (y_assign rfl) rfl rfl ?_
              refine o_nil0 rfl ?_
              refine c_seq ?_
              refine c_region ?_
              refine o_T (y_move rfl) rfl ?_
              refine o_T (y_move rfl) rfl ?_
              refine o_L (y_assign rfl) rfl rfl ?_
              refine o_L (y_assign rfl) rfl rfl ?_
              refine o_L (y_assign rfl) rfl rfl ?_
              refine o_nil0 rfl ?_
              refine c_ret ?_
              refine fun aX wX heX hsX => ret3 Tryz.results135 heX rfl rfl rfl (s_take (s_take (s_take (s_take (s_take (s_take s_nil)))))) ?_
              first | (exfalso; omega) | (have e1 : ((⟨x, s, r⟩ : Conn).send l) = ((⟨x, s.put l, r⟩ : Conn).pump.1, s.putN l, (⟨x, s.put l, r⟩ : Conn).pump.2, 0) := (by unfold Conn.send; (repeat' split) <;> first | rfl | (exfalso; omega) | (exfalso; (try dsimp only at *); omega) | (simp_all; done)); rw [e1]; exact .inr ⟨rfl, _, _, _, rfl, hl_4, rfl, hk_4⟩)
theorem u135 (b ps pr : Nat) (k : Cn) (hk1 : k.sb = ptr ps) (hk2 : k.rb = ptr pr) (s : Sb) (r : Rb) (b2 o n cap e : Nat) (cs : Array Value) (l : List Int) (ok : Conn.Ok ⟨(Cn.cs k), s, r⟩) (hy : BytAt o n cap cs l) : Trip Tryz.prog 135 #[.pointer (some ⟨b, 0, none⟩), .slice (some ⟨b2, o, none⟩) n cap] [[(b, .cells k.enc 167 (0, 0))], [(ps, .cells s.enc 162 (0, 0))], [(pr, .cells r.enc 165 (0, 0))], [(b2, .cells cs e (0, 0))]] (fun u S' => (((⟨(Cn.cs k), s, r⟩ : Conn).send l).2.2.2 ≠ 0 ∧ u = .tuple #[.int .i64 0, .slice none 0 0, .int .i64 ((⟨(Cn.cs k), s, r⟩ : Conn).send l).2.2.2] ∧ S' = [[(b, .cells k.enc 167 (0, 0))], [(ps, .cells s.enc 162 (0, 0))], [(pr, .cells r.enc 165 (0, 0))], [(b2, .cells cs e (0, 0))]] ∧ ((⟨(Cn.cs k), s, r⟩ : Conn).send l).1 = (⟨(Cn.cs k), s, r⟩ : Conn)) ∨ (((⟨(Cn.cs k), s, r⟩ : Conn).send l).2.2.2 = 0 ∧ ∃ v gv gd, u = .tuple #[.int .i64 ((⟨(Cn.cs k), s, r⟩ : Conn).send l).2.1, v, .int .i64 0] ∧ Segs v ((⟨(Cn.cs k), s, r⟩ : Conn).send l).2.2.1 gv gd ∧ S' = [gv, gd, [(b, .cells ((((⟨(Cn.cs k), s, r⟩ : Conn).send l).1).x.cn ps pr).enc 167 (0, 0))], [(ps, .cells (((⟨(Cn.cs k), s, r⟩ : Conn).send l).1).s.enc 162 (0, 0))], [(pr, .cells (((⟨(Cn.cs k), s, r⟩ : Conn).send l).1).r.enc 165 (0, 0))], [(b2, .cells cs e (0, 0))]] ∧ (((⟨(Cn.cs k), s, r⟩ : Conn).send l).1).Ok)) := by
  obtain ⟨a1, a2, a3, a4, a5, a6, a7, a8, a9, a10, a11, a12, a13, a14⟩ := k
  dsimp only at hk1 hk2
  subst hk1 hk2
  exact t135 b ps pr (Cs.mk a3 a4 a5 a6 a7 a8 a9 a10 a11 a12 a13 a14) s r b2 o n cap e cs l ok hy

/-- (*e2e/conn.Conn).Recv -/
theorem t136 (b ps pr : Nat) (x : Cs) (s : Sb) (r : Rb) (mx : Int) (ok : Conn.Ok ⟨x, s, r⟩) (hq : x.st = 4 → x.why = 0 → x.peerFin = true) : Trip Tryz.prog 136 #[.pointer (some ⟨b, 0, none⟩), .int .i64 mx] [[(b, .cells (x.cn ps pr).enc 167 (0, 0))], [(ps, .cells s.enc 162 (0, 0))], [(pr, .cells r.enc 165 (0, 0))]] (fun u S' => (((⟨x, s, r⟩ : Conn).recv mx).2.2.2 ≠ 0 ∧ u = .tuple #[.slice none 0 0, .slice none 0 0, .int .i64 ((⟨x, s, r⟩ : Conn).recv mx).2.2.2] ∧ S' = [[(b, .cells (x.cn ps pr).enc 167 (0, 0))], [(ps, .cells s.enc 162 (0, 0))], [(pr, .cells r.enc 165 (0, 0))]] ∧ ((⟨x, s, r⟩ : Conn).recv mx).1 = (⟨x, s, r⟩ : Conn)) ∨ (((⟨x, s, r⟩ : Conn).recv mx).2.2.2 = 0 ∧ ∃ v gv gd b2, u = .tuple #[byV b2 ((⟨x, s, r⟩ : Conn).recv mx).2.1, v, .int .i64 0] ∧ Segs v ((⟨x, s, r⟩ : Conn).recv mx).2.2.1 gv gd ∧ S' = [byG b2 ((⟨x, s, r⟩ : Conn).recv mx).2.1 5, gv, gd, [(b, .cells ((((⟨x, s, r⟩ : Conn).recv mx).1).x.cn ps pr).enc 167 (0, 0))], [(ps, .cells (((⟨x, s, r⟩ : Conn).recv mx).1).s.enc 162 (0, 0))], [(pr, .cells (((⟨x, s, r⟩ : Conn).recv mx).1).r.enc 165 (0, 0))]] ∧ (((⟨x, s, r⟩ : Conn).recv mx).1).Ok)) := by
  have ok0 := ok
  have okS : s.Ok := ok.s
  have okR : r.Ok := ok.r
  obtain ⟨x1, x2, x3, x4, x5, x6, x7⟩ := ok.x
  obtain ⟨k1, k2, k3, k4, k5, k6, k7, k8⟩ := ok.s
  obtain ⟨j1, j2, j3, j4, j5, j6, j7, j8⟩ := ok.r
  dsimp only at x1 x2 x3 x4 x5 x6 x7 k1 k2 k3 k4 k5 k6 k7 k8 j1 j2 j3 j4 j5 j6 j7 j8
  refine fn_entry (args := [.pointer (some ⟨b, 0, none⟩), .int .i64 mx]) Tryz.func136 rfl Tryz.ntmps136 rfl (fun w0 => ?_)
  refine c_seq ?_
  refine c_region ?_
  refine o_L (y_assign rfl) rfl rfl ?_
  refine o_L (y_assign rfl) rfl rfl ?_
  refine o_L (y_assign rfl) rfl rfl ?_
  refine o_nil0 rfl ?_
  refine c_seq ?_
  refine c_seq ?_
  refine c_region ?_
  refine o_T (y_move rfl) rfl ?_
  refine o_T (y_nilck rfl) rfl ?_
  refine o_T (y_fa fl_167_2 rfl) rfl ?_
  refine o_ld one_3 rfl m0 Cn.g2 rfl ?_
  refine o_T (y_eql rfl rfl) rfl ?_
  refine o_nil1 15 rfl rfl ?_
  refine c_cond rfl (fun h74 => ?_) (fun h74 => ?_)
  · try simp only [decide_eq_true_eq, decide_eq_false_iff_not, Bool.not_eq_true', Bool.not_eq_false', Int.not_lt, Int.not_le, Decidable.not_not, beq_iff_eq, bne_iff_ne, ne_eq, beq_eq_false_iff_ne] at h74
    refine c_seq ?_
    refine c_region ?_
    refine o_L (y_assign rfl) rfl rfl ?_
    refine o_L (y_assign rfl) rfl rfl ?_
    refine o_L (y_assign rfl) rfl rfl ?_
    refine o_nil0 rfl ?_
    refine c_ret ?_
    refine fun aX wX heX hsX => ret3 Tryz.results136 heX rfl rfl rfl (s_take (s_take (s_take s_nil))) ?_
    first | (exfalso; omega) | (have e1 : ((⟨x, s, r⟩ : Conn).recv mx) = ((⟨x, s, r⟩ : Conn), [], [], 13) := (by unfold Conn.recv; (repeat' split) <;> first | rfl | (exfalso; omega) | (simp_all; done)); rw [e1]; exact .inl ⟨by dsimp only; omega, rfl, rfl, rfl⟩)
  · try simp only [decide_eq_true_eq, decide_eq_false_iff_not, Bool.not_eq_true', Bool.not_eq_false', Int.not_lt, Int.not_le, Decidable.not_not, beq_iff_eq, bne_iff_ne, ne_eq, beq_eq_false_iff_ne] at h74
    refine c_skip ?_
    refine c_seq ?_
    refine c_seq ?_
    refine c_region ?_
    refine o_T (y_move rfl) rfl ?_
    refine o_T (y_leq rfl rfl) rfl ?_
    refine o_nil1 17 rfl rfl ?_
    refine c_cond rfl (fun h77 => ?_) (fun h77 => ?_)
    · try simp only [decide_eq_true_eq, decide_eq_false_iff_not, Bool.not_eq_true', Bool.not_eq_false', Int.not_lt, Int.not_le, Decidable.not_not, beq_iff_eq, bne_iff_ne, ne_eq, beq_eq_false_iff_ne] at h77
      refine c_seq ?_
      refine c_region ?_
      refine o_L (y_assign rfl) rfl rfl ?_
      refine o_L (y_assign rfl) rfl rfl ?_
      refine o_L (y_assign rfl) rfl rfl ?_
      refine o_nil0 rfl ?_
      refine c_ret ?_
      refine fun aX wX heX hsX => ret3 Tryz.results136 heX rfl rfl rfl (s_take (s_take (s_take s_nil))) ?_
      first | (exfalso; omega) | (have e1 : ((⟨x, s, r⟩ : Conn).recv mx) = ((⟨x, s, r⟩ : Conn), [], [], 24) := (by unfold Conn.recv; (repeat' split) <;> first | rfl | (exfalso; omega) | (simp_all; done)); rw [e1]; exact .inl ⟨by dsimp only; omega, rfl, rfl, rfl⟩)
    · try simp only [decide_eq_true_eq, decide_eq_false_iff_not, Bool.not_eq_true', Bool.not_eq_false', Int.not_lt, Int.not_le, Decidable.not_not, beq_iff_eq, bne_iff_ne, ne_eq, beq_eq_false_iff_ne] at h77
      refine c_skip ?_
      refine c_seq ?_
      refine c_region ?_
      refine o_T (y_move rfl) rfl ?_
      refine o_T (y_nilck rfl) rfl ?_
      refine o_T (y_fa fl_167_1 rfl) rfl ?_
      refine o_ld one_104 rfl m0 Cn.g1 rfl ?_
      refine o_callrv en_112 rfl (t112 _ _ (by assumption)) (s_skip (s_skip (s_take s_nil))) rfl ?_
      refine o_L (y_assign rfl) rfl rfl ?_
      refine o_nil0 rfl ?_
      refine c_seq ?_
      refine c_seq ?_
      refine c_region ?_
      refine o_T (y_move rfl) rfl ?_
      refine o_T (y_eql rfl rfl) rfl ?_
      refine o_nil1 24 rfl rfl ?_
      refine c_cond rfl (fun h81 => ?_) (fun h81 => ?_)
      · try simp only [decide_eq_true_eq, decide_eq_false_iff_not, Bool.not_eq_true', Bool.not_eq_false', Int.not_lt, Int.not_le, Decidable.not_not, beq_iff_eq, bne_iff_ne, ne_eq, beq_eq_false_iff_ne] at h81
        refine c_seq ?_
        refine c_seq ?_
        refine c_region ?_
        refine o_T (y_move rfl) rfl ?_
        refine o_T (y_nilck rfl) rfl ?_
        refine o_T (y_fa fl_167_7 rfl) rfl ?_
        refine o_ld one_4 rfl m0 Cn.g7 rfl ?_
        refine o_nil1 28 rfl rfl ?_
        refine c_cond rfl (fun h82 => ?_) (fun h82 => ?_)
        · try simp only [decide_eq_true_eq, decide_eq_false_iff_not, Bool.not_eq_true', Bool.not_eq_false', Int.not_lt, Int.not_le, Decidable.not_not, beq_iff_eq, bne_iff_ne, ne_eq, beq_eq_false_iff_ne] at h82
          refine c_seq ?_
          refine c_region ?_
          refine o_L (y_assign rfl) rfl rfl ?_
          refine o_L (y_assign rfl) rfl rfl ?_
          refine o_L (y_assign rfl) rfl rfl ?_
          refine o_nil0 rfl ?_
          refine c_ret ?_
          refine fun aX wX heX hsX => ret3 Tryz.results136 heX rfl rfl rfl (s_take (s_take (s_take s_nil))) ?_
          first | (exfalso; omega) | (have e1 : ((⟨x, s, r⟩ : Conn).recv mx) = ((⟨x, s, r⟩ : Conn), [], [], 16) := (by unfold Conn.recv; (repeat' split) <;> first | rfl | (exfalso; omega) | (simp_all; done)); rw [e1]; exact .inl ⟨by dsimp only; omega, rfl, rfl, rfl⟩)
        · try simp only [decide_eq_true_eq, decide_eq_false_iff_not, Bool.not_eq_true', Bool.not_eq_false', Int.not_lt, Int.not_le, Decidable.not_not, beq_iff_eq, bne_iff_ne, ne_eq, beq_eq_false_iff_ne] at h82
          refine c_skip ?_
          refine c_seq ?_
          refine c_seq ?_
          refine c_region ?_
          refine o_T (y_move rfl) rfl ?_
          refine o_T (y_nilck rfl) rfl ?_
          refine o_T (y_fa fl_167_2 rfl) rfl ?_
          refine o_ld one_3 rfl m0 Cn.g2 rfl ?_
          refine o_T (y_eql rfl rfl) rfl ?_
          refine o_nil1 33 rfl rfl ?_
          refine c_cond rfl (fun h85 => ?_) (fun h85 => ?_)
          · try simp only [decide_eq_true_eq, decide_eq_false_iff_not, Bool.not_eq_true', Bool.not_eq_false', Int.not_lt, Int.not_le, Decidable.not_not, beq_iff_eq, bne_iff_ne, ne_eq, beq_eq_false_iff_ne] at h85
            refine c_seq ?_
            refine c_draw #[true, true, true, true, true, true, true] rfl (n := 7) rfl ?_
            refine d_T 0 rfl (by kernel_rfl) rfl (y_move rfl) rfl ?_
            refine d_T 1 rfl (by kernel_rfl) rfl (y_nilck rfl) rfl ?_
            refine d_T 2 rfl (by kernel_rfl) rfl (y_fa fl_167_3 rfl) rfl ?_
            refine d_ld 3 rfl (by kernel_rfl) one_70 rfl (fun x hx => hx) m0 Cn.g3 rfl ?_
            refine d_L 4 rfl (by kernel_rfl) rfl (y_assign rfl) rfl rfl ?_
            refine d_L 5 rfl (by kernel_rfl) rfl (y_assign rfl) rfl rfl ?_
            refine d_L 6 rfl (by kernel_rfl) rfl (y_assign rfl) rfl rfl ?_
            refine d_nil0 (by kernel_rfl) rfl ?_
            refine c_ret ?_
            refine fun aX wX heX hsX => ret3 Tryz.results136 heX rfl rfl rfl (s_take (s_take (s_take s_nil))) ?_
            first | (exfalso; omega) | (have e1 : ((⟨x, s, r⟩ : Conn).recv mx) = ((⟨x, s, r⟩ : Conn), [], [], x.why) := (by unfold Conn.recv; (repeat' split) <;> first | rfl | (exfalso; omega) | (simp_all; done)); rw [e1]; exact .inl ⟨by dsimp only; exact fun z => by simp_all, rfl, rfl, rfl⟩)
          · try simp only [decide_eq_true_eq, decide_eq_false_iff_not, Bool.not_eq_true', Bool.not_eq_false', Int.not_lt, Int.not_le, Decidable.not_not, beq_iff_eq, bne_iff_ne, ne_eq, beq_eq_false_iff_ne] at h85
            refine c_skip ?_
            refine c_seq ?_
            refine c_region ?_
            refine o_L (y_assign rfl) rfl rfl ?_
            refine o_L (y_assign rfl) rfl rfl ?_
            refine o_L (y_assign rfl) rfl rfl ?_
            refine o_nil0 rfl ?_
            refine c_ret ?_
            refine fun aX wX heX hsX => ret3 Tryz.results136 heX rfl rfl rfl (s_take (s_take (s_take s_nil))) ?_
            first | (exfalso; omega) | (have e1 : ((⟨x, s, r⟩ : Conn).recv mx) = ((⟨x, s, r⟩ : Conn), [], [], 14) := (by unfold Conn.recv; (repeat' split) <;> first | rfl | (exfalso; omega) | (simp_all; done)); rw [e1]; exact .inl ⟨by dsimp only; omega, rfl, rfl, rfl⟩)
      · try simp only [decide_eq_true_eq, decide_eq_false_iff_not, Bool.not_eq_true', Bool.not_eq_false', Int.not_lt, Int.not_le, Decidable.not_not, beq_iff_eq, bne_iff_ne, ne_eq, beq_eq_false_iff_ne] at h81
        refine c_skip ?_
        refine c_seq ?_
        refine c_region ?_
        refine o_T (y_move rfl) rfl ?_
        refine o_T (y_nilck rfl) rfl ?_
        refine o_T (y_fa fl_167_1 rfl) rfl ?_
        refine o_ld one_104 rfl m0 Cn.g1 rfl ?_
        refine o_T (y_move rfl) rfl ?_
        refine o_call en_183 rfl (t183 _ _ _ (by assumption)) (s_skip (s_skip (s_take s_nil))) rfl ?_
        rintro v S' ⟨b_1, rfl, rfl⟩
        refine o_L (y_assign rfl) rfl rfl ?_
        refine o_nil0 rfl ?_
        refine c_seq ?_
        refine c_region ?_
        refine o_lbs0 (R := segR) sz_185 rfl (fun v_1 gv_1 hl_1 => ?_)
        refine o_L (y_assign rfl) rfl rfl ?_
        refine o_nil0 rfl ?_
        refine c_seq ?_
        refine c_seq ?_
        have okQ := Rb.ok_read okR mx
        refine c_region ?_
        refine o_T (y_move rfl) rfl ?_
        refine o_T (y_eql rfl rfl) rfl ?_
        refine o_T (y_move rfl) rfl ?_
        refine o_split 47 rfl (fun h92 => ?_) (fun h92 => ?_)
        · try simp only [decide_eq_true_eq, decide_eq_false_iff_not, Bool.not_eq_true', Bool.not_eq_false', Int.not_lt, Int.not_le, Decidable.not_not, beq_iff_eq, bne_iff_ne, ne_eq, beq_eq_false_iff_ne] at h92
          refine o_take rfl rfl rfl ?_
          refine o_T (y_move rfl) rfl ?_
          refine o_take rfl rfl rfl ?_
          refine o_T (y_nilck rfl) rfl ?_
          refine o_take rfl rfl rfl ?_
          refine o_T (y_fa fl_167_2 rfl) rfl ?_
          refine o_take rfl rfl rfl ?_
          refine o_ld one_3 rfl (ms (ms (ms (ms m0)))) Cn.g2 rfl ?_
          refine o_take rfl rfl rfl ?_
          refine o_T (y_eql rfl rfl) rfl ?_
          refine o_T (y_pickT rfl rfl) rfl ?_
          refine o_nil1 53 rfl rfl ?_
          refine c_cond rfl (fun h92_1 => ?_) (fun h92_1 => ?_)
          · try simp only [decide_eq_true_eq, decide_eq_false_iff_not, Bool.not_eq_true', Bool.not_eq_false', Int.not_lt, Int.not_le, Decidable.not_not, beq_iff_eq, bne_iff_ne, ne_eq, beq_eq_false_iff_ne] at h92_1
            refine c_seq ?_
            refine c_region ?_
            refine o_T (y_move rfl) rfl ?_
            refine o_call en_184 rfl (t184 _ ps pr x _ _ ?_) (s_get (ks (ks (ks (ks k0)))) (s_get (ks (ks (ks (ks k0)))) (s_get (ks (ks (ks k0))) s_nil))) rfl ?_
            · exact (⟨ok0.x, by assumption, by assumption⟩)
            rintro v S' ⟨b_2, rfl, rfl⟩
            refine o_alloc ze_178 rfl rfl (fun b_3 => ?_)
            refine o_sta ag_178 rfl rfl rfl rfl r0 (setAll_full _ _ rfl) (of_ble rfl) ?_
            refine o_nil0 rfl ?_
            refine c_region ?_
            refine o_T (y_move rfl) rfl ?_
            refine o_ldw ag_178 rfl m0 rfl rfl ?_
            refine o_bs1 sz_185 rfl rfl rfl rfl rfl rfl (fun b_4 => ?_)
            refine o_lapp1 sz_185 rfl rfl rfl hl_1 rfl rfl segR.mk (s_get (ks (ks (ks (ks (ks (ks k0)))))) (s_get (ks (ks (ks (ks (ks (ks k0)))))) (s_get k0 (s_get (ks k0) s_nil)))) (by first | omega | (simp only [List.length_append, List.length_cons, List.length_nil]; omega) | (simp <;> omega)) (by first | omega | (simp only [List.length_append, List.length_cons, List.length_nil]; omega) | (simp <;> omega)) rfl (fun v_2 gv_2 hl_2 => ?_)
            refine o_L (y_assign rfl) rfl rfl ?_
            refine o_nil0 rfl ?_
            refine c_seq ?_
            refine c_region ?_
            refine o_T (y_move rfl) rfl ?_
            refine o_T (y_move rfl) rfl ?_
            refine o_L (y_assign rfl) rfl rfl ?_
            refine o_L (y_assign rfl) rfl rfl ?_
            refine o_L (y_assign rfl) rfl rfl ?_
            refine o_nil0 rfl ?_
            refine c_ret ?_
            refine fun aX wX heX hsX => ret3 Tryz.results136 heX rfl rfl rfl (s_get (ks (ks (ks (ks (ks (ks k0)))))) (s_get k0 (s_get k0 (s_get (ks k0) (s_get (ks k0) (s_get (ks k0) s_nil)))))) ?_
            first | (exfalso; omega) | (have e1 : ((⟨x, s, r⟩ : Conn).recv mx) = ((⟨x, s, r.read mx⟩ : Conn), r.first (r.readN mx), [(⟨x, s, r.read mx⟩ : Conn).ack], 0) := (by unfold Conn.recv; (repeat' split) <;> first | rfl | (exfalso; omega) | (exfalso; (try dsimp only at *); omega) | (simp_all; done)); rw [e1]; exact .inr ⟨rfl, _, _, _, _, rfl, hl_2, rfl, ⟨ok0.x, okS, Rb.ok_read okR mx⟩⟩)
          · try simp only [decide_eq_true_eq, decide_eq_false_iff_not, Bool.not_eq_true', Bool.not_eq_false', Int.not_lt, Int.not_le, Decidable.not_not, beq_iff_eq, bne_iff_ne, ne_eq, beq_eq_false_iff_ne] at h92_1
            refine c_skip ?_
            refine c_seq ?_
            refine c_region ?_
            refine o_T (y_move rfl) rfl ?_
            refine o_T (y_move rfl) rfl ?_
            refine o_L (y_assign rfl) rfl rfl ?_
            refine o_L (y_assign rfl) rfl rfl ?_
            refine o_L (y_assign rfl) rfl rfl ?_
            refine o_nil0 rfl ?_
            refine c_ret ?_
            refine fun aX wX heX hsX => ret3 Tryz.results136 heX rfl rfl rfl (s_get (ks (ks k0)) (s_get k0 (s_get k0 (s_get (ks k0) (s_get (ks k0) (s_get k0 s_nil)))))) ?_
            first | (exfalso; omega) | (have e1 : ((⟨x, s, r⟩ : Conn).recv mx) = ((⟨x, s, r.read mx⟩ : Conn), r.first (r.readN mx), [], 0) := (by unfold Conn.recv; (repeat' split) <;> first | rfl | (exfalso; omega) | (exfalso; (try dsimp only at *); omega) | (simp_all; done)); rw [e1]; exact .inr ⟨rfl, _, _, _, _, rfl, hl_1, rfl, ⟨ok0.x, okS, Rb.ok_read okR mx⟩⟩)
        · try simp only [decide_eq_true_eq, decide_eq_false_iff_not, Bool.not_eq_true', Bool.not_eq_false', Int.not_lt, Int.not_le, Decidable.not_not, beq_iff_eq, bne_iff_ne, ne_eq, beq_eq_false_iff_ne] at h92
          refine o_pass rfl rfl rfl rfl rfl ?_
          refine o_pass rfl rfl rfl rfl rfl ?_
          refine o_pass rfl rfl rfl rfl rfl ?_
          refine o_pass rfl rfl rfl rfl rfl ?_
          refine o_pass rfl rfl rfl rfl rfl ?_
          refine o_T (y_pickF rfl rfl) rfl ?_
          refine o_nil1 53 rfl rfl ?_
          refine c_condF rfl ?_
          refine c_skip ?_
          refine c_seq ?_
          refine c_region ?_
          refine o_T (y_move rfl) rfl ?_
          refine o_T (y_move rfl) rfl ?_
          refine o_L (y_assign rfl) rfl rfl ?_
          refine o_L (y_assign rfl) rfl rfl ?_
          refine o_L (y_assign rfl) rfl rfl ?_
          refine o_nil0 rfl ?_
          refine c_ret ?_
          refine fun aX wX heX hsX => ret3 Tryz.results136 heX rfl rfl rfl (s_get (ks (ks k0)) (s_get k0 (s_get k0 (s_get (ks k0) (s_get (ks k0) (s_get k0 s_nil)))))) ?_
          first | (exfalso; omega) | (have e1 : ((⟨x, s, r⟩ : Conn).recv mx) = ((⟨x, s, r.read mx⟩ : Conn), r.first (r.readN mx), [], 0) := (by unfold Conn.recv; (repeat' split) <;> first | rfl | (exfalso; omega) | (exfalso; (try dsimp only at *); omega) | (simp_all; done)); rw [e1]; exact .inr ⟨rfl, _, _, _, _, rfl, hl_1, rfl, ⟨ok0.x, okS, Rb.ok_read okR mx⟩⟩)
theorem u136 (b ps pr : Nat) (k : Cn) (hk1 : k.sb = ptr ps) (hk2 : k.rb = ptr pr) (s : Sb) (r : Rb) (mx : Int) (ok : Conn.Ok ⟨(Cn.cs k), s, r⟩) (hq : (Cn.cs k).st = 4 → (Cn.cs k).why = 0 → (Cn.cs k).peerFin = true) : Trip Tryz.prog 136 #[.pointer (some ⟨b, 0, none⟩), .int .i64 mx] [[(b, .cells k.enc 167 (0, 0))], [(ps, .cells s.enc 162 (0, 0))], [(pr, .cells r.enc 165 (0, 0))]] (fun u S' => (((⟨(Cn.cs k), s, r⟩ : Conn).recv mx).2.2.2 ≠ 0 ∧ u = .tuple #[.slice none 0 0, .slice none 0 0, .int .i64 ((⟨(Cn.cs k), s, r⟩ : Conn).recv mx).2.2.2] ∧ S' = [[(b, .cells k.enc 167 (0, 0))], [(ps, .cells s.enc 162 (0, 0))], [(pr, .cells r.enc 165 (0, 0))]] ∧ ((⟨(Cn.cs k), s, r⟩ : Conn).recv mx).1 = (⟨(Cn.cs k), s, r⟩ : Conn)) ∨ (((⟨(Cn.cs k), s, r⟩ : Conn).recv mx).2.2.2 = 0 ∧ ∃ v gv gd b2, u = .tuple #[byV b2 ((⟨(Cn.cs k), s, r⟩ : Conn).recv mx).2.1, v, .int .i64 0] ∧ Segs v ((⟨(Cn.cs k), s, r⟩ : Conn).recv mx).2.2.1 gv gd ∧ S' = [byG b2 ((⟨(Cn.cs k), s, r⟩ : Conn).recv mx).2.1 5, gv, gd, [(b, .cells ((((⟨(Cn.cs k), s, r⟩ : Conn).recv mx).1).x.cn ps pr).enc 167 (0, 0))], [(ps, .cells (((⟨(Cn.cs k), s, r⟩ : Conn).recv mx).1).s.enc 162 (0, 0))], [(pr, .cells (((⟨(Cn.cs k), s, r⟩ : Conn).recv mx).1).r.enc 165 (0, 0))]] ∧ (((⟨(Cn.cs k), s, r⟩ : Conn).recv mx).1).Ok)) := by
  obtain ⟨a1, a2, a3, a4, a5, a6, a7, a8, a9, a10, a11, a12, a13, a14⟩ := k
  dsimp only at hk1 hk2
  subst hk1 hk2
  exact t136 b ps pr (Cs.mk a3 a4 a5 a6 a7 a8 a9 a10 a11 a12 a13 a14) s r mx ok hq

end Go.Proofs.Qxb6500351aGreat
