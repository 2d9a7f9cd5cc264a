/- MADE BY PROGRAM (tools/gen.py over tools/specs351.py): walks. -/
import Derived.Test.Qxb6500351aGreatFacts
import Derived.Test.Qxb6500351aGreatMd5
import Derived.Test.Qxb6500351aGreatW6
set_option linter.unusedVariables false
set_option linter.unusedSimpArgs false
namespace Go.Proofs.Qxb6500351aGreat
open Go.Eng
set_option maxRecDepth 20000
set_option maxHeartbeats 4000000
/-- (*e2e/conn.Conn).begin -/
theorem t178 (b ps pr : Nat) (x : Cs) (s : Sb) (r : Rb) (st iss : Int) (ok : Conn.Ok ⟨x, s, r⟩) (hst : 0 ≤ st ∧ st ≤ 4) : Trip Tryz.prog 178 #[.pointer (some ⟨b, 0, none⟩), .int .i64 st, .int .i64 iss] [[(b, .cells (x.cn ps pr).enc 167 (0, 0))], [(ps, .cells s.enc 162 (0, 0))], [(pr, .cells r.enc 165 (0, 0))]] (fun u S' => u = .tuple #[] ∧ S' = [[(b, .cells ((Conn.begin ⟨x, s, r⟩ st iss).x.cn ps pr).enc 167 (0, 0))], [(ps, .cells (Conn.begin ⟨x, s, r⟩ st iss).s.enc 162 (0, 0))], [(pr, .cells (Conn.begin ⟨x, s, r⟩ st iss).r.enc 165 (0, 0))]] ∧ (Conn.begin ⟨x, s, r⟩ st iss).Ok) := by
  have ok0 := ok
  have okS : s.Ok := ok.s
  have okR : r.Ok := ok.r
  obtain ⟨x1, x2, x3, x4, x5, x6, x7⟩ := ok.x
  obtain ⟨k1, k2, k3, k4, k5, k6, k7, k8⟩ := ok.s
  obtain ⟨j1, j2, j3, j4, j5, j6, j7, j8⟩ := ok.r
  dsimp only at x1 x2 x3 x4 x5 x6 x7 k1 k2 k3 k4 k5 k6 k7 k8 j1 j2 j3 j4 j5 j6 j7 j8
  refine fn_entry (args := [.pointer (some ⟨b, 0, none⟩), .int .i64 st, .int .i64 iss]) Tryz.func178 rfl Tryz.ntmps178 rfl (fun w0 => ?_)
  refine c_seq ?_
  refine c_region ?_
  refine o_T (y_move rfl) rfl ?_
  refine o_call en_165 rfl (t165 _ ps pr x _ _ ok0) (s_take (s_take (s_take s_nil))) rfl ?_
  rintro v S' ⟨rfl, rfl, hk_1⟩
  have hk_1_s := hk_1.s
  have hk_1_r := hk_1.r
  obtain ⟨hk_1_x1, hk_1_x2, hk_1_x3, hk_1_x4, hk_1_x5, hk_1_x6, hk_1_x7⟩ := hk_1.x
  try dsimp only at hk_1_s hk_1_r
  refine o_nil0 rfl ?_
  refine c_seq ?_
  refine c_region ?_
  refine o_T (y_move rfl) rfl ?_
  refine o_T (y_move rfl) rfl ?_
  refine o_T (y_nilck rfl) rfl ?_
  refine o_T (y_fa fl_167_2 rfl) rfl ?_
  refine o_st one_3 rfl rfl rfl r0 Cn.s2 (of_blt rfl) ?_
  refine o_nil0 rfl ?_
  refine c_seq ?_
  refine c_region ?_
  refine o_T (y_move rfl) rfl ?_
  refine o_T (y_move rfl) rfl ?_
  refine o_callv en_143 rfl (t143 _ _) rfl ?_
  refine o_T (y_nilck rfl) rfl ?_
  refine o_T (y_fa fl_167_8 rfl) rfl ?_
  refine o_st one_3 rfl rfl rfl r0 Cn.s8 (of_blt rfl) ?_
  refine o_nil0 rfl ?_
  refine c_seq ?_
  refine c_draw #[true, true, true, true, true, true, true, true, false] rfl (n := 9) rfl ?_
  refine d_T 0 rfl (by kernel_rfl) rfl (y_move rfl) rfl ?_
  refine d_T 1 rfl (by kernel_rfl) rfl (y_nilck rfl) rfl ?_
  refine d_T 2 rfl (by kernel_rfl) rfl (y_fa fl_167_0 rfl) rfl ?_
  refine d_ld 3 rfl (by kernel_rfl) one_102 rfl (fun x hx => hx) m0 Cn.g0 rfl ?_
  refine d_T 4 rfl (by kernel_rfl) rfl (y_move rfl) rfl ?_
  refine d_T 5 rfl (by kernel_rfl) rfl (y_nilck rfl) rfl ?_
  refine d_T 6 rfl (by kernel_rfl) rfl (y_fa fl_167_8 rfl) rfl ?_
  refine d_ld 7 rfl (by kernel_rfl) one_3 rfl (fun x hx => hx) m0 Cn.g8 rfl ?_
  refine d_hard 8 rfl (by kernel_rfl) ?_
  refine o_call en_201 rfl (t201 _ _ _ (by assumption)) (s_skip (s_take s_nil)) rfl ?_
  rintro v S' ⟨rfl, rfl, hk_2⟩
  refine o_stop (fun h => nomatch h) ?_
  refine d_nil0 (by kernel_rfl) rfl ?_
  refine c_seq ?_
  refine c_region ?_
  refine o_T (y_move rfl) rfl ?_
  refine o_T (y_nilck rfl) rfl ?_
  refine o_T (y_fa fl_167_12 rfl) rfl ?_
  refine o_st one_3 rfl rfl rfl (rs r0) Cn.s12 (of_blt rfl) ?_
  refine o_nil0 rfl ?_
  refine c_region ?_
  refine o_T (y_move rfl) rfl ?_
  refine o_T (y_nilck rfl) rfl ?_
  refine o_T (y_fa fl_167_10 rfl) rfl ?_
  refine o_st one_3 rfl rfl rfl (rs r0) Cn.s10 (of_blt rfl) ?_
  refine o_nil0 rfl ?_
  refine fun aX wX heX hsX => ret0 Tryz.results178 (s_get (ks k0) (s_get k0 (s_get k0 s_nil))) ?_
  exact ⟨rfl, rfl, Conn.ok_begin ok0 hst⟩
theorem u178 (b ps pr : Nat) (k : Cn) (hk1 : k.sb = ptr ps) (hk2 : k.rb = ptr pr) (s : Sb) (r : Rb) (st iss : Int) (ok : Conn.Ok ⟨(Cn.cs k), s, r⟩) (hst : 0 ≤ st ∧ st ≤ 4) : Trip Tryz.prog 178 #[.pointer (some ⟨b, 0, none⟩), .int .i64 st, .int .i64 iss] [[(b, .cells k.enc 167 (0, 0))], [(ps, .cells s.enc 162 (0, 0))], [(pr, .cells r.enc 165 (0, 0))]] (fun u S' => u = .tuple #[] ∧ S' = [[(b, .cells ((Conn.begin ⟨(Cn.cs k), s, r⟩ st iss).x.cn ps pr).enc 167 (0, 0))], [(ps, .cells (Conn.begin ⟨(Cn.cs k), s, r⟩ st iss).s.enc 162 (0, 0))], [(pr, .cells (Conn.begin ⟨(Cn.cs k), s, r⟩ st iss).r.enc 165 (0, 0))]] ∧ (Conn.begin ⟨(Cn.cs k), s, r⟩ st iss).Ok) := by
  obtain ⟨a1, a2, a3, a4, a5, a6, a7, a8, a9, a10, a11, a12, a13, a14⟩ := k
  dsimp only at hk1 hk2
  subst hk1 hk2
  exact t178 b ps pr (Cs.mk a3 a4 a5 a6 a7 a8 a9 a10 a11 a12 a13 a14) s r st iss ok hst

/-- (*e2e/conn.Conn).ended -/
theorem t181 (b ps pr : Nat) (x : Cs) (s : Sb) (r : Rb)  (ok : Conn.Ok ⟨x, s, r⟩) : Trip Tryz.prog 181 #[.pointer (some ⟨b, 0, none⟩)] [[(b, .cells (x.cn ps pr).enc 167 (0, 0))], [(ps, .cells s.enc 162 (0, 0))], [(pr, .cells r.enc 165 (0, 0))]] (fun u S' => u = .int .i64 x.ended ∧ S' = [[(b, .cells (x.cn ps pr).enc 167 (0, 0))], [(ps, .cells s.enc 162 (0, 0))], [(pr, .cells r.enc 165 (0, 0))]]) := by
  have ok0 := ok
  have okS : s.Ok := ok.s
  have okR : r.Ok := ok.r
  obtain ⟨x1, x2, x3, x4, x5, x6, x7⟩ := ok.x
  obtain ⟨k1, k2, k3, k4, k5, k6, k7, k8⟩ := ok.s
  obtain ⟨j1, j2, j3, j4, j5, j6, j7, j8⟩ := ok.r
  dsimp only at x1 x2 x3 x4 x5 x6 x7 k1 k2 k3 k4 k5 k6 k7 k8 j1 j2 j3 j4 j5 j6 j7 j8
  refine fn_entry (args := [.pointer (some ⟨b, 0, none⟩)]) Tryz.func181 rfl Tryz.ntmps181 rfl (fun w0 => ?_)
  refine c_seq ?_
  refine c_region ?_
  refine o_L (y_assign rfl) rfl rfl ?_
  refine o_nil0 rfl ?_
  refine c_seq ?_
  refine c_seq ?_
  refine c_region ?_
  refine o_T (y_move rfl) rfl ?_
  refine o_T (y_nilck rfl) rfl ?_
  refine o_T (y_fa fl_167_3 rfl) rfl ?_
  refine o_ld one_70 rfl m0 Cn.g3 rfl ?_
  refine o_T (y_neq rfl rfl) rfl ?_
  refine o_nil1 7 rfl rfl ?_
  refine c_cond rfl (fun h42 => ?_) (fun h42 => ?_)
  · try simp only [decide_eq_true_eq, decide_eq_false_iff_not, Bool.not_eq_true', Bool.not_eq_false', Int.not_lt, Int.not_le, Decidable.not_not, beq_iff_eq, bne_iff_ne, ne_eq, beq_eq_false_iff_ne] at h42
    refine c_seq ?_
    refine c_region ?_
    refine o_T (y_move rfl) rfl ?_
    refine o_T (y_nilck rfl) rfl ?_
    refine o_T (y_fa fl_167_3 rfl) rfl ?_
    refine o_ld one_70 rfl m0 Cn.g3 rfl ?_
    refine o_L (y_assign rfl) rfl rfl ?_
    refine o_nil0 rfl ?_
    refine c_ret ?_
    refine fun aX wX heX hsX => ret1 Tryz.results181 heX rfl (s_take (s_take (s_take s_nil))) ?_
    exact ⟨congrArg (Value.int .i64) (by unfold Cs.ended; rw [if_neg h42]), rfl⟩
  · try simp only [decide_eq_true_eq, decide_eq_false_iff_not, Bool.not_eq_true', Bool.not_eq_false', Int.not_lt, Int.not_le, Decidable.not_not, beq_iff_eq, bne_iff_ne, ne_eq, beq_eq_false_iff_ne] at h42
    refine c_skip ?_
    refine c_seq ?_
    refine c_region ?_
    refine o_L (y_assign rfl) rfl rfl ?_
    refine o_nil0 rfl ?_
    refine c_ret ?_
    refine fun aX wX heX hsX => ret1 Tryz.results181 heX rfl (s_take (s_take (s_take s_nil))) ?_
    exact ⟨congrArg (Value.int .i64) (by unfold Cs.ended; rw [if_pos h42]), rfl⟩
theorem u181 (b ps pr : Nat) (k : Cn) (hk1 : k.sb = ptr ps) (hk2 : k.rb = ptr pr) (s : Sb) (r : Rb)  (ok : Conn.Ok ⟨(Cn.cs k), s, r⟩) : Trip Tryz.prog 181 #[.pointer (some ⟨b, 0, none⟩)] [[(b, .cells k.enc 167 (0, 0))], [(ps, .cells s.enc 162 (0, 0))], [(pr, .cells r.enc 165 (0, 0))]] (fun u S' => u = .int .i64 (Cn.cs k).ended ∧ S' = [[(b, .cells k.enc 167 (0, 0))], [(ps, .cells s.enc 162 (0, 0))], [(pr, .cells r.enc 165 (0, 0))]]) := by
  obtain ⟨a1, a2, a3, a4, a5, a6, a7, a8, a9, a10, a11, a12, a13, a14⟩ := k
  dsimp only at hk1 hk2
  subst hk1 hk2
  exact t181 b ps pr (Cs.mk a3 a4 a5 a6 a7 a8 a9 a10 a11 a12 a13 a14) s r ok

/-- (*e2e/conn.Conn).opened -/
theorem t211 (b ps pr : Nat) (x : Cs) (s : Sb) (r : Rb)  (ok : Conn.Ok ⟨x, s, r⟩) : Trip Tryz.prog 211 #[.pointer (some ⟨b, 0, none⟩)] [[(b, .cells (x.cn ps pr).enc 167 (0, 0))], [(ps, .cells s.enc 162 (0, 0))], [(pr, .cells r.enc 165 (0, 0))]] (fun u S' => u = .tuple #[] ∧ S' = [[(b, .cells ((Conn.opened ⟨x, s, r⟩).x.cn ps pr).enc 167 (0, 0))], [(ps, .cells (Conn.opened ⟨x, s, r⟩).s.enc 162 (0, 0))], [(pr, .cells (Conn.opened ⟨x, s, r⟩).r.enc 165 (0, 0))]] ∧ (Conn.opened ⟨x, s, r⟩).Ok) := by
  have ok0 := ok
  have okS : s.Ok := ok.s
  have okR : r.Ok := ok.r
  obtain ⟨x1, x2, x3, x4, x5, x6, x7⟩ := ok.x
  obtain ⟨k1, k2, k3, k4, k5, k6, k7, k8⟩ := ok.s
  obtain ⟨j1, j2, j3, j4, j5, j6, j7, j8⟩ := ok.r
  dsimp only at x1 x2 x3 x4 x5 x6 x7 k1 k2 k3 k4 k5 k6 k7 k8 j1 j2 j3 j4 j5 j6 j7 j8
  refine fn_entry (args := [.pointer (some ⟨b, 0, none⟩)]) Tryz.func211 rfl Tryz.ntmps211 rfl (fun w0 => ?_)
  refine c_seq ?_
  refine c_region ?_
  refine o_T (y_move rfl) rfl ?_
  refine o_T (y_nilck rfl) rfl ?_
  refine o_T (y_fa fl_167_8 rfl) rfl ?_
  refine o_ld one_3 rfl m0 Cn.g8 rfl ?_
  refine o_callv en_143 rfl (t143 _ _) rfl ?_
  refine o_L (y_assign rfl) rfl rfl ?_
  refine o_nil0 rfl ?_
  refine c_seq ?_
  refine c_region ?_
  refine o_T (y_move rfl) rfl ?_
  refine o_T (y_nilck rfl) rfl ?_
  refine o_T (y_fa fl_167_0 rfl) rfl ?_
  refine o_ld one_102 rfl m0 Cn.g0 rfl ?_
  refine o_T (y_move rfl) rfl ?_
  refine o_call en_201 rfl (t201 _ _ _ (by assumption)) (s_skip (s_take s_nil)) rfl ?_
  rintro v S' ⟨rfl, rfl, hk_1⟩
  refine o_nil0 rfl ?_
  refine c_seq ?_
  refine c_region ?_
  refine o_T (y_move rfl) rfl ?_
  refine o_T (y_nilck rfl) rfl ?_
  refine o_T (y_fa fl_167_2 rfl) rfl ?_
  refine o_st one_3 rfl rfl rfl (rs r0) Cn.s2 (of_blt rfl) ?_
  refine o_nil0 rfl ?_
  refine c_seq ?_
  refine c_region ?_
  refine o_T (y_move rfl) rfl ?_
  refine o_T (y_nilck rfl) rfl ?_
  refine o_T (y_fa fl_167_10 rfl) rfl ?_
  refine o_st one_3 rfl rfl rfl (rs r0) Cn.s10 (of_blt rfl) ?_
  refine o_nil0 rfl ?_
  refine c_region ?_
  refine o_T (y_move rfl) rfl ?_
  refine o_T (y_nilck rfl) rfl ?_
  refine o_T (y_fa fl_167_11 rfl) rfl ?_
  refine o_st one_3 rfl rfl rfl (rs r0) Cn.s11 (of_blt rfl) ?_
  refine o_nil0 rfl ?_
  refine fun aX wX heX hsX => ret0 Tryz.results211 (s_get (ks k0) (s_get k0 (s_get k0 s_nil))) ?_
  exact ⟨rfl, rfl, Conn.ok_opened ok0⟩
theorem u211 (b ps pr : Nat) (k : Cn) (hk1 : k.sb = ptr ps) (hk2 : k.rb = ptr pr) (s : Sb) (r : Rb)  (ok : Conn.Ok ⟨(Cn.cs k), s, r⟩) : Trip Tryz.prog 211 #[.pointer (some ⟨b, 0, none⟩)] [[(b, .cells k.enc 167 (0, 0))], [(ps, .cells s.enc 162 (0, 0))], [(pr, .cells r.enc 165 (0, 0))]] (fun u S' => u = .tuple #[] ∧ S' = [[(b, .cells ((Conn.opened ⟨(Cn.cs k), s, r⟩).x.cn ps pr).enc 167 (0, 0))], [(ps, .cells (Conn.opened ⟨(Cn.cs k), s, r⟩).s.enc 162 (0, 0))], [(pr, .cells (Conn.opened ⟨(Cn.cs k), s, r⟩).r.enc 165 (0, 0))]] ∧ (Conn.opened ⟨(Cn.cs k), s, r⟩).Ok) := by
  obtain ⟨a1, a2, a3, a4, a5, a6, a7, a8, a9, a10, a11, a12, a13, a14⟩ := k
  dsimp only at hk1 hk2
  subst hk1 hk2
  exact t211 b ps pr (Cs.mk a3 a4 a5 a6 a7 a8 a9 a10 a11 a12 a13 a14) s r ok

/-- (*e2e/conn.Conn).pump -/
theorem t169 (b ps pr : Nat) (x : Cs) (s : Sb) (r : Rb)  (ok : Conn.Ok ⟨x, s, r⟩) : Trip Tryz.prog 169 #[.pointer (some ⟨b, 0, none⟩)] [[(b, .cells (x.cn ps pr).enc 167 (0, 0))], [(ps, .cells s.enc 162 (0, 0))], [(pr, .cells r.enc 165 (0, 0))]] (fun u S' => ∃ gv gd, Segs u ((⟨x, s, r⟩ : Conn).pump.2) gv gd ∧ S' = [gv, gd, [(b, .cells (((⟨x, s, r⟩ : Conn).pump.1).x.cn ps pr).enc 167 (0, 0))], [(ps, .cells ((⟨x, s, r⟩ : Conn).pump.1).s.enc 162 (0, 0))], [(pr, .cells ((⟨x, s, r⟩ : Conn).pump.1).r.enc 165 (0, 0))]] ∧ ((⟨x, s, r⟩ : Conn).pump.1).Ok ∧ (⟨x, s, r⟩ : Conn).pump.2.length ≤ 13) := by
  have ok0 := ok
  have okS : s.Ok := ok.s
  have okR : r.Ok := ok.r
  obtain ⟨x1, x2, x3, x4, x5, x6, x7⟩ := ok.x
  obtain ⟨k1, k2, k3, k4, k5, k6, k7, k8⟩ := ok.s
  obtain ⟨j1, j2, j3, j4, j5, j6, j7, j8⟩ := ok.r
  dsimp only at x1 x2 x3 x4 x5 x6 x7 k1 k2 k3 k4 k5 k6 k7 k8 j1 j2 j3 j4 j5 j6 j7 j8
  refine fn_entry (args := [.pointer (some ⟨b, 0, none⟩)]) Tryz.func169 rfl Tryz.ntmps169 rfl (fun w0 => ?_)
  refine c_seq ?_
  refine c_region ?_
  refine o_L (y_assign rfl) rfl rfl ?_
  refine o_nil0 rfl ?_
  refine c_seq ?_
  refine c_region ?_
  refine o_lbs0 (R := segR) sz_185 rfl (fun v_1 gv_1 hl_1 => ?_)
  refine o_L (y_assign rfl) rfl rfl ?_
  refine o_nil0 rfl ?_
  refine c_seq ?_
  refine c_seq ?_
  refine c_region ?_
  refine o_T (y_move rfl) rfl ?_
  refine o_T (y_nilck rfl) rfl ?_
  refine o_T (y_fa fl_167_2 rfl) rfl ?_
  refine o_ld one_3 rfl (ms (ms m0)) Cn.g2 rfl ?_
  refine o_T (y_neq rfl rfl) rfl ?_
  refine o_nil1 16 rfl rfl ?_
  refine c_cond rfl (fun h69 => ?_) (fun h69 => ?_)
  · try simp only [decide_eq_true_eq, decide_eq_false_iff_not, Bool.not_eq_true', Bool.not_eq_false', Int.not_lt, Int.not_le, Decidable.not_not, beq_iff_eq, bne_iff_ne, ne_eq, beq_eq_false_iff_ne] at h69
    refine c_seq ?_
    refine c_region ?_
    refine o_T (y_move rfl) rfl ?_
    refine o_L (y_assign rfl) rfl rfl ?_
    refine o_nil0 rfl ?_
    refine c_ret ?_
    refine fun aX wX heX hsX => ret1 Tryz.results169 heX rfl (s_take (s_take (s_take (s_take (s_take s_nil))))) ?_
    have e1 := Conn.pump_no (c := (⟨x, s, r⟩ : Conn)) h69
    have ok9 := ok0
    rw [e1]
    exact ⟨_, _, hl_1, rfl, ok9, by simp⟩
  · try simp only [decide_eq_true_eq, decide_eq_false_iff_not, Bool.not_eq_true', Bool.not_eq_false', Int.not_lt, Int.not_le, Decidable.not_not, beq_iff_eq, bne_iff_ne, ne_eq, beq_eq_false_iff_ne] at h69
    refine c_skip ?_
    refine c_seq ?_
    refine c_block ?_
    refine c_loopG (ι := Conn × List Seg × Value × List Chunk × List Chunk) (fun i => [(3, i.2.2.1)]) (fun i => [i.2.2.2.1, i.2.2.2.2, [(b, .cells (i.1.x.cn ps pr).enc 167 (0, 0))], [(ps, .cells i.1.s.enc 162 (0, 0))], [(pr, .cells i.1.r.enc 165 (0, 0))]]) (fun i => i.1.Ok ∧ i.1.x.st = 3 ∧ Segs i.2.2.1 i.2.1 i.2.2.2.1 i.2.2.2.2 ∧ (⟨x, s, r⟩ : Conn).pumpL.1 = i.1.pumpL.1 ∧ (⟨x, s, r⟩ : Conn).pumpL.2 = i.2.1 ++ i.1.pumpL.2 ∧ i.2.1.length + i.1.x.credit ≤ 12) (fun i => i.1.x.credit.toNat) ((⟨x, s, r⟩ : Conn), [], v_1, gv_1, []) (by exact ⟨ok0, by dsimp only; omega, hl_1, rfl, by simp, by dsimp only; simp; omega⟩) ⟨by first | rfl | exact gteI rfl (by omega), trivial⟩ (s_take (s_take (s_take (s_take (s_take s_nil))))) ?_
    rintro ⟨⟨y, t, u⟩, l, v, gv, gd⟩ ⟨g1, g2, g3, g4, g5, g6⟩
    try dsimp only [List.cons_append, List.nil_append] at *
    have okS2 : t.Ok := g1.s
    have okR2 : u.Ok := g1.r
    obtain ⟨y1, y2, y3, y4, y5, y6, y7⟩ := g1.x
    obtain ⟨t1, t2, t3, t4, t5, t6, t7, t8⟩ := g1.s
    dsimp only at y1 y2 y3 y4 y5 y6 y7 t1 t2 t3 t4 t5 t6 t7 t8
    have pb := Conn.pumpN_b g1
    have pc := Conn.pumpC_credit (⟨y, t, u⟩ : Conn)
    dsimp only at pb pc
    have hu : t.unsent = t.count - t.sent := rfl
    refine c_block ?_
    refine c_seq ?_
    refine c_region ?_
    refine o_T (y_move rfl) rfl ?_
    refine o_T (y_nilck rfl) rfl ?_
    refine o_T (y_fa fl_167_9 rfl) rfl ?_
    refine o_ld one_3 rfl (ms (ms m0)) Cn.g9 rfl ?_
    refine o_L (y_assign rfl) rfl rfl ?_
    refine o_nil0 rfl ?_
    refine c_seq ?_
    refine c_seq ?_
    refine c_region ?_
    refine o_T (y_move rfl) rfl ?_
    refine o_T (y_eql rfl rfl) rfl ?_
    refine o_nil1 23 rfl rfl ?_
    refine c_joinE (ι := Int) (fun i => [(4, .int .i64 i)]) (fun i => i = (if y.peerWnd = 0 then 1 else y.peerWnd)) (fun _ _ h => h) ?_ ?_
    · skip
      refine c_cond rfl (fun h74 => ?_) (fun h74 => ?_)
      · try simp only [decide_eq_true_eq, decide_eq_false_iff_not, Bool.not_eq_true', Bool.not_eq_false', Int.not_lt, Int.not_le, Decidable.not_not, beq_iff_eq, bne_iff_ne, ne_eq, beq_eq_false_iff_ne] at h74
        refine c_region ?_
        refine o_L (y_assign rfl) rfl rfl ?_
        refine o_nil0 rfl ?_
        refine ⟨_, by first | exact (if_pos h74).symm | exact (if_neg h74).symm, ⟨rfl, trivial⟩, ⟨rfl, rfl⟩, _, ((s_take (s_take (s_take (s_take (s_take s_nil))))))⟩
      · try simp only [decide_eq_true_eq, decide_eq_false_iff_not, Bool.not_eq_true', Bool.not_eq_false', Int.not_lt, Int.not_le, Decidable.not_not, beq_iff_eq, bne_iff_ne, ne_eq, beq_eq_false_iff_ne] at h74
        refine c_skip ?_
        refine ⟨_, by first | exact (if_pos h74).symm | exact (if_neg h74).symm, ⟨rfl, trivial⟩, ⟨rfl, rfl⟩, _, ((s_take (s_take (s_take (s_take (s_take s_nil))))))⟩
    · rintro rm hrm
      try dsimp only at hrm
      refine c_seq ?_
      refine c_region ?_
      refine o_T (y_move rfl) rfl ?_
      refine o_T (y_move rfl) rfl ?_
      refine o_callrv en_186 rfl (t186 _ ps pr y _ _ g1) (s_skip (s_skip (s_take (s_take (s_take s_nil))))) rfl ?_
      refine o_T (y_sub rfl rfl (w64 (by split at hrm <;> omega))) rfl ?_
      refine o_L (y_assign rfl) rfl rfl ?_
      refine o_nil0 rfl ?_
      refine c_seq ?_
      refine c_region ?_
      refine o_T (y_move rfl) rfl ?_
      refine o_T (y_nilck rfl) rfl ?_
      refine o_T (y_fa fl_167_0 rfl) rfl ?_
      refine o_ld one_102 rfl (ms (ms m0)) Cn.g0 rfl ?_
      refine o_callrv en_111 rfl (t111 _ _ (by assumption)) (s_skip (s_skip (s_skip (s_take s_nil)))) rfl ?_
      refine o_L (y_assign rfl) rfl rfl ?_
      refine o_nil0 rfl ?_
      refine c_seq ?_
      refine c_seq ?_
      refine c_region ?_
      refine o_T (y_move rfl) rfl ?_
      refine o_T (y_move rfl) rfl ?_
      refine o_T (y_gtr rfl rfl) rfl ?_
      refine o_nil1 35 rfl rfl ?_
      refine c_joinE (ι := Int) (fun i => [(5, .int .i64 i)]) (fun i => i = min (t.count - t.sent) (rm - t.sent)) (fun _ _ h => h) ?_ ?_
      · skip
        refine c_cond rfl (fun h79 => ?_) (fun h79 => ?_)
        · try simp only [decide_eq_true_eq, decide_eq_false_iff_not, Bool.not_eq_true', Bool.not_eq_false', Int.not_lt, Int.not_le, Decidable.not_not, beq_iff_eq, bne_iff_ne, ne_eq, beq_eq_false_iff_ne] at h79
          refine c_region ?_
          refine o_T (y_move rfl) rfl ?_
          refine o_L (y_assign rfl) rfl rfl ?_
          refine o_nil0 rfl ?_
          refine ⟨_, by omega, ⟨rfl, trivial⟩, ⟨rfl, rfl⟩, _, ((s_take (s_take (s_take (s_take (s_take s_nil))))))⟩
        · try simp only [decide_eq_true_eq, decide_eq_false_iff_not, Bool.not_eq_true', Bool.not_eq_false', Int.not_lt, Int.not_le, Decidable.not_not, beq_iff_eq, bne_iff_ne, ne_eq, beq_eq_false_iff_ne] at h79
          refine c_skip ?_
          refine ⟨_, by omega, ⟨rfl, trivial⟩, ⟨rfl, rfl⟩, _, ((s_take (s_take (s_take (s_take (s_take s_nil))))))⟩
      · rintro n1 hn1
        try dsimp only at hn1
        refine c_seq ?_
        refine c_seq ?_
        refine c_region ?_
        refine o_T (y_move rfl) rfl ?_
        refine o_T (y_gtr rfl rfl) rfl ?_
        refine o_nil1 38 rfl rfl ?_
        refine c_joinE (ι := Int) (fun i => [(5, .int .i64 i)]) (fun i => i = min n1 12) (fun _ _ h => h) ?_ ?_
        · skip
          refine c_cond rfl (fun h82 => ?_) (fun h82 => ?_)
          · try simp only [decide_eq_true_eq, decide_eq_false_iff_not, Bool.not_eq_true', Bool.not_eq_false', Int.not_lt, Int.not_le, Decidable.not_not, beq_iff_eq, bne_iff_ne, ne_eq, beq_eq_false_iff_ne] at h82
            refine c_region ?_
            refine o_L (y_assign rfl) rfl rfl ?_
            refine o_nil0 rfl ?_
            refine ⟨_, by omega, ⟨rfl, trivial⟩, ⟨rfl, rfl⟩, _, ((s_take (s_take (s_take (s_take (s_take s_nil))))))⟩
          · try simp only [decide_eq_true_eq, decide_eq_false_iff_not, Bool.not_eq_true', Bool.not_eq_false', Int.not_lt, Int.not_le, Decidable.not_not, beq_iff_eq, bne_iff_ne, ne_eq, beq_eq_false_iff_ne] at h82
            refine c_skip ?_
            refine ⟨_, by omega, ⟨rfl, trivial⟩, ⟨rfl, rfl⟩, _, ((s_take (s_take (s_take (s_take (s_take s_nil))))))⟩
        · rintro n2 hn2
          try dsimp only at hn2
          refine c_seq ?_
          refine c_seq ?_
          refine c_region ?_
          refine o_T (y_move rfl) rfl ?_
          refine o_T (y_move rfl) rfl ?_
          refine o_T (y_nilck rfl) rfl ?_
          refine o_T (y_fa fl_167_12 rfl) rfl ?_
          refine o_ld one_3 rfl (ms (ms m0)) Cn.g12 rfl ?_
          refine o_T (y_gtr rfl rfl) rfl ?_
          refine o_nil1 44 rfl rfl ?_
          refine c_joinE (ι := Int) (fun i => [(5, .int .i64 i)]) (fun i => i = (⟨y, t, u⟩ : Conn).pumpN) (fun _ _ h => h) ?_ ?_
          · skip
            refine c_cond rfl (fun h85 => ?_) (fun h85 => ?_)
            · try simp only [decide_eq_true_eq, decide_eq_false_iff_not, Bool.not_eq_true', Bool.not_eq_false', Int.not_lt, Int.not_le, Decidable.not_not, beq_iff_eq, bne_iff_ne, ne_eq, beq_eq_false_iff_ne] at h85
              refine c_region ?_
              refine o_T (y_move rfl) rfl ?_
              refine o_T (y_nilck rfl) rfl ?_
              refine o_T (y_fa fl_167_12 rfl) rfl ?_
              refine o_ld one_3 rfl (ms (ms m0)) Cn.g12 rfl ?_
              refine o_L (y_assign rfl) rfl rfl ?_
              refine o_nil0 rfl ?_
              refine ⟨_, by simp only [Conn.pumpN]; rw [← hrm, ← hn1, ← hn2]; omega, ⟨rfl, trivial⟩, ⟨rfl, rfl⟩, _, ((s_take (s_take (s_take (s_take (s_take s_nil))))))⟩
            · try simp only [decide_eq_true_eq, decide_eq_false_iff_not, Bool.not_eq_true', Bool.not_eq_false', Int.not_lt, Int.not_le, Decidable.not_not, beq_iff_eq, bne_iff_ne, ne_eq, beq_eq_false_iff_ne] at h85
              refine c_skip ?_
              refine ⟨_, by simp only [Conn.pumpN]; rw [← hrm, ← hn1, ← hn2]; omega, ⟨rfl, trivial⟩, ⟨rfl, rfl⟩, _, ((s_take (s_take (s_take (s_take (s_take s_nil))))))⟩
          · rintro n3 hn3
            try dsimp only at hn3
            subst hn3
            refine c_seq ?_
            refine c_seq ?_
            refine c_region ?_
            refine o_T (y_move rfl) rfl ?_
            refine o_T (y_leq rfl rfl) rfl ?_
            refine o_nil1 50 rfl rfl ?_
            refine c_cond rfl (fun h88 => ?_) (fun h88 => ?_)
            · try simp only [decide_eq_true_eq, decide_eq_false_iff_not, Bool.not_eq_true', Bool.not_eq_false', Int.not_lt, Int.not_le, Decidable.not_not, beq_iff_eq, bne_iff_ne, ne_eq, beq_eq_false_iff_ne] at h88
              refine c_exit ?_
              refine c_seq ?_
              refine c_seq ?_
              refine c_region ?_
              refine o_T (y_move rfl) rfl ?_
              refine o_T (y_nilck rfl) rfl ?_
              refine o_T (y_fa fl_167_4 rfl) rfl ?_
              refine o_ld one_4 rfl (ms (ms m0)) Cn.g4 rfl ?_
              refine o_T (y_move rfl) rfl ?_
              refine o_split 82 rfl (fun h97 => ?_) (fun h97 => ?_)
              · try simp only [decide_eq_true_eq, decide_eq_false_iff_not, Bool.not_eq_true', Bool.not_eq_false', Int.not_lt, Int.not_le, Decidable.not_not, beq_iff_eq, bne_iff_ne, ne_eq, beq_eq_false_iff_ne] at h97
                refine o_take rfl rfl rfl ?_
                refine o_T (y_move rfl) rfl ?_
                refine o_take rfl rfl rfl ?_
                refine o_T (y_nilck rfl) rfl ?_
                refine o_take rfl rfl rfl ?_
                refine o_T (y_fa fl_167_5 rfl) rfl ?_
                refine o_take rfl rfl rfl ?_
                refine o_ld one_4 rfl (ms (ms m0)) Cn.g5 rfl ?_
                refine o_take rfl rfl rfl ?_
                refine o_T (y_not rfl) rfl ?_
                refine o_T (y_pickT rfl rfl) rfl ?_
                refine o_T (y_move rfl) rfl ?_
                refine o_split 89 rfl (fun h97_1 => ?_) (fun h97_1 => ?_)
                · try simp only [decide_eq_true_eq, decide_eq_false_iff_not, Bool.not_eq_true', Bool.not_eq_false', Int.not_lt, Int.not_le, Decidable.not_not, beq_iff_eq, bne_iff_ne, ne_eq, beq_eq_false_iff_ne] at h97_1
                  refine o_take rfl rfl rfl ?_
                  refine o_T (y_move rfl) rfl ?_
                  refine o_take rfl rfl rfl ?_
                  refine o_T (y_nilck rfl) rfl ?_
                  refine o_take rfl rfl rfl ?_
                  refine o_T (y_fa fl_167_12 rfl) rfl ?_
                  refine o_take rfl rfl rfl ?_
                  refine o_ld one_3 rfl (ms (ms m0)) Cn.g12 rfl ?_
                  refine o_take rfl rfl rfl ?_
                  refine o_T (y_gtr rfl rfl) rfl ?_
                  refine o_T (y_pickT rfl rfl) rfl ?_
                  refine o_nil1 95 rfl rfl ?_
                  refine c_cond rfl (fun h97_2 => ?_) (fun h97_2 => ?_)
                  · try simp only [decide_eq_true_eq, decide_eq_false_iff_not, Bool.not_eq_true', Bool.not_eq_false', Int.not_lt, Int.not_le, Decidable.not_not, beq_iff_eq, bne_iff_ne, ne_eq, beq_eq_false_iff_ne] at h97_2
                    refine c_seq ?_
                    refine c_region ?_
                    refine o_T (y_move rfl) rfl ?_
                    refine o_T (y_nilck rfl) rfl ?_
                    refine o_T (y_fa fl_167_0 rfl) rfl ?_
                    refine o_ld one_102 rfl (ms (ms m0)) Cn.g0 rfl ?_
                    refine o_callrv en_111 rfl (t111 _ _ (by assumption)) (s_skip (s_skip (s_skip (s_take s_nil)))) rfl ?_
                    refine o_T (y_eql rfl rfl) rfl ?_
                    refine o_nil1 101 rfl rfl ?_
                    refine c_cond rfl (fun h98 => ?_) (fun h98 => ?_)
                    · try simp only [decide_eq_true_eq, decide_eq_false_iff_not, Bool.not_eq_true', Bool.not_eq_false', Int.not_lt, Int.not_le, Decidable.not_not, beq_iff_eq, bne_iff_ne, ne_eq, beq_eq_false_iff_ne] at h98
                      refine c_seq ?_
                      refine c_region ?_
                      refine o_T (y_move rfl) rfl ?_
                      refine o_T (y_nilck rfl) rfl ?_
                      refine o_T (y_fa fl_167_0 rfl) rfl ?_
                      refine o_ld one_102 rfl (ms (ms m0)) Cn.g0 rfl ?_
                      refine o_callrv en_205 rfl (t205 _ _ (by assumption)) (s_skip (s_skip (s_skip (s_take s_nil)))) rfl ?_
                      refine o_L (y_assign rfl) rfl rfl ?_
                      refine o_nil0 rfl ?_
                      refine c_seq ?_
                      refine c_region ?_
                      refine o_T (y_move rfl) rfl ?_
                      refine o_T (y_move rfl) rfl ?_
                      refine o_call en_202 rfl (t202n _ ps pr y _ _ _ _ g1 (by omega)) (s_skip (s_skip (s_take (s_take (s_take s_nil))))) rfl ?_
                      rintro v S' ⟨b_1, rfl, rfl⟩
                      refine o_alloc ze_178 rfl rfl (fun b_2 => ?_)
                      refine o_sta ag_178 rfl rfl rfl rfl r0 (setAll_full _ _ rfl) (of_ble rfl) ?_
                      refine o_nil0 rfl ?_
                      refine c_seq ?_
                      refine c_region ?_
                      refine o_T (y_move rfl) rfl ?_
                      refine o_ldw ag_178 rfl m0 rfl rfl ?_
                      refine o_bs1 sz_185 rfl rfl rfl rfl rfl rfl (fun b_3 => ?_)
                      refine o_lapp1 sz_185 rfl rfl rfl g3 rfl rfl segR.mk (s_get (ks (ks (ks (ks (ks (ks k0)))))) (s_get (ks (ks (ks (ks (ks (ks k0)))))) (s_get k0 (s_get (ks k0) s_nil)))) (by first | omega | (simp only [List.length_append, List.length_cons, List.length_nil]; omega) | (simp <;> omega)) (by first | omega | (simp only [List.length_append, List.length_cons, List.length_nil]; omega) | (simp <;> omega)) rfl (fun v_2 gv_2 hl_2 => ?_)
                      refine o_L (y_assign rfl) rfl rfl ?_
                      refine o_nil0 rfl ?_
                      refine c_seq ?_
                      refine c_region ?_
                      refine o_T (y_move rfl) rfl ?_
                      refine o_T (y_nilck rfl) rfl ?_
                      refine o_T (y_fa fl_167_5 rfl) rfl ?_
                      refine o_st one_4 rfl rfl rfl (rs (rs (rs r0))) Cn.s5 (of_blt rfl) ?_
                      refine o_nil0 rfl ?_
                      refine c_seq ?_
                      refine c_region ?_
                      refine o_T (y_move rfl) rfl ?_
                      refine o_T (y_nilck rfl) rfl ?_
                      refine o_T (y_fa fl_167_12 rfl) rfl ?_
                      refine o_ld one_3 rfl (ms (ms (ms m0))) Cn.g12 rfl ?_
                      refine o_T (y_sub rfl rfl (w64 (by omega))) rfl ?_
                      refine o_T (y_nilck rfl) rfl ?_
                      refine o_T (y_fa fl_167_12 rfl) rfl ?_
                      refine o_st one_3 rfl rfl rfl (rs (rs (rs r0))) Cn.s12 (of_blt rfl) ?_
                      refine o_nil0 rfl ?_
                      refine c_region ?_
                      refine o_T (y_move rfl) rfl ?_
                      refine o_call en_167 rfl (u167 _ ps pr _ rfl rfl ?_) (s_skip (s_skip (s_skip (s_take s_nil)))) rfl ?_
                      · constructor <;> first | assumption | (dsimp only [Cn.cs]; omega) | (dsimp only [Cn.cs]; assumption)
                      rintro v S' ⟨rfl, rfl⟩
                      refine o_nil0 rfl ?_
                      refine c_seq ?_
                      refine c_region ?_
                      refine o_T (y_move rfl) rfl ?_
                      refine o_L (y_assign rfl) rfl rfl ?_
                      refine o_nil0 rfl ?_
                      refine c_ret ?_
                      refine fun aX wX heX hsX => ret1 Tryz.results169 heX rfl (s_get (ks k0) (s_get (ks k0) (s_get k0 (s_get (ks k0) (s_get (ks k0) s_nil))))) ?_
                      have e1 := Conn.pump_eq (by dsimp only; omega) g4 g5 (by omega)
                      have e2 : (⟨y, t, u⟩ : Conn).pumpE = (⟨({ y with finSent := true, credit := y.credit - 1 } : Cs).arm, t, u⟩, [(⟨y, t, u⟩ : Conn).mk' 6 t.nxt []]) := by simp only [Conn.pumpE]; rw [if_pos ⟨h97, h97_1, h97_2, by unfold Sb.unsent at h98; omega⟩]
                      have ok9 := (Conn.ok_pump ok0).1
                      have ok8 := Conn.pump_len ok0
                      rw [e1, e2] at ok9 ok8 ⊢
                      exact ⟨_, _, hl_2, rfl, ok9, ok8⟩
                    · try simp only [decide_eq_true_eq, decide_eq_false_iff_not, Bool.not_eq_true', Bool.not_eq_false', Int.not_lt, Int.not_le, Decidable.not_not, beq_iff_eq, bne_iff_ne, ne_eq, beq_eq_false_iff_ne] at h98
                      refine c_skip ?_
                      refine c_seq ?_
                      refine c_region ?_
                      refine o_T (y_move rfl) rfl ?_
                      refine o_L (y_assign rfl) rfl rfl ?_
                      refine o_nil0 rfl ?_
                      refine c_ret ?_
                      refine fun aX wX heX hsX => ret1 Tryz.results169 heX rfl (s_take (s_take (s_take (s_take (s_take s_nil))))) ?_
                      have e1 := Conn.pump_eq (by dsimp only; omega) g4 g5 (by omega)
                      have e2 : (⟨y, t, u⟩ : Conn).pumpE = ((⟨y, t, u⟩ : Conn), []) := by simp only [Conn.pumpE]; rw [if_neg (by rintro ⟨a1, a2, a3, a4⟩; first | omega | (unfold Sb.unsent at h98; omega) | (simp_all; done))]
                      have ok9 := (Conn.ok_pump ok0).1
                      have ok8 := Conn.pump_len ok0
                      rw [e1, e2] at ok9 ok8 ⊢
                      exact ⟨_, _, g3.to (by simp), rfl, ok9, ok8⟩
                  · try simp only [decide_eq_true_eq, decide_eq_false_iff_not, Bool.not_eq_true', Bool.not_eq_false', Int.not_lt, Int.not_le, Decidable.not_not, beq_iff_eq, bne_iff_ne, ne_eq, beq_eq_false_iff_ne] at h97_2
                    refine c_skip ?_
                    refine c_seq ?_
                    refine c_region ?_
                    refine o_T (y_move rfl) rfl ?_
                    refine o_L (y_assign rfl) rfl rfl ?_
                    refine o_nil0 rfl ?_
                    refine c_ret ?_
                    refine fun aX wX heX hsX => ret1 Tryz.results169 heX rfl (s_take (s_take (s_take (s_take (s_take s_nil))))) ?_
                    have e1 := Conn.pump_eq (by dsimp only; omega) g4 g5 (by omega)
                    have e2 : (⟨y, t, u⟩ : Conn).pumpE = ((⟨y, t, u⟩ : Conn), []) := by simp only [Conn.pumpE]; rw [if_neg (by rintro ⟨a1, a2, a3, a4⟩; first | omega | (unfold Sb.unsent at h98; omega) | (simp_all; done))]
                    have ok9 := (Conn.ok_pump ok0).1
                    have ok8 := Conn.pump_len ok0
                    rw [e1, e2] at ok9 ok8 ⊢
                    exact ⟨_, _, g3.to (by simp), rfl, ok9, ok8⟩
                · try simp only [decide_eq_true_eq, decide_eq_false_iff_not, Bool.not_eq_true', Bool.not_eq_false', Int.not_lt, Int.not_le, Decidable.not_not, beq_iff_eq, bne_iff_ne, ne_eq, beq_eq_false_iff_ne] at h97_1
                  refine o_pass rfl rfl rfl rfl rfl ?_
                  refine o_pass rfl rfl rfl rfl rfl ?_
                  refine o_pass rfl rfl rfl rfl rfl ?_
                  refine o_pass rfl rfl rfl rfl rfl ?_
                  refine o_pass rfl rfl rfl rfl rfl ?_
                  refine o_T (y_pickF rfl rfl) rfl ?_
                  refine o_nil1 95 rfl rfl ?_
                  refine c_condF rfl ?_
                  refine c_skip ?_
                  refine c_seq ?_
                  refine c_region ?_
                  refine o_T (y_move rfl) rfl ?_
                  refine o_L (y_assign rfl) rfl rfl ?_
                  refine o_nil0 rfl ?_
                  refine c_ret ?_
                  refine fun aX wX heX hsX => ret1 Tryz.results169 heX rfl (s_take (s_take (s_take (s_take (s_take s_nil))))) ?_
                  have e1 := Conn.pump_eq (by dsimp only; omega) g4 g5 (by omega)
                  have e2 : (⟨y, t, u⟩ : Conn).pumpE = ((⟨y, t, u⟩ : Conn), []) := by simp only [Conn.pumpE]; rw [if_neg (by rintro ⟨a1, a2, a3, a4⟩; first | omega | (unfold Sb.unsent at h98; omega) | (simp_all; done))]
                  have ok9 := (Conn.ok_pump ok0).1
                  have ok8 := Conn.pump_len ok0
                  rw [e1, e2] at ok9 ok8 ⊢
                  exact ⟨_, _, g3.to (by simp), rfl, ok9, ok8⟩
              · try simp only [decide_eq_true_eq, decide_eq_false_iff_not, Bool.not_eq_true', Bool.not_eq_false', Int.not_lt, Int.not_le, Decidable.not_not, beq_iff_eq, bne_iff_ne, ne_eq, beq_eq_false_iff_ne] at h97
                refine o_pass rfl rfl rfl rfl rfl ?_
                refine o_pass rfl rfl rfl rfl rfl ?_
                refine o_pass rfl rfl rfl rfl rfl ?_
                refine o_pass rfl rfl rfl rfl rfl ?_
                refine o_pass rfl rfl rfl rfl rfl ?_
                refine o_T (y_pickF rfl rfl) rfl ?_
                refine o_T (y_move rfl) rfl ?_
                refine o_pass rfl rfl rfl rfl rfl ?_
                refine o_pass rfl rfl rfl rfl rfl ?_
                refine o_pass rfl rfl rfl rfl rfl ?_
                refine o_pass rfl rfl rfl rfl rfl ?_
                refine o_pass rfl rfl rfl rfl rfl ?_
                refine o_T (y_pickF rfl rfl) rfl ?_
                refine o_nil1 95 rfl rfl ?_
                refine c_condF rfl ?_
                refine c_skip ?_
                refine c_seq ?_
                refine c_region ?_
                refine o_T (y_move rfl) rfl ?_
                refine o_L (y_assign rfl) rfl rfl ?_
                refine o_nil0 rfl ?_
                refine c_ret ?_
                refine fun aX wX heX hsX => ret1 Tryz.results169 heX rfl (s_take (s_take (s_take (s_take (s_take s_nil))))) ?_
                have e1 := Conn.pump_eq (by dsimp only; omega) g4 g5 (by omega)
                have e2 : (⟨y, t, u⟩ : Conn).pumpE = ((⟨y, t, u⟩ : Conn), []) := by simp only [Conn.pumpE]; rw [if_neg (by rintro ⟨a1, a2, a3, a4⟩; first | omega | (unfold Sb.unsent at h98; omega) | (simp_all; done))]
                have ok9 := (Conn.ok_pump ok0).1
                have ok8 := Conn.pump_len ok0
                rw [e1, e2] at ok9 ok8 ⊢
                exact ⟨_, _, g3.to (by simp), rfl, ok9, ok8⟩
            · try simp only [decide_eq_true_eq, decide_eq_false_iff_not, Bool.not_eq_true', Bool.not_eq_false', Int.not_lt, Int.not_le, Decidable.not_not, beq_iff_eq, bne_iff_ne, ne_eq, beq_eq_false_iff_ne] at h88
              refine c_skip ?_
              refine c_seq ?_
              refine c_region ?_
              refine o_T (y_move rfl) rfl ?_
              refine o_T (y_nilck rfl) rfl ?_
              refine o_T (y_fa fl_167_0 rfl) rfl ?_
              refine o_ld one_102 rfl (ms (ms m0)) Cn.g0 rfl ?_
              refine o_T (y_move rfl) rfl ?_
              refine o_call en_204 rfl (t204 _ _ _ (by assumption)) (s_skip (s_skip (s_skip (s_take s_nil)))) rfl ?_
              rintro v S' ⟨b_4, rfl, rfl⟩
              refine o_T (y_move rfl) rfl ?_
              refine o_T (y_extract rfl rfl) rfl ?_
              refine o_T (y_extract rfl rfl) rfl ?_
              refine o_L (y_assign rfl) rfl rfl ?_
              refine o_L (y_assign rfl) rfl rfl ?_
              refine o_nil0 rfl ?_
              refine c_seq ?_
              have okN := Sb.ok_next okS2 (⟨y, t, u⟩ : Conn).pumpN
              refine c_region ?_
              refine o_T (y_move rfl) rfl ?_
              refine o_T (y_move rfl) rfl ?_
              refine o_T (y_move rfl) rfl ?_
              refine o_call en_202 rfl (t202d _ ps pr y _ _ _ _ _ _ ?_ (by omega)) (s_get k0 (s_get (ks (ks (ks k0))) (s_get k0 (s_get (ks (ks k0)) s_nil)))) rfl ?_
              · exact (⟨g1.x, by assumption, by assumption⟩)
              rintro v S' ⟨rfl, rfl⟩
              refine o_alloc ze_178 rfl rfl (fun b_5 => ?_)
              refine o_sta ag_178 rfl rfl rfl rfl r0 (setAll_full _ _ rfl) (of_ble rfl) ?_
              refine o_nil0 rfl ?_
              refine c_seq ?_
              refine c_region ?_
              refine o_T (y_move rfl) rfl ?_
              refine o_ldw ag_178 rfl m0 rfl rfl ?_
              refine o_bs1 sz_185 rfl rfl rfl rfl rfl rfl (fun b_6 => ?_)
              refine o_lapp1 sz_185 rfl rfl rfl g3 rfl rfl segR.mk (s_get (ks (ks (ks (ks (ks (ks k0)))))) (s_get (ks (ks (ks (ks (ks (ks k0)))))) (s_get k0 (s_get (ks k0) s_nil)))) (by first | omega | (simp only [List.length_append, List.length_cons, List.length_nil]; omega) | (simp <;> omega)) (by first | omega | (simp only [List.length_append, List.length_cons, List.length_nil]; omega) | (simp <;> omega)) rfl (fun v_3 gv_3 hl_3 => ?_)
              refine o_L (y_assign rfl) rfl rfl ?_
              refine o_nil0 rfl ?_
              refine c_seq ?_
              refine c_region ?_
              refine o_T (y_move rfl) rfl ?_
              refine o_T (y_nilck rfl) rfl ?_
              refine o_T (y_fa fl_167_12 rfl) rfl ?_
              refine o_ld one_3 rfl (ms (ms (ms m0))) Cn.g12 rfl ?_
              refine o_T (y_move rfl) rfl ?_
              refine o_T (y_sub rfl rfl (w64 (by omega))) rfl ?_
              refine o_T (y_nilck rfl) rfl ?_
              refine o_T (y_fa fl_167_12 rfl) rfl ?_
              refine o_st one_3 rfl rfl rfl (rs (rs (rs r0))) Cn.s12 (of_blt rfl) ?_
              refine o_nil0 rfl ?_
              refine c_region ?_
              refine o_T (y_move rfl) rfl ?_
              refine o_call en_167 rfl (u167 _ ps pr _ rfl rfl ?_) (s_skip (s_skip (s_skip (s_take s_nil)))) rfl ?_
              · constructor <;> first | assumption | (dsimp only [Cn.cs]; omega) | (dsimp only [Cn.cs]; assumption)
              rintro v S' ⟨rfl, rfl⟩
              refine o_nil0 rfl ?_
              refine ⟨(Conn.pumpC ⟨y, t, u⟩, l ++ [Conn.pumpS ⟨y, t, u⟩], v_3, gv_3, gd ++ _), ⟨⟨Conn.ok_pumpC g1 (by omega), (Conn.pumpC_st _).trans g2, hl_3, g4.trans (by rw [Conn.pumpL_step (by omega)]), by rw [g5, Conn.pumpL_step (c := (⟨y, t, u⟩ : Conn)) (by omega)]; simp, by simp; omega⟩, by dsimp only; omega⟩, ⟨by first | rfl | exact gteI rfl (by omega), trivial⟩, ⟨rfl, rfl⟩, _, ((s_get (ks k0) (s_get (ks k0) (s_get k0 (s_get (ks k0) (s_get (ks k0) s_nil))))))⟩
theorem u169 (b ps pr : Nat) (k : Cn) (hk1 : k.sb = ptr ps) (hk2 : k.rb = ptr pr) (s : Sb) (r : Rb)  (ok : Conn.Ok ⟨(Cn.cs k), s, r⟩) : Trip Tryz.prog 169 #[.pointer (some ⟨b, 0, none⟩)] [[(b, .cells k.enc 167 (0, 0))], [(ps, .cells s.enc 162 (0, 0))], [(pr, .cells r.enc 165 (0, 0))]] (fun u S' => ∃ gv gd, Segs u ((⟨(Cn.cs k), s, r⟩ : Conn).pump.2) gv gd ∧ S' = [gv, gd, [(b, .cells (((⟨(Cn.cs k), s, r⟩ : Conn).pump.1).x.cn ps pr).enc 167 (0, 0))], [(ps, .cells ((⟨(Cn.cs k), s, r⟩ : Conn).pump.1).s.enc 162 (0, 0))], [(pr, .cells ((⟨(Cn.cs k), s, r⟩ : Conn).pump.1).r.enc 165 (0, 0))]] ∧ ((⟨(Cn.cs k), s, r⟩ : Conn).pump.1).Ok ∧ (⟨(Cn.cs k), s, r⟩ : Conn).pump.2.length ≤ 13) := by
  obtain ⟨a1, a2, a3, a4, a5, a6, a7, a8, a9, a10, a11, a12, a13, a14⟩ := k
  dsimp only at hk1 hk2
  subst hk1 hk2
  exact t169 b ps pr (Cs.mk a3 a4 a5 a6 a7 a8 a9 a10 a11 a12 a13 a14) s r ok

end Go.Proofs.Qxb6500351aGreat
