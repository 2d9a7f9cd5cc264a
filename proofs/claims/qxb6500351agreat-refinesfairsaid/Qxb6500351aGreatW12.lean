/- MADE BY PROGRAM (tools/gen.py over tools/specs351.py): walks. -/
import Derived.Test.Qxb6500351aGreatFacts
import Derived.Test.Qxb6500351aGreatW11
set_option linter.unusedVariables false
set_option linter.unusedSimpArgs false
namespace Go.Proofs.Qxb6500351aGreat
open Go.Eng
set_option maxRecDepth 20000
set_option maxHeartbeats 4000000
/-- (*e2e/conn.Conn).Info -/
theorem t67 (b ps pr : Nat) (x : Cs) (s : Sb) (r : Rb)  (ok : Conn.Ok ⟨x, s, r⟩) : Trip Tryz.prog 67 #[.pointer (some ⟨b, 0, none⟩)] [[(b, .cells (x.cn ps pr).enc 167 (0, 0))], [(ps, .cells s.enc 162 (0, 0))], [(pr, .cells r.enc 165 (0, 0))]] (fun u S' => ∃ b2, u = .pointer (some ⟨b2, 0, none⟩) ∧ S' = [[(b2, .cells (⟨x, s, r⟩ : Conn).info.enc 95 (0, 0))], [(b, .cells (x.cn ps pr).enc 167 (0, 0))], [(ps, .cells s.enc 162 (0, 0))], [(pr, .cells r.enc 165 (0, 0))]]) := by
  have ok0 := ok
  have okS : s.Ok := ok.s
  have okR : r.Ok := ok.r
  obtain ⟨x1, x2, x3, x4, x5, x6, x7⟩ := ok.x
  obtain ⟨k1, k2, k3, k4, k5, k6, k7, k8⟩ := ok.s
  obtain ⟨j1, j2, j3, j4, j5, j6, j7, j8⟩ := ok.r
  dsimp only at x1 x2 x3 x4 x5 x6 x7 k1 k2 k3 k4 k5 k6 k7 k8 j1 j2 j3 j4 j5 j6 j7 j8
  refine fn_entry (args := [.pointer (some ⟨b, 0, none⟩)]) Tryz.func67 rfl Tryz.ntmps67 rfl (fun w0 => ?_)
  refine c_seq ?_
  refine c_region ?_
  refine o_L (y_assign rfl) rfl rfl ?_
  refine o_nil0 rfl ?_
  refine c_seq ?_
  refine c_draw #[true, true, true, true, true, true, true, true, true, true, true, true, true, true, true, true, true, true, true, true, true, true, true, true, true, true, true, true, true, true, true, true, true, true, true, true, true, true, true, true, true, true, true, true, false, true, true] rfl (n := 47) rfl ?_
  refine d_T 0 rfl (by kernel_rfl) rfl (y_move rfl) rfl ?_
  refine d_T 1 rfl (by kernel_rfl) rfl (y_nilck rfl) rfl ?_
  refine d_T 2 rfl (by kernel_rfl) rfl (y_fa fl_167_2 rfl) rfl ?_
  refine d_ld 3 rfl (by kernel_rfl) one_3 rfl (fun x hx => hx) m0 Cn.g2 rfl ?_
  refine d_T 4 rfl (by kernel_rfl) rfl (y_move rfl) rfl ?_
  refine d_T 5 rfl (by kernel_rfl) rfl (y_nilck rfl) rfl ?_
  refine d_T 6 rfl (by kernel_rfl) rfl (y_fa fl_167_3 rfl) rfl ?_
  refine d_ld 7 rfl (by kernel_rfl) one_70 rfl (fun x hx => hx) m0 Cn.g3 rfl ?_
  refine d_T 8 rfl (by kernel_rfl) rfl (y_move rfl) rfl ?_
  refine d_T 9 rfl (by kernel_rfl) rfl (y_nilck rfl) rfl ?_
  refine d_T 10 rfl (by kernel_rfl) rfl (y_fa fl_167_4 rfl) rfl ?_
  refine d_ld 11 rfl (by kernel_rfl) one_4 rfl (fun x hx => hx) m0 Cn.g4 rfl ?_
  refine d_T 12 rfl (by kernel_rfl) rfl (y_move rfl) rfl ?_
  refine d_T 13 rfl (by kernel_rfl) rfl (y_nilck rfl) rfl ?_
  refine d_T 14 rfl (by kernel_rfl) rfl (y_fa fl_167_5 rfl) rfl ?_
  refine d_ld 15 rfl (by kernel_rfl) one_4 rfl (fun x hx => hx) m0 Cn.g5 rfl ?_
  refine d_T 16 rfl (by kernel_rfl) rfl (y_move rfl) rfl ?_
  refine d_T 17 rfl (by kernel_rfl) rfl (y_nilck rfl) rfl ?_
  refine d_T 18 rfl (by kernel_rfl) rfl (y_fa fl_167_6 rfl) rfl ?_
  refine d_ld 19 rfl (by kernel_rfl) one_4 rfl (fun x hx => hx) m0 Cn.g6 rfl ?_
  refine d_T 20 rfl (by kernel_rfl) rfl (y_move rfl) rfl ?_
  refine d_T 21 rfl (by kernel_rfl) rfl (y_nilck rfl) rfl ?_
  refine d_T 22 rfl (by kernel_rfl) rfl (y_fa fl_167_7 rfl) rfl ?_
  refine d_ld 23 rfl (by kernel_rfl) one_4 rfl (fun x hx => hx) m0 Cn.g7 rfl ?_
  refine d_T 24 rfl (by kernel_rfl) rfl (y_move rfl) rfl ?_
  refine d_T 25 rfl (by kernel_rfl) rfl (y_nilck rfl) rfl ?_
  refine d_T 26 rfl (by kernel_rfl) rfl (y_fa fl_167_9 rfl) rfl ?_
  refine d_ld 27 rfl (by kernel_rfl) one_3 rfl (fun x hx => hx) m0 Cn.g9 rfl ?_
  refine d_T 28 rfl (by kernel_rfl) rfl (y_move rfl) rfl ?_
  refine d_T 29 rfl (by kernel_rfl) rfl (y_nilck rfl) rfl ?_
  refine d_T 30 rfl (by kernel_rfl) rfl (y_fa fl_167_10 rfl) rfl ?_
  refine d_ld 31 rfl (by kernel_rfl) one_3 rfl (fun x hx => hx) m0 Cn.g10 rfl ?_
  refine d_T 32 rfl (by kernel_rfl) rfl (y_move rfl) rfl ?_
  refine d_T 33 rfl (by kernel_rfl) rfl (y_nilck rfl) rfl ?_
  refine d_T 34 rfl (by kernel_rfl) rfl (y_fa fl_167_11 rfl) rfl ?_
  refine d_ld 35 rfl (by kernel_rfl) one_3 rfl (fun x hx => hx) m0 Cn.g11 rfl ?_
  refine d_T 36 rfl (by kernel_rfl) rfl (y_move rfl) rfl ?_
  refine d_T 37 rfl (by kernel_rfl) rfl (y_nilck rfl) rfl ?_
  refine d_T 38 rfl (by kernel_rfl) rfl (y_fa fl_167_12 rfl) rfl ?_
  refine d_ld 39 rfl (by kernel_rfl) one_3 rfl (fun x hx => hx) m0 Cn.g12 rfl ?_
  refine d_T 40 rfl (by kernel_rfl) rfl (y_move rfl) rfl ?_
  refine d_T 41 rfl (by kernel_rfl) rfl (y_nilck rfl) rfl ?_
  refine d_T 42 rfl (by kernel_rfl) rfl (y_fa fl_167_13 rfl) rfl ?_
  refine d_ld 43 rfl (by kernel_rfl) one_3 rfl (fun x hx => hx) m0 Cn.g13 rfl ?_
  refine d_hard 44 rfl (by kernel_rfl) ?_
  refine o_T (y_build st_95 rfl (fb rfl rfl rfl Ci.s0 (fb rfl rfl rfl Ci.s1 (fb rfl rfl rfl Ci.s2 (fb rfl rfl rfl Ci.s3 (fb rfl rfl rfl Ci.s4 (fb rfl rfl rfl Ci.s5 (fb rfl rfl rfl Ci.s13 (fb rfl rfl rfl Ci.s14 (fb rfl rfl rfl Ci.s15 (fb rfl rfl rfl Ci.s16 (fb rfl rfl rfl Ci.s17 fb0)))))))))))) rfl ?_
  refine o_stop (fun h => nomatch h) ?_
  refine d_hard 45 rfl (by kernel_rfl) ?_
  refine o_box rfl rfl rfl rfl (fun b_1 => ?_)
  refine o_stop (fun _ => (fun x hx => (ms hx))) ?_
  refine d_L 46 rfl (by kernel_rfl) rfl (y_assign rfl) rfl rfl ?_
  refine d_nil0 (by kernel_rfl) rfl ?_
  refine c_seq ?_
  refine c_region ?_
  refine o_T (y_move rfl) rfl ?_
  refine o_T (y_move rfl) rfl ?_
  refine o_callrv en_107 rfl (t107 _ ps pr x _ _ ok0) (s_skip (s_take (s_take (s_take s_nil)))) rfl ?_
  refine o_T (y_nilck rfl) rfl ?_
  refine o_T (y_fa fl_95_6 rfl) rfl ?_
  refine o_st one_3 rfl rfl rfl r0 Ci.s6 (of_blt rfl) ?_
  refine o_nil0 rfl ?_
  refine c_seq ?_
  refine c_region ?_
  refine o_T (y_move rfl) rfl ?_
  refine o_T (y_move rfl) rfl ?_
  refine o_callrv en_108 rfl (t108 _ ps pr x _ _ ok0) (s_skip (s_take (s_take (s_take s_nil)))) rfl ?_
  refine o_T (y_nilck rfl) rfl ?_
  refine o_T (y_fa fl_95_7 rfl) rfl ?_
  refine o_st one_3 rfl rfl rfl r0 Ci.s7 (of_blt rfl) ?_
  refine o_nil0 rfl ?_
  refine c_seq ?_
  refine c_region ?_
  refine o_T (y_move rfl) rfl ?_
  refine o_T (y_move rfl) rfl ?_
  refine o_callrv en_109 rfl (t109 _ ps pr x _ _ ok0) (s_skip (s_take (s_take (s_take s_nil)))) rfl ?_
  refine o_T (y_nilck rfl) rfl ?_
  refine o_T (y_fa fl_95_8 rfl) rfl ?_
  refine o_st one_3 rfl rfl rfl r0 Ci.s8 (of_blt rfl) ?_
  refine o_nil0 rfl ?_
  refine c_seq ?_
  refine c_region ?_
  refine o_T (y_move rfl) rfl ?_
  refine o_T (y_move rfl) rfl ?_
  refine o_T (y_nilck rfl) rfl ?_
  refine o_T (y_fa fl_167_0 rfl) rfl ?_
  refine o_ld one_102 rfl (ms m0) Cn.g0 rfl ?_
  refine o_callrv en_110 rfl (t110 _ _ (by assumption)) (s_skip (s_skip (s_take s_nil))) rfl ?_
  refine o_T (y_nilck rfl) rfl ?_
  refine o_T (y_fa fl_95_9 rfl) rfl ?_
  refine o_st one_3 rfl rfl rfl r0 Ci.s9 (of_blt rfl) ?_
  refine o_nil0 rfl ?_
  refine c_seq ?_
  refine c_region ?_
  refine o_T (y_move rfl) rfl ?_
  refine o_T (y_move rfl) rfl ?_
  refine o_T (y_nilck rfl) rfl ?_
  refine o_T (y_fa fl_167_0 rfl) rfl ?_
  refine o_ld one_102 rfl (ms m0) Cn.g0 rfl ?_
  refine o_callrv en_111 rfl (t111 _ _ (by assumption)) (s_skip (s_skip (s_take s_nil))) rfl ?_
  refine o_T (y_nilck rfl) rfl ?_
  refine o_T (y_fa fl_95_10 rfl) rfl ?_
  refine o_st one_3 rfl rfl rfl r0 Ci.s10 (of_blt rfl) ?_
  refine o_nil0 rfl ?_
  refine c_seq ?_
  refine c_region ?_
  refine o_T (y_move rfl) rfl ?_
  refine o_T (y_move rfl) rfl ?_
  refine o_T (y_nilck rfl) rfl ?_
  refine o_T (y_fa fl_167_1 rfl) rfl ?_
  refine o_ld one_104 rfl (ms m0) Cn.g1 rfl ?_
  refine o_callrv en_112 rfl (t112 _ _ (by assumption)) (s_skip (s_skip (s_skip (s_take s_nil)))) rfl ?_
  refine o_T (y_nilck rfl) rfl ?_
  refine o_T (y_fa fl_95_11 rfl) rfl ?_
  refine o_st one_3 rfl rfl rfl r0 Ci.s11 (of_blt rfl) ?_
  refine o_nil0 rfl ?_
  refine c_seq ?_
  refine c_region ?_
  refine o_T (y_move rfl) rfl ?_
  refine o_T (y_move rfl) rfl ?_
  refine o_T (y_nilck rfl) rfl ?_
  refine o_T (y_fa fl_167_1 rfl) rfl ?_
  refine o_ld one_104 rfl (ms m0) Cn.g1 rfl ?_
  refine o_callrv en_113 rfl (t113 _ _ (by assumption)) (s_skip (s_skip (s_skip (s_take s_nil)))) rfl ?_
  refine o_T (y_nilck rfl) rfl ?_
  refine o_T (y_fa fl_95_12 rfl) rfl ?_
  refine o_st one_3 rfl rfl rfl r0 Ci.s12 (of_blt rfl) ?_
  refine o_nil0 rfl ?_
  refine c_seq ?_
  refine c_region ?_
  refine o_T (y_move rfl) rfl ?_
  refine o_L (y_assign rfl) rfl rfl ?_
  refine o_nil0 rfl ?_
  refine c_ret ?_
  refine fun aX wX heX hsX => ret1 Tryz.results67 heX rfl (s_take (s_take (s_take (s_take s_nil)))) ?_
  exact ⟨_, rfl, rfl⟩
theorem u67 (b ps pr : Nat) (k : Cn) (hk1 : k.sb = ptr ps) (hk2 : k.rb = ptr pr) (s : Sb) (r : Rb)  (ok : Conn.Ok ⟨(Cn.cs k), s, r⟩) : Trip Tryz.prog 67 #[.pointer (some ⟨b, 0, none⟩)] [[(b, .cells k.enc 167 (0, 0))], [(ps, .cells s.enc 162 (0, 0))], [(pr, .cells r.enc 165 (0, 0))]] (fun u S' => ∃ b2, u = .pointer (some ⟨b2, 0, none⟩) ∧ S' = [[(b2, .cells (⟨(Cn.cs k), s, r⟩ : Conn).info.enc 95 (0, 0))], [(b, .cells k.enc 167 (0, 0))], [(ps, .cells s.enc 162 (0, 0))], [(pr, .cells r.enc 165 (0, 0))]]) := by
  obtain ⟨a1, a2, a3, a4, a5, a6, a7, a8, a9, a10, a11, a12, a13, a14⟩ := k
  dsimp only at hk1 hk2
  subst hk1 hk2
  exact t67 b ps pr (Cs.mk a3 a4 a5 a6 a7 a8 a9 a10 a11 a12 a13 a14) s r ok

/-- e2e/conn.New -/
theorem t63 (ps pr : Nat) : Trip Tryz.prog 63 #[.pointer (some ⟨ps, 0, none⟩), .pointer (some ⟨pr, 0, none⟩)] [] (fun u S' => ∃ b, u = .pointer (some ⟨b, 0, none⟩) ∧ S' = [[(b, .cells (Cs.zero.cn ps pr).enc 167 (0, 0))]]) := by
  refine fn_entry (args := [.pointer (some ⟨ps, 0, none⟩), .pointer (some ⟨pr, 0, none⟩)]) Tryz.func63 rfl Tryz.ntmps63 rfl (fun w0 => ?_)
  refine c_seq ?_
  refine c_region ?_
  refine o_L (y_assign rfl) rfl rfl ?_
  refine o_nil0 rfl ?_
  refine c_seq ?_
  refine c_region ?_
  refine o_T (y_move rfl) rfl ?_
  refine o_T (y_move rfl) rfl ?_
  refine o_T (y_build st_167 rfl (fb rfl rfl rfl Cn.s0 (fb rfl rfl rfl Cn.s1 fb0))) rfl ?_
  refine o_box rfl rfl rfl rfl (fun b_1 => ?_)
  refine o_L (y_assign rfl) rfl rfl ?_
  refine o_nil0 rfl ?_
  refine c_ret ?_
  refine fun aX wX heX hsX => ret1 Tryz.results63 heX rfl (s_take s_nil) ?_
  exact ⟨_, rfl, rfl⟩

end Go.Proofs.Qxb6500351aGreat
