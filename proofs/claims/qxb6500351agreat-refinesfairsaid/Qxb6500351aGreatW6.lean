/- MADE BY PROGRAM (tools/gen.py over tools/specs351.py): walks. -/
import Derived.Test.Qxb6500351aGreatFacts
import Derived.Test.Qxb6500351aGreatMd4
import Derived.Test.Qxb6500351aGreatW4
import Derived.Test.Qxb6500351aGreatW5
set_option linter.unusedVariables false
set_option linter.unusedSimpArgs false
namespace Go.Proofs.Qxb6500351aGreat
open Go.Eng
set_option maxRecDepth 20000
set_option maxHeartbeats 4000000
/-- (*e2e/conn.Conn).sent -/
theorem t186 (b ps pr : Nat) (x : Cs) (s : Sb) (r : Rb)  (ok : Conn.Ok ⟨x, s, r⟩) : Trip Tryz.prog 186 #[.pointer (some ⟨b, 0, none⟩)] [[(b, .cells (x.cn ps pr).enc 167 (0, 0))], [(ps, .cells s.enc 162 (0, 0))], [(pr, .cells r.enc 165 (0, 0))]] (fun u S' => u = .int .i64 s.sent ∧ S' = [[(b, .cells (x.cn ps pr).enc 167 (0, 0))], [(ps, .cells s.enc 162 (0, 0))], [(pr, .cells r.enc 165 (0, 0))]]) := by
  have ok0 := ok
  have okS : s.Ok := ok.s
  have okR : r.Ok := ok.r
  obtain ⟨x1, x2, x3, x4, x5, x6, x7⟩ := ok.x
  obtain ⟨k1, k2, k3, k4, k5, k6, k7, k8⟩ := ok.s
  obtain ⟨j1, j2, j3, j4, j5, j6, j7, j8⟩ := ok.r
  dsimp only at x1 x2 x3 x4 x5 x6 x7 k1 k2 k3 k4 k5 k6 k7 k8 j1 j2 j3 j4 j5 j6 j7 j8
  refine fn_entry (args := [.pointer (some ⟨b, 0, none⟩)]) Tryz.func186 rfl Tryz.ntmps186 rfl (fun w0 => ?_)
  refine c_seq ?_
  refine c_region ?_
  refine o_L (y_assign rfl) rfl rfl ?_
  refine o_nil0 rfl ?_
  refine c_seq ?_
  refine c_region ?_
  refine o_T (y_move rfl) rfl ?_
  refine o_T (y_nilck rfl) rfl ?_
  refine o_T (y_fa fl_167_0 rfl) rfl ?_
  refine o_ld one_102 rfl m0 Cn.g0 rfl ?_
  refine o_callrv en_110 rfl (t110 _ _ (by assumption)) (s_skip (s_take s_nil)) rfl ?_
  refine o_L (y_assign rfl) rfl rfl ?_
  refine o_nil0 rfl ?_
  refine c_seq ?_
  refine c_region ?_
  refine o_T (y_move rfl) rfl ?_
  refine o_T (y_nilck rfl) rfl ?_
  refine o_T (y_fa fl_167_0 rfl) rfl ?_
  refine o_ld one_102 rfl m0 Cn.g0 rfl ?_
  refine o_callrv en_111 rfl (t111 _ _ (by assumption)) (s_skip (s_take s_nil)) rfl ?_
  refine o_L (y_assign rfl) rfl rfl ?_
  refine o_nil0 rfl ?_
  refine c_seq ?_
  refine c_region ?_
  refine o_T (y_move rfl) rfl ?_
  refine o_T (y_move rfl) rfl ?_
  refine o_T (y_sub rfl rfl (w64 (by unfold Sb.unsent; omega))) rfl ?_
  refine o_L (y_assign rfl) rfl rfl ?_
  refine o_nil0 rfl ?_
  refine c_ret ?_
  refine fun aX wX heX hsX => ret1 Tryz.results186 heX rfl (s_take (s_take (s_take s_nil))) ?_
  exact ⟨congrArg (Value.int .i64) (by unfold Sb.unsent; omega), rfl⟩
theorem u186 (b ps pr : Nat) (k : Cn) (hk1 : k.sb = ptr ps) (hk2 : k.rb = ptr pr) (s : Sb) (r : Rb)  (ok : Conn.Ok ⟨(Cn.cs k), s, r⟩) : Trip Tryz.prog 186 #[.pointer (some ⟨b, 0, none⟩)] [[(b, .cells k.enc 167 (0, 0))], [(ps, .cells s.enc 162 (0, 0))], [(pr, .cells r.enc 165 (0, 0))]] (fun u S' => u = .int .i64 s.sent ∧ S' = [[(b, .cells k.enc 167 (0, 0))], [(ps, .cells s.enc 162 (0, 0))], [(pr, .cells r.enc 165 (0, 0))]]) := by
  obtain ⟨a1, a2, a3, a4, a5, a6, a7, a8, a9, a10, a11, a12, a13, a14⟩ := k
  dsimp only at hk1 hk2
  subst hk1 hk2
  exact t186 b ps pr (Cs.mk a3 a4 a5 a6 a7 a8 a9 a10 a11 a12 a13 a14) s r ok

/-- (*e2e/conn.Conn).flying -/
theorem t144 (b ps pr : Nat) (x : Cs) (s : Sb) (r : Rb)  (ok : Conn.Ok ⟨x, s, r⟩) : Trip Tryz.prog 144 #[.pointer (some ⟨b, 0, none⟩)] [[(b, .cells (x.cn ps pr).enc 167 (0, 0))], [(ps, .cells s.enc 162 (0, 0))], [(pr, .cells r.enc 165 (0, 0))]] (fun u S' => u = .int .i64 (⟨x, s, r⟩ : Conn).flying ∧ S' = [[(b, .cells (x.cn ps pr).enc 167 (0, 0))], [(ps, .cells s.enc 162 (0, 0))], [(pr, .cells r.enc 165 (0, 0))]]) := by
  have ok0 := ok
  have okS : s.Ok := ok.s
  have okR : r.Ok := ok.r
  obtain ⟨x1, x2, x3, x4, x5, x6, x7⟩ := ok.x
  obtain ⟨k1, k2, k3, k4, k5, k6, k7, k8⟩ := ok.s
  obtain ⟨j1, j2, j3, j4, j5, j6, j7, j8⟩ := ok.r
  dsimp only at x1 x2 x3 x4 x5 x6 x7 k1 k2 k3 k4 k5 k6 k7 k8 j1 j2 j3 j4 j5 j6 j7 j8
  refine fn_entry (args := [.pointer (some ⟨b, 0, none⟩)]) Tryz.func144 rfl Tryz.ntmps144 rfl (fun w0 => ?_)
  refine c_seq ?_
  refine c_region ?_
  refine o_L (y_assign rfl) rfl rfl ?_
  refine o_nil0 rfl ?_
  refine c_seq ?_
  refine c_seq ?_
  refine c_region ?_
  refine o_T (y_move rfl) rfl ?_
  refine o_T (y_nilck rfl) rfl ?_
  refine o_T (y_fa fl_167_2 rfl) rfl ?_
  refine o_ld one_3 rfl m0 Cn.g2 rfl ?_
  refine o_T (y_eql rfl rfl) rfl ?_
  refine o_T (y_move rfl) rfl ?_
  refine o_split 9 rfl (fun h58 => ?_) (fun h58 => ?_)
  · try simp only [decide_eq_true_eq, decide_eq_false_iff_not, Bool.not_eq_true', Bool.not_eq_false', Int.not_lt, Int.not_le, Decidable.not_not, beq_iff_eq, bne_iff_ne, ne_eq, beq_eq_false_iff_ne] at h58
    refine o_pass rfl rfl rfl rfl rfl ?_
    refine o_pass rfl rfl rfl rfl rfl ?_
    refine o_pass rfl rfl rfl rfl rfl ?_
    refine o_pass rfl rfl rfl rfl rfl ?_
    refine o_pass rfl rfl rfl rfl rfl ?_
    refine o_T (y_pickT rfl rfl) rfl ?_
    refine o_nil1 15 rfl rfl ?_
    refine c_condT rfl ?_
    refine c_seq ?_
    refine c_region ?_
    refine o_L (y_assign rfl) rfl rfl ?_
    refine o_nil0 rfl ?_
    refine c_ret ?_
    refine fun aX wX heX hsX => ret1 Tryz.results144 heX rfl (s_take (s_take (s_take s_nil))) ?_
    exact ⟨congrArg (Value.int .i64) (by simp only [Conn.flying]; simp_all), rfl⟩
  · try simp only [decide_eq_true_eq, decide_eq_false_iff_not, Bool.not_eq_true', Bool.not_eq_false', Int.not_lt, Int.not_le, Decidable.not_not, beq_iff_eq, bne_iff_ne, ne_eq, beq_eq_false_iff_ne] at h58
    refine o_take rfl rfl rfl ?_
    refine o_T (y_move rfl) rfl ?_
    refine o_take rfl rfl rfl ?_
    refine o_T (y_nilck rfl) rfl ?_
    refine o_take rfl rfl rfl ?_
    refine o_T (y_fa fl_167_2 rfl) rfl ?_
    refine o_take rfl rfl rfl ?_
    refine o_ld one_3 rfl m0 Cn.g2 rfl ?_
    refine o_take rfl rfl rfl ?_
    refine o_T (y_eql rfl rfl) rfl ?_
    refine o_T (y_pickF rfl rfl) rfl ?_
    refine o_nil1 15 rfl rfl ?_
    refine c_cond rfl (fun h58_1 => ?_) (fun h58_1 => ?_)
    · try simp only [decide_eq_true_eq, decide_eq_false_iff_not, Bool.not_eq_true', Bool.not_eq_false', Int.not_lt, Int.not_le, Decidable.not_not, beq_iff_eq, bne_iff_ne, ne_eq, beq_eq_false_iff_ne] at h58_1
      refine c_seq ?_
      refine c_region ?_
      refine o_L (y_assign rfl) rfl rfl ?_
      refine o_nil0 rfl ?_
      refine c_ret ?_
      refine fun aX wX heX hsX => ret1 Tryz.results144 heX rfl (s_take (s_take (s_take s_nil))) ?_
      exact ⟨congrArg (Value.int .i64) (by simp only [Conn.flying]; simp_all), rfl⟩
    · try simp only [decide_eq_true_eq, decide_eq_false_iff_not, Bool.not_eq_true', Bool.not_eq_false', Int.not_lt, Int.not_le, Decidable.not_not, beq_iff_eq, bne_iff_ne, ne_eq, beq_eq_false_iff_ne] at h58_1
      refine c_skip ?_
      refine c_seq ?_
      refine c_region ?_
      refine o_T (y_move rfl) rfl ?_
      refine o_callrv en_186 rfl (t186 _ ps pr x _ _ ok0) (s_take (s_take (s_take s_nil))) rfl ?_
      refine o_L (y_assign rfl) rfl rfl ?_
      refine o_nil0 rfl ?_
      refine c_seq ?_
      refine c_seq ?_
      refine c_region ?_
      refine o_T (y_move rfl) rfl ?_
      refine o_T (y_nilck rfl) rfl ?_
      refine o_T (y_fa fl_167_5 rfl) rfl ?_
      refine o_ld one_4 rfl m0 Cn.g5 rfl ?_
      refine o_T (y_move rfl) rfl ?_
      refine o_split 22 rfl (fun h62 => ?_) (fun h62 => ?_)
      · try simp only [decide_eq_true_eq, decide_eq_false_iff_not, Bool.not_eq_true', Bool.not_eq_false', Int.not_lt, Int.not_le, Decidable.not_not, beq_iff_eq, bne_iff_ne, ne_eq, beq_eq_false_iff_ne] at h62
        refine o_take rfl rfl rfl ?_
        refine o_T (y_move rfl) rfl ?_
        refine o_take rfl rfl rfl ?_
        refine o_T (y_nilck rfl) rfl ?_
        refine o_take rfl rfl rfl ?_
        refine o_T (y_fa fl_167_6 rfl) rfl ?_
        refine o_take rfl rfl rfl ?_
        refine o_ld one_4 rfl m0 Cn.g6 rfl ?_
        refine o_take rfl rfl rfl ?_
        refine o_T (y_not rfl) rfl ?_
        refine o_T (y_pickT rfl rfl) rfl ?_
        refine o_nil1 28 rfl rfl ?_
        refine c_cond rfl (fun h62_1 => ?_) (fun h62_1 => ?_)
        · try simp only [decide_eq_true_eq, decide_eq_false_iff_not, Bool.not_eq_true', Bool.not_eq_false', Int.not_lt, Int.not_le, Decidable.not_not, beq_iff_eq, bne_iff_ne, ne_eq, beq_eq_false_iff_ne] at h62_1
          refine c_region ?_
          refine o_T (y_move rfl) rfl ?_
          refine o_T (y_add rfl rfl (w64 (by omega))) rfl ?_
          refine o_L (y_assign rfl) rfl rfl ?_
          refine o_nil0 rfl ?_
          refine c_seq ?_
          refine c_region ?_
          refine o_T (y_move rfl) rfl ?_
          refine o_L (y_assign rfl) rfl rfl ?_
          refine o_nil0 rfl ?_
          refine c_ret ?_
          refine fun aX wX heX hsX => ret1 Tryz.results144 heX rfl (s_take (s_take (s_take s_nil))) ?_
          exact ⟨congrArg (Value.int .i64) (by simp only [Conn.flying]; simp_all), rfl⟩
        · try simp only [decide_eq_true_eq, decide_eq_false_iff_not, Bool.not_eq_true', Bool.not_eq_false', Int.not_lt, Int.not_le, Decidable.not_not, beq_iff_eq, bne_iff_ne, ne_eq, beq_eq_false_iff_ne] at h62_1
          refine c_skip ?_
          refine c_seq ?_
          refine c_region ?_
          refine o_T (y_move rfl) rfl ?_
          refine o_L (y_assign rfl) rfl rfl ?_
          refine o_nil0 rfl ?_
          refine c_ret ?_
          refine fun aX wX heX hsX => ret1 Tryz.results144 heX rfl (s_take (s_take (s_take s_nil))) ?_
          exact ⟨congrArg (Value.int .i64) (by simp only [Conn.flying]; simp_all), rfl⟩
      · try simp only [decide_eq_true_eq, decide_eq_false_iff_not, Bool.not_eq_true', Bool.not_eq_false', Int.not_lt, Int.not_le, Decidable.not_not, beq_iff_eq, bne_iff_ne, ne_eq, beq_eq_false_iff_ne] at h62
        refine o_pass rfl rfl rfl rfl rfl ?_
        refine o_pass rfl rfl rfl rfl rfl ?_
        refine o_pass rfl rfl rfl rfl rfl ?_
        refine o_pass rfl rfl rfl rfl rfl ?_
        refine o_pass rfl rfl rfl rfl rfl ?_
        refine o_T (y_pickF rfl rfl) rfl ?_
        refine o_nil1 28 rfl rfl ?_
        refine c_condF rfl ?_
        refine c_skip ?_
        refine c_seq ?_
        refine c_region ?_
        refine o_T (y_move rfl) rfl ?_
        refine o_L (y_assign rfl) rfl rfl ?_
        refine o_nil0 rfl ?_
        refine c_ret ?_
        refine fun aX wX heX hsX => ret1 Tryz.results144 heX rfl (s_take (s_take (s_take s_nil))) ?_
        exact ⟨congrArg (Value.int .i64) (by simp only [Conn.flying]; simp_all), rfl⟩
theorem u144 (b ps pr : Nat) (k : Cn) (hk1 : k.sb = ptr ps) (hk2 : k.rb = ptr pr) (s : Sb) (r : Rb)  (ok : Conn.Ok ⟨(Cn.cs k), s, r⟩) : Trip Tryz.prog 144 #[.pointer (some ⟨b, 0, none⟩)] [[(b, .cells k.enc 167 (0, 0))], [(ps, .cells s.enc 162 (0, 0))], [(pr, .cells r.enc 165 (0, 0))]] (fun u S' => u = .int .i64 (⟨(Cn.cs k), s, r⟩ : Conn).flying ∧ S' = [[(b, .cells k.enc 167 (0, 0))], [(ps, .cells s.enc 162 (0, 0))], [(pr, .cells r.enc 165 (0, 0))]]) := by
  obtain ⟨a1, a2, a3, a4, a5, a6, a7, a8, a9, a10, a11, a12, a13, a14⟩ := k
  dsimp only at hk1 hk2
  subst hk1 hk2
  exact t144 b ps pr (Cs.mk a3 a4 a5 a6 a7 a8 a9 a10 a11 a12 a13 a14) s r ok

/-- (*e2e/conn.Conn).sndUna -/
theorem t107 (b ps pr : Nat) (x : Cs) (s : Sb) (r : Rb)  (ok : Conn.Ok ⟨x, s, r⟩) : Trip Tryz.prog 107 #[.pointer (some ⟨b, 0, none⟩)] [[(b, .cells (x.cn ps pr).enc 167 (0, 0))], [(ps, .cells s.enc 162 (0, 0))], [(pr, .cells r.enc 165 (0, 0))]] (fun u S' => u = .int .i64 (⟨x, s, r⟩ : Conn).sndUna ∧ S' = [[(b, .cells (x.cn ps pr).enc 167 (0, 0))], [(ps, .cells s.enc 162 (0, 0))], [(pr, .cells r.enc 165 (0, 0))]]) := by
  have ok0 := ok
  have okS : s.Ok := ok.s
  have okR : r.Ok := ok.r
  obtain ⟨x1, x2, x3, x4, x5, x6, x7⟩ := ok.x
  obtain ⟨k1, k2, k3, k4, k5, k6, k7, k8⟩ := ok.s
  obtain ⟨j1, j2, j3, j4, j5, j6, j7, j8⟩ := ok.r
  dsimp only at x1 x2 x3 x4 x5 x6 x7 k1 k2 k3 k4 k5 k6 k7 k8 j1 j2 j3 j4 j5 j6 j7 j8
  refine fn_entry (args := [.pointer (some ⟨b, 0, none⟩)]) Tryz.func107 rfl Tryz.ntmps107 rfl (fun w0 => ?_)
  refine c_seq ?_
  refine c_region ?_
  refine o_L (y_assign rfl) rfl rfl ?_
  refine o_nil0 rfl ?_
  refine c_seq ?_
  refine c_region ?_
  refine o_T (y_move rfl) rfl ?_
  refine o_T (y_nilck rfl) rfl ?_
  refine o_T (y_fa fl_167_0 rfl) rfl ?_
  refine o_ld one_102 rfl m0 Cn.g0 rfl ?_
  refine o_callrv en_142 rfl (t142 _ _ (by assumption)) (s_skip (s_take s_nil)) rfl ?_
  refine o_L (y_assign rfl) rfl rfl ?_
  refine o_nil0 rfl ?_
  refine c_seq ?_
  refine c_seq ?_
  refine c_region ?_
  refine o_T (y_move rfl) rfl ?_
  refine o_T (y_nilck rfl) rfl ?_
  refine o_T (y_fa fl_167_6 rfl) rfl ?_
  refine o_ld one_4 rfl m0 Cn.g6 rfl ?_
  refine o_nil1 12 rfl rfl ?_
  refine c_cond rfl (fun h71 => ?_) (fun h71 => ?_)
  · try simp only [decide_eq_true_eq, decide_eq_false_iff_not, Bool.not_eq_true', Bool.not_eq_false', Int.not_lt, Int.not_le, Decidable.not_not, beq_iff_eq, bne_iff_ne, ne_eq, beq_eq_false_iff_ne] at h71
    refine c_seq ?_
    refine c_region ?_
    refine o_T (y_move rfl) rfl ?_
    refine o_callv en_143 rfl (t143 _ _) rfl ?_
    refine o_L (y_assign rfl) rfl rfl ?_
    refine o_nil0 rfl ?_
    refine c_ret ?_
    refine fun aX wX heX hsX => ret1 Tryz.results107 heX rfl (s_take (s_take (s_take s_nil))) ?_
    exact ⟨congrArg (Value.int .i64) (by simp only [Conn.sndUna]; simp_all), rfl⟩
  · try simp only [decide_eq_true_eq, decide_eq_false_iff_not, Bool.not_eq_true', Bool.not_eq_false', Int.not_lt, Int.not_le, Decidable.not_not, beq_iff_eq, bne_iff_ne, ne_eq, beq_eq_false_iff_ne] at h71
    refine c_skip ?_
    refine c_seq ?_
    refine c_region ?_
    refine o_T (y_move rfl) rfl ?_
    refine o_L (y_assign rfl) rfl rfl ?_
    refine o_nil0 rfl ?_
    refine c_ret ?_
    refine fun aX wX heX hsX => ret1 Tryz.results107 heX rfl (s_take (s_take (s_take s_nil))) ?_
    exact ⟨congrArg (Value.int .i64) (by simp only [Conn.sndUna]; simp_all), rfl⟩
theorem u107 (b ps pr : Nat) (k : Cn) (hk1 : k.sb = ptr ps) (hk2 : k.rb = ptr pr) (s : Sb) (r : Rb)  (ok : Conn.Ok ⟨(Cn.cs k), s, r⟩) : Trip Tryz.prog 107 #[.pointer (some ⟨b, 0, none⟩)] [[(b, .cells k.enc 167 (0, 0))], [(ps, .cells s.enc 162 (0, 0))], [(pr, .cells r.enc 165 (0, 0))]] (fun u S' => u = .int .i64 (⟨(Cn.cs k), s, r⟩ : Conn).sndUna ∧ S' = [[(b, .cells k.enc 167 (0, 0))], [(ps, .cells s.enc 162 (0, 0))], [(pr, .cells r.enc 165 (0, 0))]]) := by
  obtain ⟨a1, a2, a3, a4, a5, a6, a7, a8, a9, a10, a11, a12, a13, a14⟩ := k
  dsimp only at hk1 hk2
  subst hk1 hk2
  exact t107 b ps pr (Cs.mk a3 a4 a5 a6 a7 a8 a9 a10 a11 a12 a13 a14) s r ok

/-- (*e2e/conn.Conn).sndNxt -/
theorem t108 (b ps pr : Nat) (x : Cs) (s : Sb) (r : Rb)  (ok : Conn.Ok ⟨x, s, r⟩) : Trip Tryz.prog 108 #[.pointer (some ⟨b, 0, none⟩)] [[(b, .cells (x.cn ps pr).enc 167 (0, 0))], [(ps, .cells s.enc 162 (0, 0))], [(pr, .cells r.enc 165 (0, 0))]] (fun u S' => u = .int .i64 (⟨x, s, r⟩ : Conn).sndNxt ∧ S' = [[(b, .cells (x.cn ps pr).enc 167 (0, 0))], [(ps, .cells s.enc 162 (0, 0))], [(pr, .cells r.enc 165 (0, 0))]]) := by
  have ok0 := ok
  have okS : s.Ok := ok.s
  have okR : r.Ok := ok.r
  obtain ⟨x1, x2, x3, x4, x5, x6, x7⟩ := ok.x
  obtain ⟨k1, k2, k3, k4, k5, k6, k7, k8⟩ := ok.s
  obtain ⟨j1, j2, j3, j4, j5, j6, j7, j8⟩ := ok.r
  dsimp only at x1 x2 x3 x4 x5 x6 x7 k1 k2 k3 k4 k5 k6 k7 k8 j1 j2 j3 j4 j5 j6 j7 j8
  refine fn_entry (args := [.pointer (some ⟨b, 0, none⟩)]) Tryz.func108 rfl Tryz.ntmps108 rfl (fun w0 => ?_)
  refine c_seq ?_
  refine c_region ?_
  refine o_L (y_assign rfl) rfl rfl ?_
  refine o_nil0 rfl ?_
  refine c_seq ?_
  refine c_region ?_
  refine o_T (y_move rfl) rfl ?_
  refine o_callrv en_107 rfl (t107 _ ps pr x _ _ ok0) (s_take (s_take (s_take s_nil))) rfl ?_
  refine o_L (y_assign rfl) rfl rfl ?_
  refine o_nil0 rfl ?_
  refine c_seq ?_
  refine c_region ?_
  refine o_T (y_move rfl) rfl ?_
  refine o_callrv en_144 rfl (t144 _ ps pr x _ _ ok0) (s_take (s_take (s_take s_nil))) rfl ?_
  refine o_L (y_assign rfl) rfl rfl ?_
  refine o_nil0 rfl ?_
  refine c_seq ?_
  refine c_region ?_
  refine o_T (y_move rfl) rfl ?_
  refine o_T (y_move rfl) rfl ?_
  refine o_callv en_143 rfl (t143 _ _) rfl ?_
  refine o_L (y_assign rfl) rfl rfl ?_
  refine o_nil0 rfl ?_
  refine c_ret ?_
  refine fun aX wX heX hsX => ret1 Tryz.results108 heX rfl (s_take (s_take (s_take s_nil))) ?_
  exact ⟨rfl, rfl⟩
theorem u108 (b ps pr : Nat) (k : Cn) (hk1 : k.sb = ptr ps) (hk2 : k.rb = ptr pr) (s : Sb) (r : Rb)  (ok : Conn.Ok ⟨(Cn.cs k), s, r⟩) : Trip Tryz.prog 108 #[.pointer (some ⟨b, 0, none⟩)] [[(b, .cells k.enc 167 (0, 0))], [(ps, .cells s.enc 162 (0, 0))], [(pr, .cells r.enc 165 (0, 0))]] (fun u S' => u = .int .i64 (⟨(Cn.cs k), s, r⟩ : Conn).sndNxt ∧ S' = [[(b, .cells k.enc 167 (0, 0))], [(ps, .cells s.enc 162 (0, 0))], [(pr, .cells r.enc 165 (0, 0))]]) := by
  obtain ⟨a1, a2, a3, a4, a5, a6, a7, a8, a9, a10, a11, a12, a13, a14⟩ := k
  dsimp only at hk1 hk2
  subst hk1 hk2
  exact t108 b ps pr (Cs.mk a3 a4 a5 a6 a7 a8 a9 a10 a11 a12 a13 a14) s r ok

/-- (*e2e/conn.Conn).rcvNxt -/
theorem t109 (b ps pr : Nat) (x : Cs) (s : Sb) (r : Rb)  (ok : Conn.Ok ⟨x, s, r⟩) : Trip Tryz.prog 109 #[.pointer (some ⟨b, 0, none⟩)] [[(b, .cells (x.cn ps pr).enc 167 (0, 0))], [(ps, .cells s.enc 162 (0, 0))], [(pr, .cells r.enc 165 (0, 0))]] (fun u S' => u = .int .i64 (⟨x, s, r⟩ : Conn).rcvNxt ∧ S' = [[(b, .cells (x.cn ps pr).enc 167 (0, 0))], [(ps, .cells s.enc 162 (0, 0))], [(pr, .cells r.enc 165 (0, 0))]]) := by
  have ok0 := ok
  have okS : s.Ok := ok.s
  have okR : r.Ok := ok.r
  obtain ⟨x1, x2, x3, x4, x5, x6, x7⟩ := ok.x
  obtain ⟨k1, k2, k3, k4, k5, k6, k7, k8⟩ := ok.s
  obtain ⟨j1, j2, j3, j4, j5, j6, j7, j8⟩ := ok.r
  dsimp only at x1 x2 x3 x4 x5 x6 x7 k1 k2 k3 k4 k5 k6 k7 k8 j1 j2 j3 j4 j5 j6 j7 j8
  refine fn_entry (args := [.pointer (some ⟨b, 0, none⟩)]) Tryz.func109 rfl Tryz.ntmps109 rfl (fun w0 => ?_)
  refine c_seq ?_
  refine c_region ?_
  refine o_L (y_assign rfl) rfl rfl ?_
  refine o_nil0 rfl ?_
  refine c_seq ?_
  refine c_region ?_
  refine o_T (y_move rfl) rfl ?_
  refine o_T (y_nilck rfl) rfl ?_
  refine o_T (y_fa fl_167_1 rfl) rfl ?_
  refine o_ld one_104 rfl m0 Cn.g1 rfl ?_
  refine o_callrv en_145 rfl (t145 _ _ (by assumption)) (s_skip (s_skip (s_take s_nil))) rfl ?_
  refine o_L (y_assign rfl) rfl rfl ?_
  refine o_nil0 rfl ?_
  refine c_seq ?_
  refine c_seq ?_
  refine c_region ?_
  refine o_T (y_move rfl) rfl ?_
  refine o_T (y_nilck rfl) rfl ?_
  refine o_T (y_fa fl_167_7 rfl) rfl ?_
  refine o_ld one_4 rfl m0 Cn.g7 rfl ?_
  refine o_nil1 12 rfl rfl ?_
  refine c_cond rfl (fun h87 => ?_) (fun h87 => ?_)
  · try simp only [decide_eq_true_eq, decide_eq_false_iff_not, Bool.not_eq_true', Bool.not_eq_false', Int.not_lt, Int.not_le, Decidable.not_not, beq_iff_eq, bne_iff_ne, ne_eq, beq_eq_false_iff_ne] at h87
    refine c_seq ?_
    refine c_region ?_
    refine o_T (y_move rfl) rfl ?_
    refine o_callv en_143 rfl (t143 _ _) rfl ?_
    refine o_L (y_assign rfl) rfl rfl ?_
    refine o_nil0 rfl ?_
    refine c_ret ?_
    refine fun aX wX heX hsX => ret1 Tryz.results109 heX rfl (s_take (s_take (s_take s_nil))) ?_
    exact ⟨congrArg (Value.int .i64) (by simp only [Conn.rcvNxt]; simp_all), rfl⟩
  · try simp only [decide_eq_true_eq, decide_eq_false_iff_not, Bool.not_eq_true', Bool.not_eq_false', Int.not_lt, Int.not_le, Decidable.not_not, beq_iff_eq, bne_iff_ne, ne_eq, beq_eq_false_iff_ne] at h87
    refine c_skip ?_
    refine c_seq ?_
    refine c_region ?_
    refine o_T (y_move rfl) rfl ?_
    refine o_L (y_assign rfl) rfl rfl ?_
    refine o_nil0 rfl ?_
    refine c_ret ?_
    refine fun aX wX heX hsX => ret1 Tryz.results109 heX rfl (s_take (s_take (s_take s_nil))) ?_
    exact ⟨congrArg (Value.int .i64) (by simp only [Conn.rcvNxt]; simp_all), rfl⟩
theorem u109 (b ps pr : Nat) (k : Cn) (hk1 : k.sb = ptr ps) (hk2 : k.rb = ptr pr) (s : Sb) (r : Rb)  (ok : Conn.Ok ⟨(Cn.cs k), s, r⟩) : Trip Tryz.prog 109 #[.pointer (some ⟨b, 0, none⟩)] [[(b, .cells k.enc 167 (0, 0))], [(ps, .cells s.enc 162 (0, 0))], [(pr, .cells r.enc 165 (0, 0))]] (fun u S' => u = .int .i64 (⟨(Cn.cs k), s, r⟩ : Conn).rcvNxt ∧ S' = [[(b, .cells k.enc 167 (0, 0))], [(ps, .cells s.enc 162 (0, 0))], [(pr, .cells r.enc 165 (0, 0))]]) := by
  obtain ⟨a1, a2, a3, a4, a5, a6, a7, a8, a9, a10, a11, a12, a13, a14⟩ := k
  dsimp only at hk1 hk2
  subst hk1 hk2
  exact t109 b ps pr (Cs.mk a3 a4 a5 a6 a7 a8 a9 a10 a11 a12 a13 a14) s r ok

/-- (*e2e/conn.Conn).wipe -/
theorem t165 (b ps pr : Nat) (x : Cs) (s : Sb) (r : Rb)  (ok : Conn.Ok ⟨x, s, r⟩) : Trip Tryz.prog 165 #[.pointer (some ⟨b, 0, none⟩)] [[(b, .cells (x.cn ps pr).enc 167 (0, 0))], [(ps, .cells s.enc 162 (0, 0))], [(pr, .cells r.enc 165 (0, 0))]] (fun u S' => u = .tuple #[] ∧ S' = [[(b, .cells ((Conn.wipe ⟨x, s, r⟩).x.cn ps pr).enc 167 (0, 0))], [(ps, .cells (Conn.wipe ⟨x, s, r⟩).s.enc 162 (0, 0))], [(pr, .cells (Conn.wipe ⟨x, s, r⟩).r.enc 165 (0, 0))]] ∧ (Conn.wipe ⟨x, s, r⟩).Ok) := by
  have ok0 := ok
  have okS : s.Ok := ok.s
  have okR : r.Ok := ok.r
  obtain ⟨x1, x2, x3, x4, x5, x6, x7⟩ := ok.x
  obtain ⟨k1, k2, k3, k4, k5, k6, k7, k8⟩ := ok.s
  obtain ⟨j1, j2, j3, j4, j5, j6, j7, j8⟩ := ok.r
  dsimp only at x1 x2 x3 x4 x5 x6 x7 k1 k2 k3 k4 k5 k6 k7 k8 j1 j2 j3 j4 j5 j6 j7 j8
  refine fn_entry (args := [.pointer (some ⟨b, 0, none⟩)]) Tryz.func165 rfl Tryz.ntmps165 rfl (fun w0 => ?_)
  refine c_seq ?_
  refine c_region ?_
  refine o_T (y_move rfl) rfl ?_
  refine o_T (y_nilck rfl) rfl ?_
  refine o_T (y_fa fl_167_0 rfl) rfl ?_
  refine o_ld one_102 rfl m0 Cn.g0 rfl ?_
  refine o_call en_201 rfl (t201 _ _ _ (by assumption)) (s_skip (s_take s_nil)) rfl ?_
  rintro v S' ⟨rfl, rfl, hk_1⟩
  refine o_nil0 rfl ?_
  refine c_seq ?_
  refine c_region ?_
  refine o_T (y_move rfl) rfl ?_
  refine o_T (y_nilck rfl) rfl ?_
  refine o_T (y_fa fl_167_1 rfl) rfl ?_
  refine o_ld one_104 rfl (ms m0) Cn.g1 rfl ?_
  refine o_call en_197 rfl (t197 _ _ _ (by assumption)) (s_skip (s_skip (s_take s_nil))) rfl ?_
  rintro v S' ⟨rfl, rfl, hk_2⟩
  refine o_nil0 rfl ?_
  refine c_draw #[true, true, true, true, true, true, true, true, true, false, true, false] rfl (n := 12) rfl ?_
  refine d_T 0 rfl (by kernel_rfl) rfl (y_move rfl) rfl ?_
  refine d_T 1 rfl (by kernel_rfl) rfl (y_move rfl) rfl ?_
  refine d_T 2 rfl (by kernel_rfl) rfl (y_nilck rfl) rfl ?_
  refine d_T 3 rfl (by kernel_rfl) rfl (y_fa fl_167_0 rfl) rfl ?_
  refine d_ld 4 rfl (by kernel_rfl) one_102 rfl (fun x hx => hx) (ms (ms m0)) Cn.g0 rfl ?_
  refine d_T 5 rfl (by kernel_rfl) rfl (y_move rfl) rfl ?_
  refine d_T 6 rfl (by kernel_rfl) rfl (y_nilck rfl) rfl ?_
  refine d_T 7 rfl (by kernel_rfl) rfl (y_fa fl_167_1 rfl) rfl ?_
  refine d_ld 8 rfl (by kernel_rfl) one_104 rfl (fun x hx => hx) (ms (ms m0)) Cn.g1 rfl ?_
  refine d_hard 9 rfl (by kernel_rfl) ?_
  refine o_T (y_build st_167 rfl (fb rfl rfl rfl Cn.s0 (fb rfl rfl rfl Cn.s1 fb0))) rfl ?_
  refine o_stop (fun h => nomatch h) ?_
  refine d_T 10 rfl (by kernel_rfl) rfl (y_nilck rfl) rfl ?_
  refine d_hard 11 rfl (by kernel_rfl) ?_
  refine o_sta ag_167 rfl rfl rfl rfl (rs (rs r0)) (setAll_full _ _ rfl) (of_ble rfl) ?_
  refine o_stop (fun h => nomatch h) ?_
  refine d_nil0 (by kernel_rfl) rfl ?_
  refine fun aX wX heX hsX => ret0 Tryz.results165 (s_get (ks (ks k0)) (s_get (ks k0) (s_get k0 s_nil))) ?_
  exact ⟨rfl, rfl, Conn.ok_wipe ok0⟩
theorem u165 (b ps pr : Nat) (k : Cn) (hk1 : k.sb = ptr ps) (hk2 : k.rb = ptr pr) (s : Sb) (r : Rb)  (ok : Conn.Ok ⟨(Cn.cs k), s, r⟩) : Trip Tryz.prog 165 #[.pointer (some ⟨b, 0, none⟩)] [[(b, .cells k.enc 167 (0, 0))], [(ps, .cells s.enc 162 (0, 0))], [(pr, .cells r.enc 165 (0, 0))]] (fun u S' => u = .tuple #[] ∧ S' = [[(b, .cells ((Conn.wipe ⟨(Cn.cs k), s, r⟩).x.cn ps pr).enc 167 (0, 0))], [(ps, .cells (Conn.wipe ⟨(Cn.cs k), s, r⟩).s.enc 162 (0, 0))], [(pr, .cells (Conn.wipe ⟨(Cn.cs k), s, r⟩).r.enc 165 (0, 0))]] ∧ (Conn.wipe ⟨(Cn.cs k), s, r⟩).Ok) := by
  obtain ⟨a1, a2, a3, a4, a5, a6, a7, a8, a9, a10, a11, a12, a13, a14⟩ := k
  dsimp only at hk1 hk2
  subst hk1 hk2
  exact t165 b ps pr (Cs.mk a3 a4 a5 a6 a7 a8 a9 a10 a11 a12 a13 a14) s r ok

/-- (*e2e/conn.Conn).fail -/
theorem t166 (b ps pr : Nat) (x : Cs) (s : Sb) (r : Rb) (why : Int) (ok : Conn.Ok ⟨x, s, r⟩) : Trip Tryz.prog 166 #[.pointer (some ⟨b, 0, none⟩), .int .i64 why] [[(b, .cells (x.cn ps pr).enc 167 (0, 0))], [(ps, .cells s.enc 162 (0, 0))], [(pr, .cells r.enc 165 (0, 0))]] (fun u S' => u = .tuple #[] ∧ S' = [[(b, .cells ((Conn.fail ⟨x, s, r⟩ why).x.cn ps pr).enc 167 (0, 0))], [(ps, .cells (Conn.fail ⟨x, s, r⟩ why).s.enc 162 (0, 0))], [(pr, .cells (Conn.fail ⟨x, s, r⟩ why).r.enc 165 (0, 0))]] ∧ (Conn.fail ⟨x, s, r⟩ why).Ok) := by
  have ok0 := ok
  have okS : s.Ok := ok.s
  have okR : r.Ok := ok.r
  obtain ⟨x1, x2, x3, x4, x5, x6, x7⟩ := ok.x
  obtain ⟨k1, k2, k3, k4, k5, k6, k7, k8⟩ := ok.s
  obtain ⟨j1, j2, j3, j4, j5, j6, j7, j8⟩ := ok.r
  dsimp only at x1 x2 x3 x4 x5 x6 x7 k1 k2 k3 k4 k5 k6 k7 k8 j1 j2 j3 j4 j5 j6 j7 j8
  refine fn_entry (args := [.pointer (some ⟨b, 0, none⟩), .int .i64 why]) Tryz.func166 rfl Tryz.ntmps166 rfl (fun w0 => ?_)
  refine c_seq ?_
  refine c_region ?_
  refine o_T (y_move rfl) rfl ?_
  refine o_call en_165 rfl (t165 _ ps pr x _ _ ok0) (s_take (s_take (s_take s_nil))) rfl ?_
  rintro v S' ⟨rfl, rfl, hk_1⟩
  have hk_1_s := hk_1.s
  have hk_1_r := hk_1.r
  try dsimp only at hk_1_s hk_1_r
  refine o_nil0 rfl ?_
  refine c_seq ?_
  refine c_region ?_
  refine o_T (y_move rfl) rfl ?_
  refine o_T (y_nilck rfl) rfl ?_
  refine o_T (y_fa fl_167_2 rfl) rfl ?_
  refine o_st one_3 rfl rfl rfl r0 Cn.s2 (of_blt rfl) ?_
  refine o_nil0 rfl ?_
  refine c_seq ?_
  refine c_region ?_
  refine o_T (y_move rfl) rfl ?_
  refine o_T (y_move rfl) rfl ?_
  refine o_T (y_nilck rfl) rfl ?_
  refine o_T (y_fa fl_167_3 rfl) rfl ?_
  refine o_st one_70 rfl rfl rfl r0 Cn.s3 (of_blt rfl) ?_
  refine o_nil0 rfl ?_
  refine c_region ?_
  refine o_T (y_move rfl) rfl ?_
  refine o_T (y_nilck rfl) rfl ?_
  refine o_T (y_fa fl_167_13 rfl) rfl ?_
  refine o_st one_3 rfl rfl rfl r0 Cn.s13 (of_blt rfl) ?_
  refine o_nil0 rfl ?_
  refine fun aX wX heX hsX => ret0 Tryz.results166 (s_take (s_take (s_take s_nil))) ?_
  exact ⟨rfl, rfl, Conn.ok_fail ok0 why⟩
theorem u166 (b ps pr : Nat) (k : Cn) (hk1 : k.sb = ptr ps) (hk2 : k.rb = ptr pr) (s : Sb) (r : Rb) (why : Int) (ok : Conn.Ok ⟨(Cn.cs k), s, r⟩) : Trip Tryz.prog 166 #[.pointer (some ⟨b, 0, none⟩), .int .i64 why] [[(b, .cells k.enc 167 (0, 0))], [(ps, .cells s.enc 162 (0, 0))], [(pr, .cells r.enc 165 (0, 0))]] (fun u S' => u = .tuple #[] ∧ S' = [[(b, .cells ((Conn.fail ⟨(Cn.cs k), s, r⟩ why).x.cn ps pr).enc 167 (0, 0))], [(ps, .cells (Conn.fail ⟨(Cn.cs k), s, r⟩ why).s.enc 162 (0, 0))], [(pr, .cells (Conn.fail ⟨(Cn.cs k), s, r⟩ why).r.enc 165 (0, 0))]] ∧ (Conn.fail ⟨(Cn.cs k), s, r⟩ why).Ok) := by
  obtain ⟨a1, a2, a3, a4, a5, a6, a7, a8, a9, a10, a11, a12, a13, a14⟩ := k
  dsimp only at hk1 hk2
  subst hk1 hk2
  exact t166 b ps pr (Cs.mk a3 a4 a5 a6 a7 a8 a9 a10 a11 a12 a13 a14) s r why ok

/-- (*e2e/conn.Conn).arm -/
theorem t167 (b ps pr : Nat) (x : Cs) (ok : x.Ok) : Trip Tryz.prog 167 #[.pointer (some ⟨b, 0, none⟩)] [[(b, .cells (x.cn ps pr).enc 167 (0, 0))]] (fun u S' => u = .tuple #[] ∧ S' = [[(b, .cells (x.arm.cn ps pr).enc 167 (0, 0))]]) := by
  obtain ⟨x1, x2, x3, x4, x5, x6, x7⟩ := ok
  refine fn_entry (args := [.pointer (some ⟨b, 0, none⟩)]) Tryz.func167 rfl Tryz.ntmps167 rfl (fun w0 => ?_)
  refine c_seq ?_
  refine c_region ?_
  refine o_T (y_move rfl) rfl ?_
  refine o_T (y_nilck rfl) rfl ?_
  refine o_T (y_fa fl_167_10 rfl) rfl ?_
  refine o_ld one_3 rfl m0 Cn.g10 rfl ?_
  refine o_T (y_eql rfl rfl) rfl ?_
  refine o_nil1 6 rfl rfl ?_
  refine c_cond rfl (fun h46 => ?_) (fun h46 => ?_)
  · try simp only [decide_eq_true_eq, decide_eq_false_iff_not, Bool.not_eq_true', Bool.not_eq_false', Int.not_lt, Int.not_le, Decidable.not_not, beq_iff_eq, bne_iff_ne, ne_eq, beq_eq_false_iff_ne] at h46
    refine c_region ?_
    refine o_T (y_move rfl) rfl ?_
    refine o_T (y_move rfl) rfl ?_
    refine o_T (y_nilck rfl) rfl ?_
    refine o_T (y_fa fl_167_11 rfl) rfl ?_
    refine o_ld one_3 rfl m0 Cn.g11 rfl ?_
    refine o_T (y_conv Tryz.underlying3 Tryz.underlying131 rfl (w64ui (by omega))) rfl ?_
    refine o_T (y_shl rfl rfl (by omega) (arm_shl x5)) rfl ?_
    refine o_T (y_nilck rfl) rfl ?_
    refine o_T (y_fa fl_167_10 rfl) rfl ?_
    refine o_st one_3 rfl rfl rfl r0 Cn.s10 (of_blt rfl) ?_
    refine o_nil0 rfl ?_
    refine fun aX wX heX hsX => ret0 Tryz.results167 (s_take s_nil) ?_
    exact ⟨rfl, by simp only [Cs.arm]; rw [if_pos h46]; rfl⟩
  · try simp only [decide_eq_true_eq, decide_eq_false_iff_not, Bool.not_eq_true', Bool.not_eq_false', Int.not_lt, Int.not_le, Decidable.not_not, beq_iff_eq, bne_iff_ne, ne_eq, beq_eq_false_iff_ne] at h46
    refine c_skip ?_
    refine fun aX wX heX hsX => ret0 Tryz.results167 (s_take s_nil) ?_
    exact ⟨rfl, by simp only [Cs.arm]; rw [if_neg h46]⟩
theorem u167 (b ps pr : Nat) (k : Cn) (hk1 : k.sb = ptr ps) (hk2 : k.rb = ptr pr) (ok : (Cn.cs k).Ok) : Trip Tryz.prog 167 #[.pointer (some ⟨b, 0, none⟩)] [[(b, .cells k.enc 167 (0, 0))]] (fun u S' => u = .tuple #[] ∧ S' = [[(b, .cells ((Cn.cs k).arm.cn ps pr).enc 167 (0, 0))]]) := by
  obtain ⟨a1, a2, a3, a4, a5, a6, a7, a8, a9, a10, a11, a12, a13, a14⟩ := k
  dsimp only at hk1 hk2
  subst hk1 hk2
  exact t167 b ps pr (Cs.mk a3 a4 a5 a6 a7 a8 a9 a10 a11 a12 a13 a14) ok

/-- (*e2e/conn.Conn).mk -/
theorem t202n (b ps pr : Nat) (x : Cs) (s : Sb) (r : Rb) (flags seq : Int) (ok : Conn.Ok ⟨x, s, r⟩) (hf : flags = 1 ∨ flags = 2 ∨ flags = 3 ∨ flags = 6) : Trip Tryz.prog 202 #[.pointer (some ⟨b, 0, none⟩), .int .i64 flags, .int .i64 seq, .slice none 0 0] [[(b, .cells (x.cn ps pr).enc 167 (0, 0))], [(ps, .cells s.enc 162 (0, 0))], [(pr, .cells r.enc 165 (0, 0))]] (fun u S' => ∃ b2, u = .agg (segC b2 ((⟨x, s, r⟩ : Conn).mk' flags seq [])).enc ∧ S' = [byG b2 (((⟨x, s, r⟩ : Conn).mk' flags seq [])).data 5, [(b, .cells (x.cn ps pr).enc 167 (0, 0))], [(ps, .cells s.enc 162 (0, 0))], [(pr, .cells r.enc 165 (0, 0))]]) := by
  have ok0 := ok
  have okS : s.Ok := ok.s
  have okR : r.Ok := ok.r
  obtain ⟨x1, x2, x3, x4, x5, x6, x7⟩ := ok.x
  obtain ⟨k1, k2, k3, k4, k5, k6, k7, k8⟩ := ok.s
  obtain ⟨j1, j2, j3, j4, j5, j6, j7, j8⟩ := ok.r
  dsimp only at x1 x2 x3 x4 x5 x6 x7 k1 k2 k3 k4 k5 k6 k7 k8 j1 j2 j3 j4 j5 j6 j7 j8
  refine fn_entry (args := [.pointer (some ⟨b, 0, none⟩), .int .i64 flags, .int .i64 seq, .slice none 0 0]) Tryz.func202 rfl Tryz.ntmps202 rfl (fun w0 => ?_)
  refine c_seq ?_
  refine c_region ?_
  refine o_alloc ze_178 rfl rfl (fun b_1 => ?_)
  refine o_nil0 rfl ?_
  refine c_seq ?_
  refine c_seq ?_
  refine c_region ?_
  refine o_T (y_move rfl) rfl ?_
  refine o_T (y_slc_nil Tryz.underlying81 rfl rfl) rfl ?_
  refine o_nil1 12 rfl rfl ?_
  refine c_cond rfl (fun h7 => ?_) (fun h7 => ?_)
  · try simp only [decide_eq_true_eq, decide_eq_false_iff_not, Bool.not_eq_true', Bool.not_eq_false', Int.not_lt, Int.not_le, Decidable.not_not, beq_iff_eq, bne_iff_ne, ne_eq, beq_eq_false_iff_ne] at h7
    refine c_region ?_
    refine o_bs0 sz_81 rfl (fun b_2 => ?_)
    refine o_L (y_assign rfl) rfl rfl ?_
    refine o_nil0 rfl ?_
    refine c_seq ?_
    refine c_region ?_
    refine o_T (y_move rfl) rfl ?_
    refine o_T (y_nilck rfl) rfl ?_
    refine o_T (y_fa fl_167_1 rfl) rfl ?_
    refine o_ld one_104 rfl (ms (ms m0)) Cn.g1 rfl ?_
    refine o_callrv en_215 rfl (t215 _ _ (by assumption)) (s_skip (s_skip (s_skip (s_skip (s_take s_nil))))) rfl ?_
    refine o_L (y_assign rfl) rfl rfl ?_
    refine o_nil0 rfl ?_
    refine c_seq ?_
    refine c_region ?_
    refine o_T (y_move rfl) rfl ?_
    refine o_T (y_move rfl) rfl ?_
    refine o_T (y_move rfl) rfl ?_
    refine o_T (y_move rfl) rfl ?_
    refine o_T (y_build st_178 rfl (fb rfl rfl rfl Sg.s2 (fb rfl rfl rfl Sg.s4 (fb rfl rfl rfl Sg.s5 (fb rfl rfl rfl Sg.s6 fb0))))) rfl ?_
    refine o_alloc ze_178 rfl rfl (fun b_3 => ?_)
    refine o_sta ag_178 rfl rfl rfl rfl r0 (setAll_full _ _ rfl) (of_ble rfl) ?_
    refine o_nil0 rfl ?_
    refine c_seq ?_
    refine c_seq ?_
    refine c_region ?_
    refine o_T (y_move rfl) rfl ?_
    refine o_T (y_and rfl rfl (flag_ack hf)) rfl ?_
    refine o_T (y_neq rfl rfl) rfl ?_
    refine o_nil1 26 rfl rfl ?_
    refine c_cond rfl (fun h12 => ?_) (fun h12 => ?_)
    · try simp only [decide_eq_true_eq, decide_eq_false_iff_not, Bool.not_eq_true', Bool.not_eq_false', Int.not_lt, Int.not_le, Decidable.not_not, beq_iff_eq, bne_iff_ne, ne_eq, beq_eq_false_iff_ne] at h12
      refine c_region ?_
      refine o_T (y_move rfl) rfl ?_
      refine o_callrv en_109 rfl (t109 _ ps pr x _ _ ok0) (s_skip (s_skip (s_skip (s_take (s_take (s_take s_nil)))))) rfl ?_
      refine o_T (y_fa fl_178_3 rfl) rfl ?_
      refine o_st one_3 rfl rfl rfl r0 Sg.s3 (of_blt rfl) ?_
      refine o_nil0 rfl ?_
      refine c_seq ?_
      refine c_region ?_
      refine o_ldw ag_178 rfl m0 rfl rfl ?_
      refine o_sta ag_178 rfl rfl rfl rfl (rs (rs r0)) (setAll_full _ _ rfl) (of_ble rfl) ?_
      refine o_nil0 rfl ?_
      refine c_ret ?_
      refine fun aX wX heX hsX => retc Tryz.results202 heX hsX rfl ag_178 (ms (ms m0)) rfl (s_skip (s_take (s_skip (s_take (s_take (s_take s_nil)))))) ?_
      exact ⟨_, mk_one (c := (⟨x, s, r⟩ : Conn)) (data := []) h12, rfl⟩
    · try simp only [decide_eq_true_eq, decide_eq_false_iff_not, Bool.not_eq_true', Bool.not_eq_false', Int.not_lt, Int.not_le, Decidable.not_not, beq_iff_eq, bne_iff_ne, ne_eq, beq_eq_false_iff_ne] at h12
      refine c_skip ?_
      refine c_seq ?_
      refine c_region ?_
      refine o_ldw ag_178 rfl m0 rfl rfl ?_
      refine o_sta ag_178 rfl rfl rfl rfl (rs (rs r0)) (setAll_full _ _ rfl) (of_ble rfl) ?_
      refine o_nil0 rfl ?_
      refine c_ret ?_
      refine fun aX wX heX hsX => retc Tryz.results202 heX hsX rfl ag_178 (ms (ms m0)) rfl (s_skip (s_take (s_skip (s_take (s_take (s_take s_nil)))))) ?_
      exact ⟨_, mk_two (c := (⟨x, s, r⟩ : Conn)) (data := []) h12, rfl⟩
  · try simp only [decide_eq_true_eq, decide_eq_false_iff_not, Bool.not_eq_true', Bool.not_eq_false', Int.not_lt, Int.not_le, Decidable.not_not, beq_iff_eq, bne_iff_ne, ne_eq, beq_eq_false_iff_ne] at h7
    exact nomatch h7
theorem u202n (b ps pr : Nat) (k : Cn) (hk1 : k.sb = ptr ps) (hk2 : k.rb = ptr pr) (s : Sb) (r : Rb) (flags seq : Int) (ok : Conn.Ok ⟨(Cn.cs k), s, r⟩) (hf : flags = 1 ∨ flags = 2 ∨ flags = 3 ∨ flags = 6) : Trip Tryz.prog 202 #[.pointer (some ⟨b, 0, none⟩), .int .i64 flags, .int .i64 seq, .slice none 0 0] [[(b, .cells k.enc 167 (0, 0))], [(ps, .cells s.enc 162 (0, 0))], [(pr, .cells r.enc 165 (0, 0))]] (fun u S' => ∃ b2, u = .agg (segC b2 ((⟨(Cn.cs k), s, r⟩ : Conn).mk' flags seq [])).enc ∧ S' = [byG b2 (((⟨(Cn.cs k), s, r⟩ : Conn).mk' flags seq [])).data 5, [(b, .cells k.enc 167 (0, 0))], [(ps, .cells s.enc 162 (0, 0))], [(pr, .cells r.enc 165 (0, 0))]]) := by
  obtain ⟨a1, a2, a3, a4, a5, a6, a7, a8, a9, a10, a11, a12, a13, a14⟩ := k
  dsimp only at hk1 hk2
  subst hk1 hk2
  exact t202n b ps pr (Cs.mk a3 a4 a5 a6 a7 a8 a9 a10 a11 a12 a13 a14) s r flags seq ok hf

/-- (*e2e/conn.Conn).mk -/
theorem t202d (b ps pr : Nat) (x : Cs) (s : Sb) (r : Rb) (flags seq : Int) (b2 : Nat) (data : List Int) (ok : Conn.Ok ⟨x, s, r⟩) (hf : flags = 1 ∨ flags = 2 ∨ flags = 3 ∨ flags = 6) : Trip Tryz.prog 202 #[.pointer (some ⟨b, 0, none⟩), .int .i64 flags, .int .i64 seq, byV b2 data] [byG b2 data 5, [(b, .cells (x.cn ps pr).enc 167 (0, 0))], [(ps, .cells s.enc 162 (0, 0))], [(pr, .cells r.enc 165 (0, 0))]] (fun u S' => u = .agg (segC b2 ((⟨x, s, r⟩ : Conn).mk' flags seq data)).enc ∧ S' = [byG b2 data 5, [(b, .cells (x.cn ps pr).enc 167 (0, 0))], [(ps, .cells s.enc 162 (0, 0))], [(pr, .cells r.enc 165 (0, 0))]]) := by
  have ok0 := ok
  have okS : s.Ok := ok.s
  have okR : r.Ok := ok.r
  obtain ⟨x1, x2, x3, x4, x5, x6, x7⟩ := ok.x
  obtain ⟨k1, k2, k3, k4, k5, k6, k7, k8⟩ := ok.s
  obtain ⟨j1, j2, j3, j4, j5, j6, j7, j8⟩ := ok.r
  dsimp only at x1 x2 x3 x4 x5 x6 x7 k1 k2 k3 k4 k5 k6 k7 k8 j1 j2 j3 j4 j5 j6 j7 j8
  refine fn_entry (args := [.pointer (some ⟨b, 0, none⟩), .int .i64 flags, .int .i64 seq, byV b2 data]) Tryz.func202 rfl Tryz.ntmps202 rfl (fun w0 => ?_)
  refine c_seq ?_
  refine c_region ?_
  refine o_alloc ze_178 rfl rfl (fun b_1 => ?_)
  refine o_nil0 rfl ?_
  refine c_seq ?_
  refine c_seq ?_
  refine c_region ?_
  refine o_T (y_move rfl) rfl ?_
  refine o_T (y_slc_nil Tryz.underlying81 rfl rfl) rfl ?_
  refine o_nil1 12 rfl rfl ?_
  refine c_cond rfl (fun h7 => ?_) (fun h7 => ?_)
  · try simp only [decide_eq_true_eq, decide_eq_false_iff_not, Bool.not_eq_true', Bool.not_eq_false', Int.not_lt, Int.not_le, Decidable.not_not, beq_iff_eq, bne_iff_ne, ne_eq, beq_eq_false_iff_ne] at h7
    exact nomatch h7
  · try simp only [decide_eq_true_eq, decide_eq_false_iff_not, Bool.not_eq_true', Bool.not_eq_false', Int.not_lt, Int.not_le, Decidable.not_not, beq_iff_eq, bne_iff_ne, ne_eq, beq_eq_false_iff_ne] at h7
    refine c_skip ?_
    refine c_seq ?_
    refine c_region ?_
    refine o_T (y_move rfl) rfl ?_
    refine o_T (y_nilck rfl) rfl ?_
    refine o_T (y_fa fl_167_1 rfl) rfl ?_
    refine o_ld one_104 rfl (ms (ms m0)) Cn.g1 rfl ?_
    refine o_callrv en_215 rfl (t215 _ _ (by assumption)) (s_skip (s_skip (s_skip (s_skip (s_take s_nil))))) rfl ?_
    refine o_L (y_assign rfl) rfl rfl ?_
    refine o_nil0 rfl ?_
    refine c_seq ?_
    refine c_region ?_
    refine o_T (y_move rfl) rfl ?_
    refine o_T (y_move rfl) rfl ?_
    refine o_T (y_move rfl) rfl ?_
    refine o_T (y_move rfl) rfl ?_
    refine o_T (y_build st_178 rfl (fb rfl rfl rfl Sg.s2 (fb rfl rfl rfl Sg.s4 (fb rfl rfl rfl Sg.s5 (fb rfl rfl rfl Sg.s6 fb0))))) rfl ?_
    refine o_alloc ze_178 rfl rfl (fun b_2 => ?_)
    refine o_sta ag_178 rfl rfl rfl rfl r0 (setAll_full _ _ rfl) (of_ble rfl) ?_
    refine o_nil0 rfl ?_
    refine c_seq ?_
    refine c_seq ?_
    refine c_region ?_
    refine o_T (y_move rfl) rfl ?_
    refine o_T (y_and rfl rfl (flag_ack hf)) rfl ?_
    refine o_T (y_neq rfl rfl) rfl ?_
    refine o_nil1 26 rfl rfl ?_
    refine c_cond rfl (fun h12 => ?_) (fun h12 => ?_)
    · try simp only [decide_eq_true_eq, decide_eq_false_iff_not, Bool.not_eq_true', Bool.not_eq_false', Int.not_lt, Int.not_le, Decidable.not_not, beq_iff_eq, bne_iff_ne, ne_eq, beq_eq_false_iff_ne] at h12
      refine c_region ?_
      refine o_T (y_move rfl) rfl ?_
      refine o_callrv en_109 rfl (t109 _ ps pr x _ _ ok0) (s_skip (s_skip (s_skip (s_take (s_take (s_take s_nil)))))) rfl ?_
      refine o_T (y_fa fl_178_3 rfl) rfl ?_
      refine o_st one_3 rfl rfl rfl r0 Sg.s3 (of_blt rfl) ?_
      refine o_nil0 rfl ?_
      refine c_seq ?_
      refine c_region ?_
      refine o_ldw ag_178 rfl m0 rfl rfl ?_
      refine o_sta ag_178 rfl rfl rfl rfl (rs r0) (setAll_full _ _ rfl) (of_ble rfl) ?_
      refine o_nil0 rfl ?_
      refine c_ret ?_
      refine fun aX wX heX hsX => retc Tryz.results202 heX hsX rfl ag_178 (ms m0) rfl (s_skip (s_skip (s_take (s_take (s_take (s_take s_nil)))))) ?_
      exact ⟨mk_one (c := (⟨x, s, r⟩ : Conn)) (data := data) h12, rfl⟩
    · try simp only [decide_eq_true_eq, decide_eq_false_iff_not, Bool.not_eq_true', Bool.not_eq_false', Int.not_lt, Int.not_le, Decidable.not_not, beq_iff_eq, bne_iff_ne, ne_eq, beq_eq_false_iff_ne] at h12
      refine c_skip ?_
      refine c_seq ?_
      refine c_region ?_
      refine o_ldw ag_178 rfl m0 rfl rfl ?_
      refine o_sta ag_178 rfl rfl rfl rfl (rs r0) (setAll_full _ _ rfl) (of_ble rfl) ?_
      refine o_nil0 rfl ?_
      refine c_ret ?_
      refine fun aX wX heX hsX => retc Tryz.results202 heX hsX rfl ag_178 (ms m0) rfl (s_skip (s_skip (s_take (s_take (s_take (s_take s_nil)))))) ?_
      exact ⟨mk_two (c := (⟨x, s, r⟩ : Conn)) (data := data) h12, rfl⟩
theorem u202d (b ps pr : Nat) (k : Cn) (hk1 : k.sb = ptr ps) (hk2 : k.rb = ptr pr) (s : Sb) (r : Rb) (flags seq : Int) (b2 : Nat) (data : List Int) (ok : Conn.Ok ⟨(Cn.cs k), s, r⟩) (hf : flags = 1 ∨ flags = 2 ∨ flags = 3 ∨ flags = 6) : Trip Tryz.prog 202 #[.pointer (some ⟨b, 0, none⟩), .int .i64 flags, .int .i64 seq, byV b2 data] [byG b2 data 5, [(b, .cells k.enc 167 (0, 0))], [(ps, .cells s.enc 162 (0, 0))], [(pr, .cells r.enc 165 (0, 0))]] (fun u S' => u = .agg (segC b2 ((⟨(Cn.cs k), s, r⟩ : Conn).mk' flags seq data)).enc ∧ S' = [byG b2 data 5, [(b, .cells k.enc 167 (0, 0))], [(ps, .cells s.enc 162 (0, 0))], [(pr, .cells r.enc 165 (0, 0))]]) := by
  obtain ⟨a1, a2, a3, a4, a5, a6, a7, a8, a9, a10, a11, a12, a13, a14⟩ := k
  dsimp only at hk1 hk2
  subst hk1 hk2
  exact t202d b ps pr (Cs.mk a3 a4 a5 a6 a7 a8 a9 a10 a11 a12 a13 a14) s r flags seq b2 data ok hf

/-- (*e2e/conn.Conn).ack -/
theorem t184 (b ps pr : Nat) (x : Cs) (s : Sb) (r : Rb)  (ok : Conn.Ok ⟨x, s, r⟩) : Trip Tryz.prog 184 #[.pointer (some ⟨b, 0, none⟩)] [[(b, .cells (x.cn ps pr).enc 167 (0, 0))], [(ps, .cells s.enc 162 (0, 0))], [(pr, .cells r.enc 165 (0, 0))]] (fun u S' => ∃ b2, u = .agg (segC b2 (⟨x, s, r⟩ : Conn).ack).enc ∧ S' = [byG b2 ((⟨x, s, r⟩ : Conn).ack).data 5, [(b, .cells (x.cn ps pr).enc 167 (0, 0))], [(ps, .cells s.enc 162 (0, 0))], [(pr, .cells r.enc 165 (0, 0))]]) := by
  have ok0 := ok
  have okS : s.Ok := ok.s
  have okR : r.Ok := ok.r
  obtain ⟨x1, x2, x3, x4, x5, x6, x7⟩ := ok.x
  obtain ⟨k1, k2, k3, k4, k5, k6, k7, k8⟩ := ok.s
  obtain ⟨j1, j2, j3, j4, j5, j6, j7, j8⟩ := ok.r
  dsimp only at x1 x2 x3 x4 x5 x6 x7 k1 k2 k3 k4 k5 k6 k7 k8 j1 j2 j3 j4 j5 j6 j7 j8
  refine fn_entry (args := [.pointer (some ⟨b, 0, none⟩)]) Tryz.func184 rfl Tryz.ntmps184 rfl (fun w0 => ?_)
  refine c_seq ?_
  refine c_region ?_
  refine o_alloc ze_178 rfl rfl (fun b_1 => ?_)
  refine o_nil0 rfl ?_
  refine c_seq ?_
  refine c_region ?_
  refine o_T (y_move rfl) rfl ?_
  refine o_callrv en_108 rfl (t108 _ ps pr x _ _ ok0) (s_skip (s_take (s_take (s_take s_nil)))) rfl ?_
  refine o_L (y_assign rfl) rfl rfl ?_
  refine o_nil0 rfl ?_
  refine c_seq ?_
  refine c_region ?_
  refine o_T (y_move rfl) rfl ?_
  refine o_T (y_move rfl) rfl ?_
  refine o_call en_202 rfl (t202n _ ps pr x _ _ _ _ ok0 (by omega)) (s_skip (s_take (s_take (s_take s_nil)))) rfl ?_
  rintro v S' ⟨b_2, rfl, rfl⟩
  refine o_sta ag_178 rfl rfl rfl rfl (rs (rs (rs (rs r0)))) (setAll_full _ _ rfl) (of_ble rfl) ?_
  refine o_nil0 rfl ?_
  refine c_ret ?_
  refine fun aX wX heX hsX => retc Tryz.results184 heX hsX rfl ag_178 (ms (ms (ms (ms m0)))) rfl (s_take (s_take (s_take (s_take s_nil)))) ?_
  exact ⟨_, rfl, rfl⟩
theorem u184 (b ps pr : Nat) (k : Cn) (hk1 : k.sb = ptr ps) (hk2 : k.rb = ptr pr) (s : Sb) (r : Rb)  (ok : Conn.Ok ⟨(Cn.cs k), s, r⟩) : Trip Tryz.prog 184 #[.pointer (some ⟨b, 0, none⟩)] [[(b, .cells k.enc 167 (0, 0))], [(ps, .cells s.enc 162 (0, 0))], [(pr, .cells r.enc 165 (0, 0))]] (fun u S' => ∃ b2, u = .agg (segC b2 (⟨(Cn.cs k), s, r⟩ : Conn).ack).enc ∧ S' = [byG b2 ((⟨(Cn.cs k), s, r⟩ : Conn).ack).data 5, [(b, .cells k.enc 167 (0, 0))], [(ps, .cells s.enc 162 (0, 0))], [(pr, .cells r.enc 165 (0, 0))]]) := by
  obtain ⟨a1, a2, a3, a4, a5, a6, a7, a8, a9, a10, a11, a12, a13, a14⟩ := k
  dsimp only at hk1 hk2
  subst hk1 hk2
  exact t184 b ps pr (Cs.mk a3 a4 a5 a6 a7 a8 a9 a10 a11 a12 a13 a14) s r ok

/-- e2e/conn.rst -/
theorem t185 (n : Int) : Trip Tryz.prog 185 #[.int .i64 n] [] (fun u S' => ∃ b2, u = .agg (segC b2 (rstS n)).enc ∧ S' = [byG b2 ((rstS n)).data 5]) := by
  refine fn_entry (args := [.int .i64 n]) Tryz.func185 rfl Tryz.ntmps185 rfl (fun w0 => ?_)
  refine c_seq ?_
  refine c_region ?_
  refine o_alloc ze_178 rfl rfl (fun b_1 => ?_)
  refine o_nil0 rfl ?_
  refine c_seq ?_
  refine c_region ?_
  refine o_T (y_move rfl) rfl ?_
  refine o_callv en_143 rfl (t143 _ _) rfl ?_
  refine o_L (y_assign rfl) rfl rfl ?_
  refine o_nil0 rfl ?_
  refine c_seq ?_
  refine c_region ?_
  refine o_T (y_move rfl) rfl ?_
  refine o_bs0 sz_81 rfl (fun b_2 => ?_)
  refine o_T (y_build st_178 rfl (fb rfl rfl rfl Sg.s2 (fb rfl rfl rfl Sg.s4 (fb rfl rfl rfl Sg.s6 fb0)))) rfl ?_
  refine o_sta ag_178 rfl rfl rfl rfl (rs r0) (setAll_full _ _ rfl) (of_ble rfl) ?_
  refine o_nil0 rfl ?_
  refine c_ret ?_
  refine fun aX wX heX hsX => retc Tryz.results185 heX hsX rfl ag_178 (ms m0) rfl (s_take s_nil) ?_
  exact ⟨_, rfl, rfl⟩

/-- e2e/conn.one -/
theorem t179 (b : Nat) (s : Seg) : Trip Tryz.prog 179 #[.agg (segC b s).enc] [byG b s.data 5] (fun u S' => ∃ gv, Segs u [s] gv (byG b s.data 5) ∧ S' = [gv, byG b s.data 5]) := by
  refine fn_entry (args := [.agg (segC b s).enc]) Tryz.func179 rfl Tryz.ntmps179 rfl (fun w0 => ?_)
  refine c_seq ?_
  refine c_region ?_
  refine o_box rfl rfl rfl rfl (fun b_1 => ?_)
  refine o_L (y_assign rfl) rfl rfl ?_
  refine o_nil0 rfl ?_
  refine c_seq ?_
  refine c_region ?_
  refine o_ldw ag_178 rfl m0 rfl rfl ?_
  refine o_bs1 sz_185 rfl rfl rfl rfl rfl rfl (fun b_2 => ?_)
  refine o_L (y_assign rfl) rfl rfl ?_
  refine o_nil0 rfl ?_
  refine c_ret ?_
  refine fun aX wX heX hsX => ret1 Tryz.results179 heX rfl (s_take (s_skip (s_take s_nil))) ?_
  exact ⟨_, Lst.one rfl segR.mk, rfl⟩

/-- (*e2e/conn.Conn).again -/
theorem t168 (b ps pr : Nat) (x : Cs) (s : Sb) (r : Rb)  (ok : Conn.Ok ⟨x, s, r⟩) : Trip Tryz.prog 168 #[.pointer (some ⟨b, 0, none⟩)] [[(b, .cells (x.cn ps pr).enc 167 (0, 0))], [(ps, .cells s.enc 162 (0, 0))], [(pr, .cells r.enc 165 (0, 0))]] (fun u S' => ∃ b2, u = .agg (segC b2 (⟨x, s, r⟩ : Conn).again).enc ∧ S' = [byG b2 ((⟨x, s, r⟩ : Conn).again).data 5, [(b, .cells (x.cn ps pr).enc 167 (0, 0))], [(ps, .cells s.enc 162 (0, 0))], [(pr, .cells r.enc 165 (0, 0))]]) := by
  have ok0 := ok
  have okS : s.Ok := ok.s
  have okR : r.Ok := ok.r
  obtain ⟨x1, x2, x3, x4, x5, x6, x7⟩ := ok.x
  obtain ⟨k1, k2, k3, k4, k5, k6, k7, k8⟩ := ok.s
  obtain ⟨j1, j2, j3, j4, j5, j6, j7, j8⟩ := ok.r
  dsimp only at x1 x2 x3 x4 x5 x6 x7 k1 k2 k3 k4 k5 k6 k7 k8 j1 j2 j3 j4 j5 j6 j7 j8
  have hA := Sb.againN_b okS 12
  have hL := Sb.span_len (s := s) 0 (s.againN 12)
  refine fn_entry (args := [.pointer (some ⟨b, 0, none⟩)]) Tryz.func168 rfl Tryz.ntmps168 rfl (fun w0 => ?_)
  refine c_seq ?_
  refine c_region ?_
  refine o_alloc ze_178 rfl rfl (fun b_1 => ?_)
  refine o_nil0 rfl ?_
  refine c_seq ?_
  refine c_seq ?_
  refine c_region ?_
  refine o_T (y_move rfl) rfl ?_
  refine o_T (y_nilck rfl) rfl ?_
  refine o_T (y_fa fl_167_2 rfl) rfl ?_
  refine o_ld one_3 rfl (ms m0) Cn.g2 rfl ?_
  refine o_T (y_eql rfl rfl) rfl ?_
  refine o_nil1 9 rfl rfl ?_
  refine c_cond rfl (fun h53 => ?_) (fun h53 => ?_)
  · try simp only [decide_eq_true_eq, decide_eq_false_iff_not, Bool.not_eq_true', Bool.not_eq_false', Int.not_lt, Int.not_le, Decidable.not_not, beq_iff_eq, bne_iff_ne, ne_eq, beq_eq_false_iff_ne] at h53
    refine c_seq ?_
    refine c_region ?_
    refine o_T (y_move rfl) rfl ?_
    refine o_T (y_move rfl) rfl ?_
    refine o_T (y_nilck rfl) rfl ?_
    refine o_T (y_fa fl_167_8 rfl) rfl ?_
    refine o_ld one_3 rfl (ms m0) Cn.g8 rfl ?_
    refine o_call en_202 rfl (t202n _ ps pr x _ _ _ _ ok0 (by omega)) (s_skip (s_take (s_take (s_take s_nil)))) rfl ?_
    rintro v S' ⟨b_2, rfl, rfl⟩
    refine o_sta ag_178 rfl rfl rfl rfl (rs (rs (rs (rs r0)))) (setAll_full _ _ rfl) (of_ble rfl) ?_
    refine o_nil0 rfl ?_
    refine c_ret ?_
    refine fun aX wX heX hsX => retc Tryz.results168 heX hsX rfl ag_178 (ms (ms (ms (ms m0)))) rfl (s_take (s_take (s_take (s_take s_nil)))) ?_
    have e9 : (⟨x, s, r⟩ : Conn).again = (⟨x, s, r⟩ : Conn).mk' 1 x.iss [] := by simp only [Conn.again]; rw [if_pos h53]
    rw [e9]
    exact ⟨_, rfl, rfl⟩
  · try simp only [decide_eq_true_eq, decide_eq_false_iff_not, Bool.not_eq_true', Bool.not_eq_false', Int.not_lt, Int.not_le, Decidable.not_not, beq_iff_eq, bne_iff_ne, ne_eq, beq_eq_false_iff_ne] at h53
    refine c_skip ?_
    refine c_seq ?_
    refine c_seq ?_
    refine c_region ?_
    refine o_T (y_move rfl) rfl ?_
    refine o_T (y_nilck rfl) rfl ?_
    refine o_T (y_fa fl_167_2 rfl) rfl ?_
    refine o_ld one_3 rfl (ms m0) Cn.g2 rfl ?_
    refine o_T (y_eql rfl rfl) rfl ?_
    refine o_nil1 20 rfl rfl ?_
    refine c_cond rfl (fun h56 => ?_) (fun h56 => ?_)
    · try simp only [decide_eq_true_eq, decide_eq_false_iff_not, Bool.not_eq_true', Bool.not_eq_false', Int.not_lt, Int.not_le, Decidable.not_not, beq_iff_eq, bne_iff_ne, ne_eq, beq_eq_false_iff_ne] at h56
      refine c_seq ?_
      refine c_region ?_
      refine o_T (y_move rfl) rfl ?_
      refine o_T (y_move rfl) rfl ?_
      refine o_T (y_nilck rfl) rfl ?_
      refine o_T (y_fa fl_167_8 rfl) rfl ?_
      refine o_ld one_3 rfl (ms m0) Cn.g8 rfl ?_
      refine o_call en_202 rfl (t202n _ ps pr x _ _ _ _ ok0 (by omega)) (s_skip (s_take (s_take (s_take s_nil)))) rfl ?_
      rintro v S' ⟨b_3, rfl, rfl⟩
      refine o_sta ag_178 rfl rfl rfl rfl (rs (rs (rs (rs r0)))) (setAll_full _ _ rfl) (of_ble rfl) ?_
      refine o_nil0 rfl ?_
      refine c_ret ?_
      refine fun aX wX heX hsX => retc Tryz.results168 heX hsX rfl ag_178 (ms (ms (ms (ms m0)))) rfl (s_take (s_take (s_take (s_take s_nil)))) ?_
      have e9 : (⟨x, s, r⟩ : Conn).again = (⟨x, s, r⟩ : Conn).mk' 3 x.iss [] := by simp only [Conn.again]; rw [if_neg h53, if_pos h56]
      rw [e9]
      exact ⟨_, rfl, rfl⟩
    · try simp only [decide_eq_true_eq, decide_eq_false_iff_not, Bool.not_eq_true', Bool.not_eq_false', Int.not_lt, Int.not_le, Decidable.not_not, beq_iff_eq, bne_iff_ne, ne_eq, beq_eq_false_iff_ne] at h56
      refine c_skip ?_
      refine c_seq ?_
      refine c_region ?_
      refine o_T (y_move rfl) rfl ?_
      refine o_T (y_nilck rfl) rfl ?_
      refine o_T (y_fa fl_167_0 rfl) rfl ?_
      refine o_ld one_102 rfl (ms m0) Cn.g0 rfl ?_
      refine o_call en_203 rfl (t203 _ _ _ (by assumption)) (s_skip (s_skip (s_take s_nil))) rfl ?_
      rintro v S' ⟨b_4, rfl, rfl⟩
      refine o_T (y_move rfl) rfl ?_
      refine o_T (y_extract rfl rfl) rfl ?_
      refine o_T (y_extract rfl rfl) rfl ?_
      refine o_L (y_assign rfl) rfl rfl ?_
      refine o_L (y_assign rfl) rfl rfl ?_
      refine o_nil0 rfl ?_
      refine c_seq ?_
      refine c_seq ?_
      refine c_region ?_
      refine o_T (y_move rfl) rfl ?_
      refine o_T (y_len Tryz.underlying81 rfl) rfl ?_
      refine o_T (y_gtr rfl rfl) rfl ?_
      refine o_nil1 37 rfl rfl ?_
      refine c_cond rfl (fun h60 => ?_) (fun h60 => ?_)
      · try simp only [decide_eq_true_eq, decide_eq_false_iff_not, Bool.not_eq_true', Bool.not_eq_false', Int.not_lt, Int.not_le, Decidable.not_not, beq_iff_eq, bne_iff_ne, ne_eq, beq_eq_false_iff_ne] at h60
        refine c_seq ?_
        refine c_region ?_
        refine o_T (y_move rfl) rfl ?_
        refine o_T (y_move rfl) rfl ?_
        refine o_T (y_move rfl) rfl ?_
        refine o_call en_202 rfl (t202d _ ps pr x _ _ _ _ _ _ ?_ (by omega)) (s_get k0 (s_get (ks (ks k0)) (s_get k0 (s_get (ks k0) s_nil)))) rfl ?_
        · exact (⟨ok0.x, by assumption, by assumption⟩)
        rintro v S' ⟨rfl, rfl⟩
        refine o_sta ag_178 rfl rfl rfl rfl (rs (rs (rs (rs r0)))) (setAll_full _ _ rfl) (of_ble rfl) ?_
        refine o_nil0 rfl ?_
        refine c_ret ?_
        refine fun aX wX heX hsX => retc Tryz.results168 heX hsX rfl ag_178 (ms (ms (ms (ms m0)))) rfl (s_take (s_take (s_take (s_take s_nil)))) ?_
        have e9 : (⟨x, s, r⟩ : Conn).again = (⟨x, s, r⟩ : Conn).mk' 2 s.una (s.span 0 (s.againN 12)) := by simp only [Conn.again]; rw [if_neg h53, if_neg h56, if_pos (by omega)]
        rw [e9]
        exact ⟨_, rfl, rfl⟩
      · try simp only [decide_eq_true_eq, decide_eq_false_iff_not, Bool.not_eq_true', Bool.not_eq_false', Int.not_lt, Int.not_le, Decidable.not_not, beq_iff_eq, bne_iff_ne, ne_eq, beq_eq_false_iff_ne] at h60
        refine c_skip ?_
        refine c_seq ?_
        refine c_region ?_
        refine o_T (y_move rfl) rfl ?_
        refine o_T (y_move rfl) rfl ?_
        refine o_call en_202 rfl (t202n _ ps pr x _ _ _ _ ?_ (by omega)) (s_get (ks (ks (ks k0))) (s_get (ks k0) (s_get (ks (ks k0)) s_nil))) rfl ?_
        · exact (⟨ok0.x, by assumption, by assumption⟩)
        rintro v S' ⟨b_5, rfl, rfl⟩
        refine o_sta ag_178 rfl rfl rfl rfl (rs (rs (rs (rs (rs r0))))) (setAll_full _ _ rfl) (of_ble rfl) ?_
        refine o_nil0 rfl ?_
        refine c_ret ?_
        refine fun aX wX heX hsX => retc Tryz.results168 heX hsX rfl ag_178 (ms (ms (ms (ms (ms m0))))) rfl (s_take (s_take (s_take (s_take s_nil)))) ?_
        have e9 : (⟨x, s, r⟩ : Conn).again = (⟨x, s, r⟩ : Conn).mk' 6 s.una [] := by simp only [Conn.again]; rw [if_neg h53, if_neg h56, if_neg (by omega)]
        rw [e9]
        exact ⟨_, rfl, rfl⟩
theorem u168 (b ps pr : Nat) (k : Cn) (hk1 : k.sb = ptr ps) (hk2 : k.rb = ptr pr) (s : Sb) (r : Rb)  (ok : Conn.Ok ⟨(Cn.cs k), s, r⟩) : Trip Tryz.prog 168 #[.pointer (some ⟨b, 0, none⟩)] [[(b, .cells k.enc 167 (0, 0))], [(ps, .cells s.enc 162 (0, 0))], [(pr, .cells r.enc 165 (0, 0))]] (fun u S' => ∃ b2, u = .agg (segC b2 (⟨(Cn.cs k), s, r⟩ : Conn).again).enc ∧ S' = [byG b2 ((⟨(Cn.cs k), s, r⟩ : Conn).again).data 5, [(b, .cells k.enc 167 (0, 0))], [(ps, .cells s.enc 162 (0, 0))], [(pr, .cells r.enc 165 (0, 0))]]) := by
  obtain ⟨a1, a2, a3, a4, a5, a6, a7, a8, a9, a10, a11, a12, a13, a14⟩ := k
  dsimp only at hk1 hk2
  subst hk1 hk2
  exact t168 b ps pr (Cs.mk a3 a4 a5 a6 a7 a8 a9 a10 a11 a12 a13 a14) s r ok

end Go.Proofs.Qxb6500351aGreat
