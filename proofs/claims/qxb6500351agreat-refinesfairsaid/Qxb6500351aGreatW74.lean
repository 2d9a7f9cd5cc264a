/- MADE BY PROGRAM (tools/gen.py over tools/specsw.py): walks. -/
import Derived.Test.Qxb6500351aGreatRp8
set_option linter.unusedVariables false
set_option linter.unusedSimpArgs false
namespace Go.Proofs.Qxb6500351aGreat
open Go.Eng
set_option maxRecDepth 20000
set_option maxHeartbeats 4000000
/-- e2e/towerlaw.SameFrames -/
theorem t81 (v1 v2 : Value) (fr fr2 : List (List Int)) (gv1 gd1 gv2 gd2 : List Chunk) (h1 : Frs v1 fr gv1 gd1) (h2 : Frs v2 fr2 gv2 gd2) : Trip Tryz.prog 81 #[v1, v2] [gv1, gd1, gv2, gd2] (fun u S' => u = .bool (decide (fr = fr2)) ∧ S' = [gv1, gd1, gv2, gd2]) := by
  have hln1 := lstN_bnd h1
  have hln2 := lstN_bnd h2
  obtain ⟨p1, c1, hv1⟩ := h1.slice
  subst hv1
  obtain ⟨p2, c2, hv2⟩ := h2.slice
  subst hv2
  refine fn_entry (args := [.slice p1 fr.length c1, .slice p2 fr2.length c2]) Tryz.func81 rfl Tryz.ntmps81 rfl (fun w0 => ?_)
  refine c_seq ?_
  refine c_region ?_
  refine o_L (y_assign rfl) rfl rfl ?_
  refine o_nil0 rfl ?_
  refine c_seq ?_
  refine c_seq ?_
  refine c_region ?_
  refine o_T (y_move rfl) rfl ?_
  refine o_T (y_len Tryz.underlying51 rfl) rfl ?_
  refine o_T (y_move rfl) rfl ?_
  refine o_T (y_len Tryz.underlying51 rfl) rfl ?_
  refine o_T (y_neq rfl rfl) rfl ?_
  refine o_nil1 10 rfl rfl ?_
  refine c_cond rfl (fun h96 => ?_) (fun h96 => ?_)
  · try simp only [decide_eq_true_eq, decide_eq_false_iff_not, Bool.not_eq_true', Bool.not_eq_false', Int.not_lt, Int.not_le, Decidable.not_not, beq_iff_eq, bne_iff_ne, ne_eq, beq_eq_false_iff_ne, WA.wd] at h96
    refine c_seq ?_
    refine c_region ?_
    refine o_L (y_assign rfl) rfl rfl ?_
    refine o_nil0 rfl ?_
    refine c_ret ?_
    refine fun aX wX heX hsX => ret1 Tryz.results81 heX rfl (s_take (s_take (s_take (s_take s_nil)))) ?_
    exact ⟨congrArg Value.bool (decide_eq_false (fun h => h96 (by rw [h]))).symm, rfl⟩
  · try simp only [decide_eq_true_eq, decide_eq_false_iff_not, Bool.not_eq_true', Bool.not_eq_false', Int.not_lt, Int.not_le, Decidable.not_not, beq_iff_eq, bne_iff_ne, ne_eq, beq_eq_false_iff_ne, WA.wd] at h96
    refine c_skip ?_
    refine c_seq ?_
    refine c_seq ?_
    refine c_region ?_
    refine o_L (y_assign rfl) rfl rfl ?_
    refine o_nil0 rfl ?_
    refine c_block ?_
    refine c_loopG (ι := Nat) (fun i => [(5, .int .i64 (i : Int))]) (fun i => []) (fun i => i ≤ fr.length ∧ fr.length = fr2.length ∧ fr.take i = fr2.take i) (fun i => fr.length - i) 0 (by exact ⟨by omega, by omega, rfl⟩) ⟨by first | rfl | exact gteI rfl (by omega), trivial⟩ (s_take (s_take (s_take (s_take s_nil)))) ?_
    rintro k ⟨g3, g4, g5⟩
    try dsimp only [List.cons_append, List.nil_append] at *
    refine c_seq ?_
    refine c_seq ?_
    refine c_region ?_
    refine o_T (y_move rfl) rfl ?_
    refine o_T (y_move rfl) rfl ?_
    refine o_T (y_len Tryz.underlying51 rfl) rfl ?_
    refine o_T (y_lss rfl rfl) rfl ?_
    refine o_nil1 14 rfl rfl ?_
    refine c_cond rfl (fun h99 => ?_) (fun h99 => ?_)
    · try simp only [decide_eq_true_eq, decide_eq_false_iff_not, Bool.not_eq_true', Bool.not_eq_false', Int.not_lt, Int.not_le, Decidable.not_not, beq_iff_eq, bne_iff_ne, ne_eq, beq_eq_false_iff_ne, WA.wd] at h99
      refine c_skip ?_
      refine c_seq ?_
      refine c_block ?_
      refine c_seq ?_
      have hk1 : k < fr.length := by omega
      have hk2 : k < fr2.length := by omega
      obtain ⟨b1, cp1, cur1, e1, eg1, hO1⟩ := (h1.lst (by omega)).open
      injection e1 with e1 e2 e3
      subst e1 e3 eg1
      obtain ⟨b2, cp2, cur2, e1, eg2, hO2⟩ := (h2.lst (by omega)).open
      injection e1 with e1 e2 e3
      subst e1 e3 eg2
      obtain ⟨r1, ga1, gb1, hgd1, hc1, hb1, hl1⟩ := hO1.row k hk1
      obtain ⟨r2, ga2, gb2, hgd2, hc2, hb2, hl2⟩ := hO2.row k hk2
      refine c_draw #[true, true, true, true, true, true, true, true, true, true] rfl (n := 10) rfl ?_
      refine d_T 0 rfl (by kernel_rfl) rfl (y_move rfl) rfl ?_
      refine d_T 1 rfl (by kernel_rfl) rfl (y_move rfl) rfl ?_
      refine d_T 2 rfl (by kernel_rfl) rfl (y_is sl_51 rfl rfl (by omega) (by omega)) rfl ?_
      refine d_ld 3 rfl (by kernel_rfl) one_81 rfl (fun x hx => hx) m0 (hc1 _ (by omega)) rfl ?_
      refine d_T 4 rfl (by kernel_rfl) rfl (y_move rfl) rfl ?_
      refine d_T 5 rfl (by kernel_rfl) rfl (y_move rfl) rfl ?_
      refine d_T 6 rfl (by kernel_rfl) rfl (y_is sl_51 rfl rfl (by omega) (by omega)) rfl ?_
      refine d_ld 7 rfl (by kernel_rfl) one_81 rfl (fun x hx => hx) (ms (ms m0)) (hc2 _ (by omega)) rfl ?_
      refine d_hard 8 rfl (by kernel_rfl) ?_
      refine o_callrv en_52 rfl (s52 hgd1 hb1 hl1 hgd2 hb2 hl2) (s_skip (s_take (s_skip (s_take s_nil)))) rfl ?_
      refine o_stop (fun _ => (fun x hx => hx)) ?_
      refine d_T 9 rfl (by kernel_rfl) rfl (y_not rfl) rfl ?_
      refine d_nil1 26 (by kernel_rfl) rfl rfl ?_
      refine c_cond rfl (fun h100 => ?_) (fun h100 => ?_)
      · try simp only [decide_eq_true_eq, decide_eq_false_iff_not, Bool.not_eq_true', Bool.not_eq_false', Int.not_lt, Int.not_le, Decidable.not_not, beq_iff_eq, bne_iff_ne, ne_eq, beq_eq_false_iff_ne, WA.wd] at h100
        refine c_seq ?_
        refine c_region ?_
        refine o_L (y_assign rfl) rfl rfl ?_
        refine o_nil0 rfl ?_
        refine c_ret ?_
        refine fun aX wX heX hsX => ret1 Tryz.results81 heX rfl (s_take (s_take (s_take (s_take s_nil)))) ?_
        exact ⟨congrArg Value.bool (decide_eq_false (fun h => h100 (by simp only [h]))).symm, rfl⟩
      · try simp only [decide_eq_true_eq, decide_eq_false_iff_not, Bool.not_eq_true', Bool.not_eq_false', Int.not_lt, Int.not_le, Decidable.not_not, beq_iff_eq, bne_iff_ne, ne_eq, beq_eq_false_iff_ne, WA.wd] at h100
        refine c_skip ?_
        refine c_region ?_
        refine o_T (y_move rfl) rfl ?_
        refine o_T (y_add rfl rfl (w64 (by omega))) rfl ?_
        refine o_L (y_assign rfl) rfl rfl ?_
        refine o_nil0 rfl ?_
        refine ⟨(k + 1), ⟨⟨by omega, by omega, take_eq_step g5 (by omega) (by omega) (by assumption)⟩, by first | omega | (dsimp only; omega)⟩, ⟨by first | rfl | exact gteI rfl (by omega), trivial⟩, ⟨rfl, rfl⟩, _, ((s_take (s_take (s_take (s_take s_nil)))))⟩
    · try simp only [decide_eq_true_eq, decide_eq_false_iff_not, Bool.not_eq_true', Bool.not_eq_false', Int.not_lt, Int.not_le, Decidable.not_not, beq_iff_eq, bne_iff_ne, ne_eq, beq_eq_false_iff_ne, WA.wd] at h99
      refine c_exit ?_
      refine c_seq ?_
      refine c_region ?_
      refine o_L (y_assign rfl) rfl rfl ?_
      refine o_nil0 rfl ?_
      refine c_ret ?_
      refine fun aX wX heX hsX => ret1 Tryz.results81 heX rfl (s_take (s_take (s_take (s_take s_nil)))) ?_
      exact ⟨congrArg Value.bool (decide_eq_true (by rw [List.take_of_length_le (by omega), List.take_of_length_le (by omega)] at g5; exact g5)).symm, rfl⟩

end Go.Proofs.Qxb6500351aGreat
