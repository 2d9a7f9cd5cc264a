/- MADE BY PROGRAM (tools/gen.py over tools/specs351.py): walks. -/
import Derived.Test.Qxb6500351aGreatFacts
import Derived.Test.Qxb6500351aGreatMd8
import Derived.Test.Qxb6500351aGreatW17
set_option linter.unusedVariables false
set_option linter.unusedSimpArgs false
namespace Go.Proofs.Qxb6500351aGreat
open Go.Eng
set_option maxRecDepth 20000
set_option maxHeartbeats 4000000
/-- (*e2e/ip.IP).Tick -/
theorem t125 (b : Nat) (p : Ipt) (ok : p.Ok) : Trip Tryz.prog 125 #[.pointer (some ⟨b, 0, none⟩)] [[(b, .cells p.enc 153 (0, 0))]] (fun u S' => u = .tuple #[] ∧ S' = [[(b, .cells p.tick.enc 153 (0, 0))]]) := by
  refine fn_entry (args := [.pointer (some ⟨b, 0, none⟩)]) Tryz.func125 rfl Tryz.ntmps125 rfl (fun w0 => ?_)
  refine c_seq ?_
  refine c_region ?_
  refine o_T (y_move rfl) rfl ?_
  refine o_T (y_nilck rfl) rfl ?_
  refine o_T (y_fa fl_153_2 rfl) rfl ?_
  refine o_st one_3 rfl rfl rfl r0 Ipt.s2 (of_blt rfl) ?_
  refine o_nil0 rfl ?_
  refine c_seq ?_
  refine c_region ?_
  refine o_L (y_assign rfl) rfl rfl ?_
  refine o_nil0 rfl ?_
  refine c_block ?_
  refine c_loopG (ι := Nat) (fun i => [(2, .int .i64 (i : Int))]) (fun i => [[(b, .cells (p.tickTo i).enc 153 (0, 0))]]) (fun i => i ≤ 3) (fun i => 3 - i) 0 (by omega) ⟨by first | rfl | exact gteI rfl (by omega), trivial⟩ (s_take s_nil) ?_
  rintro k hI
  try dsimp only at hI
  have hat := p.tickTo_at k
  have hsl := (ok.slot k).left
  rw [← hat] at hsl
  refine c_seq ?_
  refine c_seq ?_
  refine c_region ?_
  refine o_T (y_move rfl) rfl ?_
  refine o_T (y_lss rfl rfl) rfl ?_
  refine o_nil1 7 rfl rfl ?_
  refine c_cond rfl (fun h44 => ?_) (fun h44 => ?_)
  · try simp only [decide_eq_true_eq, decide_eq_false_iff_not, Bool.not_eq_true', Bool.not_eq_false', Int.not_lt, Int.not_le, Decidable.not_not, beq_iff_eq, bne_iff_ne, ne_eq, beq_eq_false_iff_ne] at h44
    refine c_skip ?_
    refine c_seq ?_
    refine c_block ?_
    refine c_seq ?_
    refine c_region ?_
    refine o_T (y_move rfl) rfl ?_
    refine o_T (y_move rfl) rfl ?_
    refine o_T (y_nilck rfl) rfl ?_
    refine o_T (y_fa fl_153_3 rfl) rfl ?_
    refine o_T (y_ia ar_151 rfl rfl (by omega) (by omega)) rfl ?_
    refine o_T (y_fa fl_150_0 rfl) rfl ?_
    refine o_ld one_4 rfl m0 (Ipt.g_tab_used k (by omega) (by omega)) rfl ?_
    refine o_nil1 16 rfl rfl ?_
    refine c_cond rfl (fun h45 => ?_) (fun h45 => ?_)
    · try simp only [decide_eq_true_eq, decide_eq_false_iff_not, Bool.not_eq_true', Bool.not_eq_false', Int.not_lt, Int.not_le, Decidable.not_not, beq_iff_eq, bne_iff_ne, ne_eq, beq_eq_false_iff_ne] at h45
      refine c_seq ?_
      refine c_draw #[true, true, true, true, true, true, true, true, true, true, true, true, false] rfl (n := 13) rfl ?_
      refine d_T 0 rfl (by kernel_rfl) rfl (y_move rfl) rfl ?_
      refine d_T 1 rfl (by kernel_rfl) rfl (y_move rfl) rfl ?_
      refine d_T 2 rfl (by kernel_rfl) rfl (y_nilck rfl) rfl ?_
      refine d_T 3 rfl (by kernel_rfl) rfl (y_fa fl_153_3 rfl) rfl ?_
      refine d_T 4 rfl (by kernel_rfl) rfl (y_ia ar_151 rfl rfl (by omega) (by omega)) rfl ?_
      refine d_T 5 rfl (by kernel_rfl) rfl (y_fa fl_150_2 rfl) rfl ?_
      refine d_ld 6 rfl (by kernel_rfl) one_3 rfl (fun x hx => hx) m0 (Ipt.g_tab_left k (by omega) (by omega)) rfl ?_
      refine d_T 7 rfl (by kernel_rfl) rfl (y_sub rfl rfl (w64 (by omega))) rfl ?_
      refine d_T 8 rfl (by kernel_rfl) rfl (y_nilck rfl) rfl ?_
      refine d_T 9 rfl (by kernel_rfl) rfl (y_fa fl_153_3 rfl) rfl ?_
      refine d_T 10 rfl (by kernel_rfl) rfl (y_ia ar_151 rfl rfl (by omega) (by omega)) rfl ?_
      refine d_T 11 rfl (by kernel_rfl) rfl (y_fa fl_150_2 rfl) rfl ?_
      refine d_hard 12 rfl (by kernel_rfl) ?_
      refine o_st one_3 rfl rfl rfl r0 (Ipt.s_tab_left k (by omega) (by omega)) (by simp only [Ipt.size]; omega) ?_
      refine o_stop (fun h => nomatch h) ?_
      refine d_nil0 (by kernel_rfl) rfl ?_
      refine c_seq ?_
      refine c_region ?_
      refine o_T (y_move rfl) rfl ?_
      refine o_T (y_move rfl) rfl ?_
      refine o_T (y_nilck rfl) rfl ?_
      refine o_T (y_fa fl_153_3 rfl) rfl ?_
      refine o_T (y_ia ar_151 rfl rfl (by omega) (by omega)) rfl ?_
      refine o_T (y_fa fl_150_2 rfl) rfl ?_
      refine o_ld one_3 rfl m0 (Ipt.g_tab_left k (by omega) (by omega)) rfl ?_
      refine o_T (y_leq rfl rfl) rfl ?_
      refine o_nil1 36 rfl rfl ?_
      refine c_cond rfl (fun h47 => ?_) (fun h47 => ?_)
      · try simp only [decide_eq_true_eq, decide_eq_false_iff_not, Bool.not_eq_true', Bool.not_eq_false', Int.not_lt, Int.not_le, Decidable.not_not, beq_iff_eq, bne_iff_ne, ne_eq, beq_eq_false_iff_ne] at h47
        refine c_region ?_
        refine o_T (y_move rfl) rfl ?_
        refine o_T (y_move rfl) rfl ?_
        refine o_T (y_nilck rfl) rfl ?_
        refine o_T (y_fa fl_153_3 rfl) rfl ?_
        refine o_T (y_ia ar_151 rfl rfl (by omega) (by omega)) rfl ?_
        refine o_T (y_fa fl_150_0 rfl) rfl ?_
        refine o_st one_4 rfl rfl rfl r0 (Ipt.s_tab_used k (by omega) (by omega)) (by simp only [Ipt.size]; omega) ?_
        refine o_nil0 rfl ?_
        refine c_region ?_
        refine o_T (y_move rfl) rfl ?_
        refine o_T (y_add rfl rfl (w64 (by omega))) rfl ?_
        refine o_L (y_assign rfl) rfl rfl ?_
        refine o_nil0 rfl ?_
        rw [upA_at] at h47
        have e9 := Ipt.tickTo_drop h45 (by exact h47) rfl
        refine ⟨(k + 1), ⟨by omega, by first | omega | (dsimp only; omega)⟩, ⟨by first | rfl | exact gteI rfl (by omega), trivial⟩, ⟨rfl, rfl⟩, _, (by dsimp only; rw [e9]; exact (s_take s_nil))⟩
      · try simp only [decide_eq_true_eq, decide_eq_false_iff_not, Bool.not_eq_true', Bool.not_eq_false', Int.not_lt, Int.not_le, Decidable.not_not, beq_iff_eq, bne_iff_ne, ne_eq, beq_eq_false_iff_ne] at h47
        refine c_skip ?_
        refine c_region ?_
        refine o_T (y_move rfl) rfl ?_
        refine o_T (y_add rfl rfl (w64 (by omega))) rfl ?_
        refine o_L (y_assign rfl) rfl rfl ?_
        refine o_nil0 rfl ?_
        rw [upA_at] at h47
        have e9 := Ipt.tickTo_keep h45 (by dsimp only at h47; omega)
        refine ⟨(k + 1), ⟨by omega, by first | omega | (dsimp only; omega)⟩, ⟨by first | rfl | exact gteI rfl (by omega), trivial⟩, ⟨rfl, rfl⟩, _, (by dsimp only; rw [e9]; exact (s_take s_nil))⟩
    · try simp only [decide_eq_true_eq, decide_eq_false_iff_not, Bool.not_eq_true', Bool.not_eq_false', Int.not_lt, Int.not_le, Decidable.not_not, beq_iff_eq, bne_iff_ne, ne_eq, beq_eq_false_iff_ne] at h45
      refine c_skip ?_
      refine c_region ?_
      refine o_T (y_move rfl) rfl ?_
      refine o_T (y_add rfl rfl (w64 (by omega))) rfl ?_
      refine o_L (y_assign rfl) rfl rfl ?_
      refine o_nil0 rfl ?_
      have e9 := Ipt.tickTo_no h45
      refine ⟨(k + 1), ⟨by omega, by first | omega | (dsimp only; omega)⟩, ⟨by first | rfl | exact gteI rfl (by omega), trivial⟩, ⟨rfl, rfl⟩, _, (by dsimp only; rw [e9]; exact (s_take s_nil))⟩
  · try simp only [decide_eq_true_eq, decide_eq_false_iff_not, Bool.not_eq_true', Bool.not_eq_false', Int.not_lt, Int.not_le, Decidable.not_not, beq_iff_eq, bne_iff_ne, ne_eq, beq_eq_false_iff_ne] at h44
    refine c_exit ?_
    refine fun aX wX heX hsX => ret0 Tryz.results125 (s_take s_nil) ?_
    obtain rfl : k = 3 := by omega
    exact ⟨rfl, rfl⟩

/-- (*e2e/ip.IP).clash -/
theorem t152 (b : Nat) (p : Ipt) (i : Nat) (en : Int) (more : Bool) (ok : p.Ok) (hi : i < 3) (he : 0 ≤ en ∧ en ≤ 40) : Trip Tryz.prog 152 #[.pointer (some ⟨b, 0, none⟩), .int .i64 (i : Int), .int .i64 en, .bool more] [[(b, .cells p.enc 153 (0, 0))]] (fun u S' => u = .bool (p.clash i en more) ∧ S' = [[(b, .cells p.enc 153 (0, 0))]]) := by
  have hs := (ok.slot i).held
  have ht := (ok.slot i).total
  refine fn_entry (args := [.pointer (some ⟨b, 0, none⟩), .int .i64 (i : Int), .int .i64 en, .bool more]) Tryz.func152 rfl Tryz.ntmps152 rfl (fun w0 => ?_)
  refine c_seq ?_
  refine c_region ?_
  refine o_L (y_assign rfl) rfl rfl ?_
  refine o_nil0 rfl ?_
  refine c_seq ?_
  refine c_region ?_
  refine o_T (y_move rfl) rfl ?_
  refine o_T (y_move rfl) rfl ?_
  refine o_T (y_nilck rfl) rfl ?_
  refine o_T (y_fa fl_153_3 rfl) rfl ?_
  refine o_T (y_ia ar_151 rfl rfl (by omega) (by omega)) rfl ?_
  refine o_T (y_fa fl_150_3 rfl) rfl ?_
  refine o_ld one_3 rfl m0 (Ipt.g_tab_total i (by omega) (by omega)) rfl ?_
  refine o_L (y_assign rfl) rfl rfl ?_
  refine o_nil0 rfl ?_
  refine c_seq ?_
  refine c_seq ?_
  refine c_region ?_
  refine o_T (y_move rfl) rfl ?_
  refine o_nil1 17 rfl rfl ?_
  refine c_cond rfl (fun h29 => ?_) (fun h29 => ?_)
  · try simp only [decide_eq_true_eq, decide_eq_false_iff_not, Bool.not_eq_true', Bool.not_eq_false', Int.not_lt, Int.not_le, Decidable.not_not, beq_iff_eq, bne_iff_ne, ne_eq, beq_eq_false_iff_ne] at h29
    refine c_seq ?_
    refine c_region ?_
    refine o_T (y_move rfl) rfl ?_
    refine o_T (y_geq rfl rfl) rfl ?_
    refine o_T (y_move rfl) rfl ?_
    refine o_split 20 rfl (fun h30 => ?_) (fun h30 => ?_)
    · try simp only [decide_eq_true_eq, decide_eq_false_iff_not, Bool.not_eq_true', Bool.not_eq_false', Int.not_lt, Int.not_le, Decidable.not_not, beq_iff_eq, bne_iff_ne, ne_eq, beq_eq_false_iff_ne] at h30
      refine o_take rfl rfl rfl ?_
      refine o_T (y_move rfl) rfl ?_
      refine o_take rfl rfl rfl ?_
      refine o_T (y_move rfl) rfl ?_
      refine o_take rfl rfl rfl ?_
      refine o_T (y_gtr rfl rfl) rfl ?_
      refine o_T (y_pickT rfl rfl) rfl ?_
      refine o_L (y_assign rfl) rfl rfl ?_
      refine o_nil0 rfl ?_
      refine c_ret ?_
      refine fun aX wX heX hsX => ret1 Tryz.results152 heX rfl (s_take s_nil) ?_
      refine ⟨congrArg Value.bool ?_, rfl⟩
      unfold Ipt.clash
      rw [if_pos h29]
      exact decide_eq_decide.2 ⟨fun z => ⟨h30, z⟩, fun z => z.2⟩
    · try simp only [decide_eq_true_eq, decide_eq_false_iff_not, Bool.not_eq_true', Bool.not_eq_false', Int.not_lt, Int.not_le, Decidable.not_not, beq_iff_eq, bne_iff_ne, ne_eq, beq_eq_false_iff_ne] at h30
      refine o_pass rfl rfl rfl rfl rfl ?_
      refine o_pass rfl rfl rfl rfl rfl ?_
      refine o_pass rfl rfl rfl rfl rfl ?_
      refine o_T (y_pickF rfl rfl) rfl ?_
      refine o_L (y_assign rfl) rfl rfl ?_
      refine o_nil0 rfl ?_
      refine c_ret ?_
      refine fun aX wX heX hsX => ret1 Tryz.results152 heX rfl (s_take s_nil) ?_
      refine ⟨congrArg Value.bool ?_, rfl⟩
      unfold Ipt.clash
      rw [if_pos h29]
      exact (decide_eq_false (by omega)).symm
  · try simp only [decide_eq_true_eq, decide_eq_false_iff_not, Bool.not_eq_true', Bool.not_eq_false', Int.not_lt, Int.not_le, Decidable.not_not, beq_iff_eq, bne_iff_ne, ne_eq, beq_eq_false_iff_ne] at h29
    refine c_skip ?_
    refine c_seq ?_
    refine c_seq ?_
    refine c_region ?_
    refine o_T (y_move rfl) rfl ?_
    refine o_T (y_geq rfl rfl) rfl ?_
    refine o_T (y_move rfl) rfl ?_
    refine o_split 27 rfl (fun h32 => ?_) (fun h32 => ?_)
    · try simp only [decide_eq_true_eq, decide_eq_false_iff_not, Bool.not_eq_true', Bool.not_eq_false', Int.not_lt, Int.not_le, Decidable.not_not, beq_iff_eq, bne_iff_ne, ne_eq, beq_eq_false_iff_ne] at h32
      refine o_take rfl rfl rfl ?_
      refine o_T (y_move rfl) rfl ?_
      refine o_take rfl rfl rfl ?_
      refine o_T (y_move rfl) rfl ?_
      refine o_take rfl rfl rfl ?_
      refine o_T (y_neq rfl rfl) rfl ?_
      refine o_T (y_pickT rfl rfl) rfl ?_
      refine o_nil1 31 rfl rfl ?_
      refine c_cond rfl (fun h32_1 => ?_) (fun h32_1 => ?_)
      · try simp only [decide_eq_true_eq, decide_eq_false_iff_not, Bool.not_eq_true', Bool.not_eq_false', Int.not_lt, Int.not_le, Decidable.not_not, beq_iff_eq, bne_iff_ne, ne_eq, beq_eq_false_iff_ne] at h32_1
        refine c_seq ?_
        refine c_region ?_
        refine o_L (y_assign rfl) rfl rfl ?_
        refine o_nil0 rfl ?_
        refine c_ret ?_
        refine fun aX wX heX hsX => ret1 Tryz.results152 heX rfl (s_take s_nil) ?_
        refine ⟨congrArg Value.bool ?_, rfl⟩
        unfold Ipt.clash
        rw [if_neg (by rw [h29]; decide), if_pos ⟨h32, h32_1⟩]
      · try simp only [decide_eq_true_eq, decide_eq_false_iff_not, Bool.not_eq_true', Bool.not_eq_false', Int.not_lt, Int.not_le, Decidable.not_not, beq_iff_eq, bne_iff_ne, ne_eq, beq_eq_false_iff_ne] at h32_1
        refine c_skip ?_
        refine c_seq ?_
        refine c_region ?_
        refine o_T (y_move rfl) rfl ?_
        refine o_T (y_move rfl) rfl ?_
        refine o_T (y_nilck rfl) rfl ?_
        refine o_T (y_fa fl_153_3 rfl) rfl ?_
        refine o_T (y_ia ar_151 rfl rfl (by omega) (by omega)) rfl ?_
        refine o_T (y_fa fl_150_4 rfl) rfl ?_
        refine o_ld one_147 rfl m0 (Ipt.g_tab_held i (by omega) (by omega)) rfl ?_
        refine o_T (y_move rfl) rfl ?_
        refine o_T (y_conv Tryz.underlying3 Tryz.underlying131 rfl (w64ui (by omega))) rfl ?_
        refine o_T (y_shr rfl rfl (by omega) (shr_nat en.toNat hs.1 (by omega) (by omega))) rfl ?_
        refine o_T (y_neq rfl rfl) rfl ?_
        refine o_L (y_assign rfl) rfl rfl ?_
        refine o_nil0 rfl ?_
        refine c_ret ?_
        refine fun aX wX heX hsX => ret1 Tryz.results152 heX rfl (s_take s_nil) ?_
        refine ⟨congrArg Value.bool ?_, rfl⟩
        unfold Ipt.clash
        rw [if_neg (by rw [h29]; decide), if_neg (by omega)]
        exact decide_eq_decide.2 (not_congr int_eq_zero)
    · try simp only [decide_eq_true_eq, decide_eq_false_iff_not, Bool.not_eq_true', Bool.not_eq_false', Int.not_lt, Int.not_le, Decidable.not_not, beq_iff_eq, bne_iff_ne, ne_eq, beq_eq_false_iff_ne] at h32
      refine o_pass rfl rfl rfl rfl rfl ?_
      refine o_pass rfl rfl rfl rfl rfl ?_
      refine o_pass rfl rfl rfl rfl rfl ?_
      refine o_T (y_pickF rfl rfl) rfl ?_
      refine o_nil1 31 rfl rfl ?_
      refine c_condF rfl ?_
      refine c_skip ?_
      refine c_seq ?_
      refine c_region ?_
      refine o_T (y_move rfl) rfl ?_
      refine o_T (y_move rfl) rfl ?_
      refine o_T (y_nilck rfl) rfl ?_
      refine o_T (y_fa fl_153_3 rfl) rfl ?_
      refine o_T (y_ia ar_151 rfl rfl (by omega) (by omega)) rfl ?_
      refine o_T (y_fa fl_150_4 rfl) rfl ?_
      refine o_ld one_147 rfl m0 (Ipt.g_tab_held i (by omega) (by omega)) rfl ?_
      refine o_T (y_move rfl) rfl ?_
      refine o_T (y_conv Tryz.underlying3 Tryz.underlying131 rfl (w64ui (by omega))) rfl ?_
      refine o_T (y_shr rfl rfl (by omega) (shr_nat en.toNat hs.1 (by omega) (by omega))) rfl ?_
      refine o_T (y_neq rfl rfl) rfl ?_
      refine o_L (y_assign rfl) rfl rfl ?_
      refine o_nil0 rfl ?_
      refine c_ret ?_
      refine fun aX wX heX hsX => ret1 Tryz.results152 heX rfl (s_take s_nil) ?_
      refine ⟨congrArg Value.bool ?_, rfl⟩
      unfold Ipt.clash
      rw [if_neg (by rw [h29]; decide), if_neg (by omega)]
      exact decide_eq_decide.2 (not_congr int_eq_zero)

/-- (*e2e/ip.IP).whole -/
theorem t154 (b : Nat) (p : Ipt) (i : Nat) (ok : p.Ok) (hi : i < 3) : Trip Tryz.prog 154 #[.pointer (some ⟨b, 0, none⟩), .int .i64 (i : Int)] [[(b, .cells p.enc 153 (0, 0))]] (fun u S' => u = .bool (p.whole i) ∧ S' = [[(b, .cells p.enc 153 (0, 0))]]) := by
  have hs := (ok.slot i).held
  have ht := (ok.slot i).total
  refine fn_entry (args := [.pointer (some ⟨b, 0, none⟩), .int .i64 (i : Int)]) Tryz.func154 rfl Tryz.ntmps154 rfl (fun w0 => ?_)
  refine c_seq ?_
  refine c_region ?_
  refine o_L (y_assign rfl) rfl rfl ?_
  refine o_nil0 rfl ?_
  refine c_seq ?_
  refine c_region ?_
  refine o_T (y_move rfl) rfl ?_
  refine o_T (y_move rfl) rfl ?_
  refine o_T (y_nilck rfl) rfl ?_
  refine o_T (y_fa fl_153_3 rfl) rfl ?_
  refine o_T (y_ia ar_151 rfl rfl (by omega) (by omega)) rfl ?_
  refine o_T (y_fa fl_150_3 rfl) rfl ?_
  refine o_ld one_3 rfl m0 (Ipt.g_tab_total i (by omega) (by omega)) rfl ?_
  refine o_L (y_assign rfl) rfl rfl ?_
  refine o_nil0 rfl ?_
  refine c_seq ?_
  refine c_seq ?_
  refine c_region ?_
  refine o_T (y_move rfl) rfl ?_
  refine o_T (y_lss rfl rfl) rfl ?_
  refine o_nil1 15 rfl rfl ?_
  refine c_cond rfl (fun h49 => ?_) (fun h49 => ?_)
  · try simp only [decide_eq_true_eq, decide_eq_false_iff_not, Bool.not_eq_true', Bool.not_eq_false', Int.not_lt, Int.not_le, Decidable.not_not, beq_iff_eq, bne_iff_ne, ne_eq, beq_eq_false_iff_ne] at h49
    refine c_seq ?_
    refine c_region ?_
    refine o_L (y_assign rfl) rfl rfl ?_
    refine o_nil0 rfl ?_
    refine c_ret ?_
    refine fun aX wX heX hsX => ret1 Tryz.results154 heX rfl (s_take s_nil) ?_
    refine ⟨congrArg Value.bool ?_, rfl⟩
    unfold Ipt.whole
    rw [if_pos h49]
  · try simp only [decide_eq_true_eq, decide_eq_false_iff_not, Bool.not_eq_true', Bool.not_eq_false', Int.not_lt, Int.not_le, Decidable.not_not, beq_iff_eq, bne_iff_ne, ne_eq, beq_eq_false_iff_ne] at h49
    refine c_skip ?_
    refine c_seq ?_
    refine c_region ?_
    refine o_T (y_move rfl) rfl ?_
    refine o_callv en_190 rfl (t190 _ (by omega)) rfl ?_
    refine o_L (y_assign rfl) rfl rfl ?_
    refine o_nil0 rfl ?_
    refine c_seq ?_
    refine c_region ?_
    refine o_T (y_move rfl) rfl ?_
    refine o_T (y_move rfl) rfl ?_
    refine o_T (y_nilck rfl) rfl ?_
    refine o_T (y_fa fl_153_3 rfl) rfl ?_
    refine o_T (y_ia ar_151 rfl rfl (by omega) (by omega)) rfl ?_
    refine o_T (y_fa fl_150_4 rfl) rfl ?_
    refine o_ld one_147 rfl m0 (Ipt.g_tab_held i (by omega) (by omega)) rfl ?_
    refine o_T (y_move rfl) rfl ?_
    refine o_T (y_and rfl rfl (whole_and hs ht (by omega))) rfl ?_
    refine o_T (y_move rfl) rfl ?_
    refine o_T (y_eql rfl rfl) rfl ?_
    refine o_L (y_assign rfl) rfl rfl ?_
    refine o_nil0 rfl ?_
    refine c_ret ?_
    refine fun aX wX heX hsX => ret1 Tryz.results154 heX rfl (s_take s_nil) ?_
    refine ⟨congrArg Value.bool ?_, rfl⟩
    unfold Ipt.whole
    rw [if_neg (by omega)]
    exact decide_eq_decide.2 Int.ofNat_inj

end Go.Proofs.Qxb6500351aGreat
