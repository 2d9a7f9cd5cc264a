/- MADE BY PROGRAM (tools/gen.py over tools/specs351.py): walks. -/
import Derived.Test.Qxb6500351aGreatFacts
import Derived.Test.Qxb6500351aGreatMd8
import Derived.Test.Qxb6500351aGreatW15
set_option linter.unusedVariables false
set_option linter.unusedSimpArgs false
namespace Go.Proofs.Qxb6500351aGreat
open Go.Eng
set_option maxRecDepth 20000
set_option maxHeartbeats 4000000
/-- (*e2e/ip.IP).Addr -/
theorem t69 (b : Nat) (p : Ipt) : Trip Tryz.prog 69 #[.pointer (some ⟨b, 0, none⟩)] [[(b, .cells p.enc 153 (0, 0))]] (fun u S' => u = .int .i64 p.addr ∧ S' = [[(b, .cells p.enc 153 (0, 0))]]) := by
  refine fn_entry (args := [.pointer (some ⟨b, 0, none⟩)]) Tryz.func69 rfl Tryz.ntmps69 rfl (fun w0 => ?_)
  refine c_seq ?_
  refine c_region ?_
  refine o_L (y_assign rfl) rfl rfl ?_
  refine o_nil0 rfl ?_
  refine c_seq ?_
  refine c_region ?_
  refine o_T (y_move rfl) rfl ?_
  refine o_T (y_nilck rfl) rfl ?_
  refine o_T (y_fa fl_153_0 rfl) rfl ?_
  refine o_ld one_3 rfl m0 Ipt.g0 rfl ?_
  refine o_L (y_assign rfl) rfl rfl ?_
  refine o_nil0 rfl ?_
  refine c_ret ?_
  refine fun aX wX heX hsX => ret1 Tryz.results69 heX rfl (s_take s_nil) ?_
  exact ⟨rfl, rfl⟩

/-- e2e/ip.New -/
theorem t59 (a : Int) (h : 0 ≤ a ∧ a < 256) : Trip Tryz.prog 59 #[.int .i64 a] [] (fun u S' => ∃ b, u = .pointer (some ⟨b, 0, none⟩) ∧ S' = [[(b, .cells ({ Ipt.zero with addr := a, credit := 24 } : Ipt).enc 153 (0, 0))]]) := by
  refine fn_entry (args := [.int .i64 a]) Tryz.func59 rfl Tryz.ntmps59 rfl (fun w0 => ?_)
  refine c_seq ?_
  refine c_region ?_
  refine o_L (y_assign rfl) rfl rfl ?_
  refine o_nil0 rfl ?_
  refine c_seq ?_
  refine c_region ?_
  refine o_T (y_move rfl) rfl ?_
  refine o_T (y_and rfl rfl (and255 h)) rfl ?_
  refine o_T (y_build st_153 rfl (fb rfl rfl rfl Ipt.s0 (fb rfl rfl rfl Ipt.s2 fb0))) rfl ?_
  refine o_box rfl rfl rfl rfl (fun b_1 => ?_)
  refine o_L (y_assign rfl) rfl rfl ?_
  refine o_nil0 rfl ?_
  refine c_ret ?_
  refine fun aX wX heX hsX => ret1 Tryz.results59 heX rfl (s_take s_nil) ?_
  exact ⟨_, rfl, rfl⟩

/-- e2e/ip.below -/
theorem t190 (a : Int) (h : 0 ≤ a ∧ a < 64) : Trip Tryz.prog 190 #[.int .i64 a] [] (fun u S' => S' = [] ∧ u = .int .u64 ((2 ^ a.toNat - 1 : Nat) : Int)) := by
  obtain ⟨n, rfl⟩ := Int.eq_ofNat_of_zero_le h.1
  refine fn_entry (args := [.int .i64 (n : Int)]) Tryz.func190 rfl Tryz.ntmps190 rfl (fun w0 => ?_)
  refine c_seq ?_
  refine c_region ?_
  refine o_L (y_assign rfl) rfl rfl ?_
  refine o_nil0 rfl ?_
  refine c_seq ?_
  refine c_region ?_
  refine o_T (y_move rfl) rfl ?_
  refine o_T (y_conv Tryz.underlying3 Tryz.underlying131 rfl (w64ui (by omega))) rfl ?_
  refine o_T (y_shl rfl rfl (by omega) (shl_one (n := n) rfl (by simp [IntKind.bits]; omega) (fun z => nomatch z))) rfl ?_
  refine o_T (y_sub rfl rfl (below_sub (by omega))) rfl ?_
  refine o_L (y_assign rfl) rfl rfl ?_
  refine o_nil0 rfl ?_
  refine c_ret ?_
  refine fun aX wX heX hsX => ret1 Tryz.results190 heX rfl s_nil ?_
  exact ⟨rfl, rfl⟩

/-- (*e2e/ip.IP).find -/
theorem t150 (b : Nat) (p : Ipt) (key : Int) : Trip Tryz.prog 150 #[.pointer (some ⟨b, 0, none⟩), .int .i64 key] [[(b, .cells p.enc 153 (0, 0))]] (fun u S' => u = .int .i64 (p.find key) ∧ S' = [[(b, .cells p.enc 153 (0, 0))]]) := by
  refine fn_entry (args := [.pointer (some ⟨b, 0, none⟩), .int .i64 key]) Tryz.func150 rfl Tryz.ntmps150 rfl (fun w0 => ?_)
  refine c_seq ?_
  refine c_region ?_
  refine o_L (y_assign rfl) rfl rfl ?_
  refine o_nil0 rfl ?_
  refine c_seq ?_
  refine c_seq ?_
  refine c_region ?_
  refine o_L (y_assign rfl) rfl rfl ?_
  refine o_nil0 rfl ?_
  refine c_block ?_
  refine c_loopG (ι := Nat) (fun i => [(5, .int .i64 (i : Int))]) (fun i => []) (fun i => i ≤ 3 ∧ ∀ j, j < i → ¬ ((p.tab j).used = true ∧ (p.tab j).key = key)) (fun i => 3 - i) 0 (by exact ⟨by omega, fun j hj => absurd hj (by omega)⟩) ⟨by first | rfl | exact gteI rfl (by omega), trivial⟩ (s_take s_nil) ?_
  rintro k ⟨g1, g2⟩
  try dsimp only [List.cons_append, List.nil_append] at *
  refine c_seq ?_
  refine c_seq ?_
  refine c_region ?_
  refine o_T (y_move rfl) rfl ?_
  refine o_T (y_lss rfl rfl) rfl ?_
  refine o_nil1 7 rfl rfl ?_
  refine c_cond rfl (fun h7 => ?_) (fun h7 => ?_)
  · try simp only [decide_eq_true_eq, decide_eq_false_iff_not, Bool.not_eq_true', Bool.not_eq_false', Int.not_lt, Int.not_le, Decidable.not_not, beq_iff_eq, bne_iff_ne, ne_eq, beq_eq_false_iff_ne] at h7
    refine c_skip ?_
    refine c_seq ?_
    refine c_block ?_
    refine c_seq ?_
    refine c_region ?_
    refine o_T (y_move rfl) rfl ?_
    refine o_T (y_move rfl) rfl ?_
    refine o_T (y_nilck rfl) rfl ?_
    refine o_T (y_fa fl_153_3 rfl) rfl ?_
    refine o_T (y_ia ar_151 rfl rfl (by omega) (by omega)) rfl ?_
    refine o_T (y_fa fl_150_0 rfl) rfl ?_
    refine o_ld one_4 rfl m0 (Ipt.g_tab_used k (by omega) (by omega)) rfl ?_
    refine o_T (y_move rfl) rfl ?_
    refine o_split 17 rfl (fun h8 => ?_) (fun h8 => ?_)
    · try simp only [decide_eq_true_eq, decide_eq_false_iff_not, Bool.not_eq_true', Bool.not_eq_false', Int.not_lt, Int.not_le, Decidable.not_not, beq_iff_eq, bne_iff_ne, ne_eq, beq_eq_false_iff_ne] at h8
      refine o_take rfl rfl rfl ?_
      refine o_T (y_move rfl) rfl ?_
      refine o_take rfl rfl rfl ?_
      refine o_T (y_move rfl) rfl ?_
      refine o_take rfl rfl rfl ?_
      refine o_T (y_nilck rfl) rfl ?_
      refine o_take rfl rfl rfl ?_
      refine o_T (y_fa fl_153_3 rfl) rfl ?_
      refine o_take rfl rfl rfl ?_
      refine o_T (y_ia ar_151 rfl rfl (by omega) (by omega)) rfl ?_
      refine o_take rfl rfl rfl ?_
      refine o_T (y_fa fl_150_1 rfl) rfl ?_
      refine o_take rfl rfl rfl ?_
      refine o_ld one_3 rfl m0 (Ipt.g_tab_key k (by omega) (by omega)) rfl ?_
      refine o_take rfl rfl rfl ?_
      refine o_T (y_move rfl) rfl ?_
      refine o_take rfl rfl rfl ?_
      refine o_T (y_eql rfl rfl) rfl ?_
      refine o_T (y_pickT rfl rfl) rfl ?_
      refine o_nil1 27 rfl rfl ?_
      refine c_cond rfl (fun h8_1 => ?_) (fun h8_1 => ?_)
      · try simp only [decide_eq_true_eq, decide_eq_false_iff_not, Bool.not_eq_true', Bool.not_eq_false', Int.not_lt, Int.not_le, Decidable.not_not, beq_iff_eq, bne_iff_ne, ne_eq, beq_eq_false_iff_ne] at h8_1
        refine c_seq ?_
        refine c_region ?_
        refine o_T (y_move rfl) rfl ?_
        refine o_L (y_assign rfl) rfl rfl ?_
        refine o_nil0 rfl ?_
        refine c_ret ?_
        refine fun aX wX heX hsX => ret1 Tryz.results150 heX rfl (s_take s_nil) ?_
        exact ⟨congrArg (Value.int .i64) (Ipt.find_hit (by omega) h8 h8_1 g2).symm, rfl⟩
      · try simp only [decide_eq_true_eq, decide_eq_false_iff_not, Bool.not_eq_true', Bool.not_eq_false', Int.not_lt, Int.not_le, Decidable.not_not, beq_iff_eq, bne_iff_ne, ne_eq, beq_eq_false_iff_ne] at h8_1
        refine c_skip ?_
        refine c_region ?_
        refine o_T (y_move rfl) rfl ?_
        refine o_T (y_add rfl rfl (w64 (by omega))) rfl ?_
        refine o_L (y_assign rfl) rfl rfl ?_
        refine o_nil0 rfl ?_
        refine ⟨(k + 1), ⟨⟨by omega, all_step g2 (fun z => h8_1 z.2)⟩, by first | omega | (dsimp only; omega)⟩, ⟨by first | rfl | exact gteI rfl (by omega), trivial⟩, ⟨rfl, rfl⟩, _, ((s_take s_nil))⟩
    · try simp only [decide_eq_true_eq, decide_eq_false_iff_not, Bool.not_eq_true', Bool.not_eq_false', Int.not_lt, Int.not_le, Decidable.not_not, beq_iff_eq, bne_iff_ne, ne_eq, beq_eq_false_iff_ne] at h8
      refine o_pass rfl rfl rfl rfl rfl ?_
      refine o_pass rfl rfl rfl rfl rfl ?_
      refine o_pass rfl rfl rfl rfl rfl ?_
      refine o_pass rfl rfl rfl rfl rfl ?_
      refine o_pass rfl rfl rfl rfl rfl ?_
      refine o_pass rfl rfl rfl rfl rfl ?_
      refine o_pass rfl rfl rfl rfl rfl ?_
      refine o_pass rfl rfl rfl rfl rfl ?_
      refine o_pass rfl rfl rfl rfl rfl ?_
      refine o_T (y_pickF rfl rfl) rfl ?_
      refine o_nil1 27 rfl rfl ?_
      refine c_condF rfl ?_
      refine c_skip ?_
      refine c_region ?_
      refine o_T (y_move rfl) rfl ?_
      refine o_T (y_add rfl rfl (w64 (by omega))) rfl ?_
      refine o_L (y_assign rfl) rfl rfl ?_
      refine o_nil0 rfl ?_
      refine ⟨(k + 1), ⟨⟨by omega, all_step g2 (fun z => nomatch (h8.symm.trans z.1 : false = true))⟩, by first | omega | (dsimp only; omega)⟩, ⟨by first | rfl | exact gteI rfl (by omega), trivial⟩, ⟨rfl, rfl⟩, _, ((s_take s_nil))⟩
  · try simp only [decide_eq_true_eq, decide_eq_false_iff_not, Bool.not_eq_true', Bool.not_eq_false', Int.not_lt, Int.not_le, Decidable.not_not, beq_iff_eq, bne_iff_ne, ne_eq, beq_eq_false_iff_ne] at h7
    refine c_exit ?_
    refine c_seq ?_
    refine c_region ?_
    refine o_L (y_assign rfl) rfl rfl ?_
    refine o_nil0 rfl ?_
    refine c_ret ?_
    refine fun aX wX heX hsX => ret1 Tryz.results150 heX rfl (s_take s_nil) ?_
    exact ⟨congrArg (Value.int .i64) (Ipt.find_no (fun j hj => g2 j (by omega))).symm, rfl⟩

/-- (*e2e/ip.IP).vacant -/
theorem t151 (b : Nat) (p : Ipt) : Trip Tryz.prog 151 #[.pointer (some ⟨b, 0, none⟩)] [[(b, .cells p.enc 153 (0, 0))]] (fun u S' => u = .int .i64 p.vacant ∧ S' = [[(b, .cells p.enc 153 (0, 0))]]) := by
  refine fn_entry (args := [.pointer (some ⟨b, 0, none⟩)]) Tryz.func151 rfl Tryz.ntmps151 rfl (fun w0 => ?_)
  refine c_seq ?_
  refine c_region ?_
  refine o_L (y_assign rfl) rfl rfl ?_
  refine o_nil0 rfl ?_
  refine c_seq ?_
  refine c_seq ?_
  refine c_region ?_
  refine o_L (y_assign rfl) rfl rfl ?_
  refine o_nil0 rfl ?_
  refine c_block ?_
  refine c_loopG (ι := Nat) (fun i => [(3, .int .i64 (i : Int))]) (fun i => []) (fun i => i ≤ 3 ∧ ∀ j, j < i → ¬ (p.tab j).used = false) (fun i => 3 - i) 0 (by exact ⟨by omega, fun j hj => absurd hj (by omega)⟩) ⟨by first | rfl | exact gteI rfl (by omega), trivial⟩ (s_take s_nil) ?_
  rintro k ⟨g1, g2⟩
  try dsimp only [List.cons_append, List.nil_append] at *
  refine c_seq ?_
  refine c_seq ?_
  refine c_region ?_
  refine o_T (y_move rfl) rfl ?_
  refine o_T (y_lss rfl rfl) rfl ?_
  refine o_nil1 5 rfl rfl ?_
  refine c_cond rfl (fun h17 => ?_) (fun h17 => ?_)
  · try simp only [decide_eq_true_eq, decide_eq_false_iff_not, Bool.not_eq_true', Bool.not_eq_false', Int.not_lt, Int.not_le, Decidable.not_not, beq_iff_eq, bne_iff_ne, ne_eq, beq_eq_false_iff_ne] at h17
    refine c_skip ?_
    refine c_seq ?_
    refine c_block ?_
    refine c_seq ?_
    refine c_region ?_
    refine o_T (y_move rfl) rfl ?_
    refine o_T (y_move rfl) rfl ?_
    refine o_T (y_nilck rfl) rfl ?_
    refine o_T (y_fa fl_153_3 rfl) rfl ?_
    refine o_T (y_ia ar_151 rfl rfl (by omega) (by omega)) rfl ?_
    refine o_T (y_fa fl_150_0 rfl) rfl ?_
    refine o_ld one_4 rfl m0 (Ipt.g_tab_used k (by omega) (by omega)) rfl ?_
    refine o_T (y_not rfl) rfl ?_
    refine o_nil1 15 rfl rfl ?_
    refine c_cond rfl (fun h18 => ?_) (fun h18 => ?_)
    · try simp only [decide_eq_true_eq, decide_eq_false_iff_not, Bool.not_eq_true', Bool.not_eq_false', Int.not_lt, Int.not_le, Decidable.not_not, beq_iff_eq, bne_iff_ne, ne_eq, beq_eq_false_iff_ne] at h18
      refine c_seq ?_
      refine c_region ?_
      refine o_T (y_move rfl) rfl ?_
      refine o_L (y_assign rfl) rfl rfl ?_
      refine o_nil0 rfl ?_
      refine c_ret ?_
      refine fun aX wX heX hsX => ret1 Tryz.results151 heX rfl (s_take s_nil) ?_
      exact ⟨congrArg (Value.int .i64) (Ipt.vac_hit (by omega) h18 g2).symm, rfl⟩
    · try simp only [decide_eq_true_eq, decide_eq_false_iff_not, Bool.not_eq_true', Bool.not_eq_false', Int.not_lt, Int.not_le, Decidable.not_not, beq_iff_eq, bne_iff_ne, ne_eq, beq_eq_false_iff_ne] at h18
      refine c_skip ?_
      refine c_region ?_
      refine o_T (y_move rfl) rfl ?_
      refine o_T (y_add rfl rfl (w64 (by omega))) rfl ?_
      refine o_L (y_assign rfl) rfl rfl ?_
      refine o_nil0 rfl ?_
      refine ⟨(k + 1), ⟨⟨by omega, all_step g2 (fun z => nomatch (z.symm.trans h18 : false = true))⟩, by first | omega | (dsimp only; omega)⟩, ⟨by first | rfl | exact gteI rfl (by omega), trivial⟩, ⟨rfl, rfl⟩, _, ((s_take s_nil))⟩
  · try simp only [decide_eq_true_eq, decide_eq_false_iff_not, Bool.not_eq_true', Bool.not_eq_false', Int.not_lt, Int.not_le, Decidable.not_not, beq_iff_eq, bne_iff_ne, ne_eq, beq_eq_false_iff_ne] at h17
    refine c_exit ?_
    refine c_seq ?_
    refine c_region ?_
    refine o_L (y_assign rfl) rfl rfl ?_
    refine o_nil0 rfl ?_
    refine c_ret ?_
    refine fun aX wX heX hsX => ret1 Tryz.results151 heX rfl (s_take s_nil) ?_
    exact ⟨congrArg (Value.int .i64) (Ipt.vac_no (fun j hj => g2 j (by omega))).symm, rfl⟩

end Go.Proofs.Qxb6500351aGreat
