/- MADE BY PROGRAM (tools/gen.py over tools/specs351.py): walks. -/
import Derived.Test.Qxb6500351aGreatFacts
import Derived.Test.Qxb6500351aGreatMd2
import Derived.Test.Qxb6500351aGreatW1
set_option linter.unusedVariables false
set_option linter.unusedSimpArgs false
namespace Go.Proofs.Qxb6500351aGreat
open Go.Eng
set_option maxRecDepth 20000
/-- (*e2e/seg.SendBuf).span -/
theorem t216 (b : Nat) (s : Sb) (off n : Int) (ok : s.Ok) (hof : 0 ≤ off ∧ off ≤ 16) (hn : 0 ≤ n ∧ n ≤ 16) : Trip Tryz.prog 216 #[.pointer (some ⟨b, 0, none⟩), .int .i64 off, .int .i64 n] [[(b, .cells s.enc 162 (0, 0))]] (fun u S' => ∃ b2, u = byV b2 (s.span off n) ∧ S' = [byG b2 (s.span off n) 5, [(b, .cells s.enc 162 (0, 0))]]) := by
  have ok0 := ok
  obtain ⟨k1, k2, k3, k4, k5, k6, k7, k8⟩ := ok
  obtain ⟨hn1, hn2⟩ := hn
  obtain ⟨m, rfl⟩ := Int.eq_ofNat_of_zero_le hn1
  refine fn_entry (args := [.pointer (some ⟨b, 0, none⟩), .int .i64 off, .int .i64 (m : Int)]) Tryz.func216 rfl Tryz.ntmps216 rfl (fun w0 => ?_)
  refine c_seq ?_
  refine c_region ?_
  refine o_L (y_assign rfl) rfl rfl ?_
  refine o_nil0 rfl ?_
  refine c_seq ?_
  refine c_region ?_
  refine o_T (y_move rfl) rfl ?_
  refine o_makeB m sz_81 rfl rfl (by first | rfl | omega) (by first | rfl | omega) (by omega) (by omega) rfl (fun b_1 => ?_)
  refine o_L (y_assign rfl) rfl rfl ?_
  refine o_nil0 rfl ?_
  refine c_seq ?_
  refine c_region ?_
  refine o_T (y_move rfl) rfl ?_
  refine o_T (y_nilck rfl) rfl ?_
  refine o_T (y_fa fl_162_1 rfl) rfl ?_
  refine o_ld one_3 rfl (ms m0) Sb.g16 rfl ?_
  refine o_T (y_move rfl) rfl ?_
  refine o_T (y_add rfl rfl (w64 (by omega))) rfl ?_
  refine o_T (y_rem rfl rfl (by decide) (tm (by omega))) rfl ?_
  refine o_L (y_assign rfl) rfl rfl ?_
  refine o_nil0 rfl ?_
  refine c_seq ?_
  refine c_region ?_
  refine o_T (y_move rfl) rfl ?_
  refine o_T (y_sub rfl rfl (w64 (by omega))) rfl ?_
  refine o_L (y_assign rfl) rfl rfl ?_
  refine o_nil0 rfl ?_
  refine c_seq ?_
  refine c_seq ?_
  refine c_region ?_
  refine o_T (y_move rfl) rfl ?_
  refine o_T (y_move rfl) rfl ?_
  refine o_T (y_gtr rfl rfl) rfl ?_
  refine o_nil1 23 rfl rfl ?_
  refine c_cond rfl (fun h41 => ?_) (fun h41 => ?_)
  · try simp only [decide_eq_true_eq, decide_eq_false_iff_not, Bool.not_eq_true', Bool.not_eq_false', Int.not_lt, Int.not_le, Decidable.not_not, beq_iff_eq, bne_iff_ne, ne_eq, beq_eq_false_iff_ne] at h41
    refine c_region ?_
    refine o_T (y_move rfl) rfl ?_
    refine o_L (y_assign rfl) rfl rfl ?_
    refine o_nil0 rfl ?_
    refine c_seq ?_
    obtain ⟨a, ha⟩ := Int.eq_ofNat_of_zero_le (show 0 ≤ (s.head + off) % 16 by omega)
    obtain ⟨f, hf1, hf2, hf3⟩ := runs_ex a m
    refine c_region ?_
    refine o_T (y_move rfl) rfl ?_
    refine o_T (y_move rfl) rfl ?_
    refine o_T (y_nilck rfl) rfl ?_
    refine o_T (y_fa fl_162_0 rfl) rfl ?_
    refine o_T (y_move rfl) rfl ?_
    refine o_T (y_move rfl) rfl ?_
    refine o_T (y_move rfl) rfl ?_
    refine o_T (y_add rfl rfl (w64 (by omega))) rfl ?_
    refine o_T (y_sla ar_160 rfl (bS (i := a) rfl (by omega)) (bS (i := (a + f)) rfl (by omega)) (by omega) (by omega)) rfl ?_
    refine o_copyB f sz_81 rfl rfl (arr_byt 0 16 (fun i hi => Sb.g_ring i hi (by omega)) k8 (by omega) (of_ble rfl) _ _ (by omega) (by omega)) (by first | rfl | (simp only [Nat.min_def]; split <;> omega)) r0 (ms m0) (by first | (simp only [List.length_set, List.length_replicate, List.length_append, List.length_take, List.length_drop, List.length_map, List.length_range]; (try split) <;> omega) | (simp <;> omega)) (.inr ⟨_, rfl, rfl, rfl⟩) ?_
    refine o_nil0 rfl ?_
    refine c_seq ?_
    refine c_draw #[true, true, true, true, true, true, true, true, true, true, false] rfl (n := 11) rfl ?_
    refine d_T 0 rfl (by kernel_rfl) rfl (y_move rfl) rfl ?_
    refine d_T 1 rfl (by kernel_rfl) rfl (y_move rfl) rfl ?_
    refine d_T 2 rfl (by kernel_rfl) rfl (y_sls sl_81 rfl (bS (i := f) rfl (by omega)) bN (by omega) (by omega)) rfl ?_
    refine d_T 3 rfl (by kernel_rfl) rfl (y_move rfl) rfl ?_
    refine d_T 4 rfl (by kernel_rfl) rfl (y_nilck rfl) rfl ?_
    refine d_T 5 rfl (by kernel_rfl) rfl (y_fa fl_162_0 rfl) rfl ?_
    refine d_T 6 rfl (by kernel_rfl) rfl (y_move rfl) rfl ?_
    refine d_T 7 rfl (by kernel_rfl) rfl (y_move rfl) rfl ?_
    refine d_T 8 rfl (by kernel_rfl) rfl (y_sub rfl rfl (w64 (by omega))) rfl ?_
    refine d_T 9 rfl (by kernel_rfl) rfl (y_sla ar_160 rfl bN (bS (i := (m - f)) rfl (by omega)) (by omega) (by omega)) rfl ?_
    refine d_hard 10 rfl (by kernel_rfl) ?_
    refine o_copyB (m - f) sz_81 rfl rfl (arr_byt 0 16 (fun i hi => Sb.g_ring i hi (by omega)) k8 (by omega) (of_ble rfl) _ _ (by omega) (by omega)) (by first | rfl | (simp only [Nat.min_def]; split <;> omega)) r0 (ms m0) (by first | (simp only [List.length_set, List.length_replicate, List.length_append, List.length_take, List.length_drop, List.length_map, List.length_range]; (try split) <;> omega) | (simp <;> omega)) (.inr ⟨_, rfl, rfl, rfl⟩) ?_
    refine o_stop (fun h => nomatch h) ?_
    refine d_nil0 (by kernel_rfl) rfl ?_
    refine c_seq ?_
    refine c_region ?_
    refine o_T (y_move rfl) rfl ?_
    refine o_L (y_assign rfl) rfl rfl ?_
    refine o_nil0 rfl ?_
    refine c_ret ?_
    refine fun aX wX heX hsX => ret1 Tryz.results216 heX rfl (s_take (s_take s_nil)) ?_
    have haN : a = ((s.head + off) % 16).toNat := by omega
    refine ⟨_, byV_eq (by rw [Sb.span_len]; simp), bs2 (byG_eq ?_) rfl⟩
    subst haN
    exact two_runs _ _ _ _ (by omega) (by omega) hf1 hf2 hf3 _ rfl _ _ rfl rfl
  · try simp only [decide_eq_true_eq, decide_eq_false_iff_not, Bool.not_eq_true', Bool.not_eq_false', Int.not_lt, Int.not_le, Decidable.not_not, beq_iff_eq, bne_iff_ne, ne_eq, beq_eq_false_iff_ne] at h41
    refine c_skip ?_
    refine c_seq ?_
    obtain ⟨a, ha⟩ := Int.eq_ofNat_of_zero_le (show 0 ≤ (s.head + off) % 16 by omega)
    obtain ⟨f, hf1, hf2, hf3⟩ := runs_ex a m
    refine c_region ?_
    refine o_T (y_move rfl) rfl ?_
    refine o_T (y_move rfl) rfl ?_
    refine o_T (y_nilck rfl) rfl ?_
    refine o_T (y_fa fl_162_0 rfl) rfl ?_
    refine o_T (y_move rfl) rfl ?_
    refine o_T (y_move rfl) rfl ?_
    refine o_T (y_move rfl) rfl ?_
    refine o_T (y_add rfl rfl (w64 (by omega))) rfl ?_
    refine o_T (y_sla ar_160 rfl (bS (i := a) rfl (by omega)) (bS (i := (a + f)) rfl (by omega)) (by omega) (by omega)) rfl ?_
    refine o_copyB f sz_81 rfl rfl (arr_byt 0 16 (fun i hi => Sb.g_ring i hi (by omega)) k8 (by omega) (of_ble rfl) _ _ (by omega) (by omega)) (by first | rfl | (simp only [Nat.min_def]; split <;> omega)) r0 (ms m0) (by first | (simp only [List.length_set, List.length_replicate, List.length_append, List.length_take, List.length_drop, List.length_map, List.length_range]; (try split) <;> omega) | (simp <;> omega)) (.inr ⟨_, rfl, rfl, rfl⟩) ?_
    refine o_nil0 rfl ?_
    refine c_seq ?_
    refine c_draw #[true, true, true, true, true, true, true, true, true, true, false] rfl (n := 11) rfl ?_
    refine d_T 0 rfl (by kernel_rfl) rfl (y_move rfl) rfl ?_
    refine d_T 1 rfl (by kernel_rfl) rfl (y_move rfl) rfl ?_
    refine d_T 2 rfl (by kernel_rfl) rfl (y_sls sl_81 rfl (bS (i := f) rfl (by omega)) bN (by omega) (by omega)) rfl ?_
    refine d_T 3 rfl (by kernel_rfl) rfl (y_move rfl) rfl ?_
    refine d_T 4 rfl (by kernel_rfl) rfl (y_nilck rfl) rfl ?_
    refine d_T 5 rfl (by kernel_rfl) rfl (y_fa fl_162_0 rfl) rfl ?_
    refine d_T 6 rfl (by kernel_rfl) rfl (y_move rfl) rfl ?_
    refine d_T 7 rfl (by kernel_rfl) rfl (y_move rfl) rfl ?_
    refine d_T 8 rfl (by kernel_rfl) rfl (y_sub rfl rfl (w64 (by omega))) rfl ?_
    refine d_T 9 rfl (by kernel_rfl) rfl (y_sla ar_160 rfl bN (bS (i := (m - f)) rfl (by omega)) (by omega) (by omega)) rfl ?_
    refine d_hard 10 rfl (by kernel_rfl) ?_
    refine o_copyB (m - f) sz_81 rfl rfl (arr_byt 0 16 (fun i hi => Sb.g_ring i hi (by omega)) k8 (by omega) (of_ble rfl) _ _ (by omega) (by omega)) (by first | rfl | (simp only [Nat.min_def]; split <;> omega)) r0 (ms m0) (by first | (simp only [List.length_set, List.length_replicate, List.length_append, List.length_take, List.length_drop, List.length_map, List.length_range]; (try split) <;> omega) | (simp <;> omega)) (.inr ⟨_, rfl, rfl, rfl⟩) ?_
    refine o_stop (fun h => nomatch h) ?_
    refine d_nil0 (by kernel_rfl) rfl ?_
    refine c_seq ?_
    refine c_region ?_
    refine o_T (y_move rfl) rfl ?_
    refine o_L (y_assign rfl) rfl rfl ?_
    refine o_nil0 rfl ?_
    refine c_ret ?_
    refine fun aX wX heX hsX => ret1 Tryz.results216 heX rfl (s_take (s_take s_nil)) ?_
    have haN : a = ((s.head + off) % 16).toNat := by omega
    refine ⟨_, byV_eq (by rw [Sb.span_len]; simp), bs2 (byG_eq ?_) rfl⟩
    subst haN
    exact two_runs _ _ _ _ (by omega) (by omega) hf1 hf2 hf3 _ rfl _ _ rfl rfl

/-- (*e2e/seg.RecvBuf).first -/
theorem t210 (b : Nat) (r : Rb) (n : Int) (ok : r.Ok) (hn : 0 ≤ n ∧ n ≤ 16) : Trip Tryz.prog 210 #[.pointer (some ⟨b, 0, none⟩), .int .i64 n] [[(b, .cells r.enc 165 (0, 0))]] (fun u S' => ∃ b2, u = byV b2 (r.first n) ∧ S' = [byG b2 (r.first n) 5, [(b, .cells r.enc 165 (0, 0))]]) := by
  have ok0 := ok
  obtain ⟨k1, k2, k3, k4, k5, k6, k8⟩ := ok
  obtain ⟨hn1, hn2⟩ := hn
  obtain ⟨m, rfl⟩ := Int.eq_ofNat_of_zero_le hn1
  refine fn_entry (args := [.pointer (some ⟨b, 0, none⟩), .int .i64 (m : Int)]) Tryz.func210 rfl Tryz.ntmps210 rfl (fun w0 => ?_)
  refine c_seq ?_
  refine c_region ?_
  refine o_L (y_assign rfl) rfl rfl ?_
  refine o_nil0 rfl ?_
  refine c_seq ?_
  refine c_region ?_
  refine o_T (y_move rfl) rfl ?_
  refine o_makeB m sz_81 rfl rfl (by first | rfl | omega) (by first | rfl | omega) (by omega) (by omega) rfl (fun b_1 => ?_)
  refine o_L (y_assign rfl) rfl rfl ?_
  refine o_nil0 rfl ?_
  refine c_seq ?_
  refine c_draw #[true, true, true, true, true, true, true, true, true, true, true, true, true] rfl (n := 13) rfl ?_
  refine d_T 0 rfl (by kernel_rfl) rfl (y_move rfl) rfl ?_
  refine d_T 1 rfl (by kernel_rfl) rfl (y_nilck rfl) rfl ?_
  refine d_T 2 rfl (by kernel_rfl) rfl (y_fa fl_165_1 rfl) rfl ?_
  refine d_ld 3 rfl (by kernel_rfl) one_5 rfl (fun x hx => hx) (ms m0) Rb.g16 rfl ?_
  refine d_T 4 rfl (by kernel_rfl) rfl (y_conv Tryz.underlying5 Tryz.underlying3 rfl (w64 (by omega))) rfl ?_
  refine d_T 5 rfl (by kernel_rfl) rfl (y_add rfl rfl (w64 (by omega))) rfl ?_
  refine d_T 6 rfl (by kernel_rfl) rfl (y_move rfl) rfl ?_
  refine d_T 7 rfl (by kernel_rfl) rfl (y_nilck rfl) rfl ?_
  refine d_T 8 rfl (by kernel_rfl) rfl (y_fa fl_165_2 rfl) rfl ?_
  refine d_ld 9 rfl (by kernel_rfl) one_3 rfl (fun x hx => hx) (ms m0) Rb.g17 rfl ?_
  refine d_T 10 rfl (by kernel_rfl) rfl (y_sub rfl rfl (w64 (by omega))) rfl ?_
  refine d_T 11 rfl (by kernel_rfl) rfl (y_rem rfl rfl (by decide) (tm (by omega))) rfl ?_
  refine d_L 12 rfl (by kernel_rfl) rfl (y_assign rfl) rfl rfl ?_
  refine d_nil0 (by kernel_rfl) rfl ?_
  refine c_seq ?_
  refine c_region ?_
  refine o_T (y_move rfl) rfl ?_
  refine o_T (y_sub rfl rfl (w64 (by omega))) rfl ?_
  refine o_L (y_assign rfl) rfl rfl ?_
  refine o_nil0 rfl ?_
  refine c_seq ?_
  refine c_seq ?_
  refine c_region ?_
  refine o_T (y_move rfl) rfl ?_
  refine o_T (y_move rfl) rfl ?_
  refine o_T (y_gtr rfl rfl) rfl ?_
  refine o_nil1 26 rfl rfl ?_
  refine c_cond rfl (fun h66 => ?_) (fun h66 => ?_)
  · try simp only [decide_eq_true_eq, decide_eq_false_iff_not, Bool.not_eq_true', Bool.not_eq_false', Int.not_lt, Int.not_le, Decidable.not_not, beq_iff_eq, bne_iff_ne, ne_eq, beq_eq_false_iff_ne] at h66
    refine c_region ?_
    refine o_T (y_move rfl) rfl ?_
    refine o_L (y_assign rfl) rfl rfl ?_
    refine o_nil0 rfl ?_
    refine c_seq ?_
    obtain ⟨a, ha⟩ := Int.eq_ofNat_of_zero_le (show 0 ≤ (r.nxt + 256 - r.avail) % 16 by omega)
    obtain ⟨f, hf1, hf2, hf3⟩ := runs_ex a m
    refine c_region ?_
    refine o_T (y_move rfl) rfl ?_
    refine o_T (y_move rfl) rfl ?_
    refine o_T (y_nilck rfl) rfl ?_
    refine o_T (y_fa fl_165_0 rfl) rfl ?_
    refine o_T (y_move rfl) rfl ?_
    refine o_T (y_move rfl) rfl ?_
    refine o_T (y_move rfl) rfl ?_
    refine o_T (y_add rfl rfl (w64 (by omega))) rfl ?_
    refine o_T (y_sla ar_160 rfl (bS (i := a) rfl (by omega)) (bS (i := (a + f)) rfl (by omega)) (by omega) (by omega)) rfl ?_
    refine o_copyB f sz_81 rfl rfl (arr_byt 0 16 (fun i hi => Rb.g_ring i hi (by omega)) k8 (by omega) (of_ble rfl) _ _ (by omega) (by omega)) (by first | rfl | (simp only [Nat.min_def]; split <;> omega)) r0 (ms m0) (by first | (simp only [List.length_set, List.length_replicate, List.length_append, List.length_take, List.length_drop, List.length_map, List.length_range]; (try split) <;> omega) | (simp <;> omega)) (.inr ⟨_, rfl, rfl, rfl⟩) ?_
    refine o_nil0 rfl ?_
    refine c_seq ?_
    refine c_draw #[true, true, true, true, true, true, true, true, true, true, false] rfl (n := 11) rfl ?_
    refine d_T 0 rfl (by kernel_rfl) rfl (y_move rfl) rfl ?_
    refine d_T 1 rfl (by kernel_rfl) rfl (y_move rfl) rfl ?_
    refine d_T 2 rfl (by kernel_rfl) rfl (y_sls sl_81 rfl (bS (i := f) rfl (by omega)) bN (by omega) (by omega)) rfl ?_
    refine d_T 3 rfl (by kernel_rfl) rfl (y_move rfl) rfl ?_
    refine d_T 4 rfl (by kernel_rfl) rfl (y_nilck rfl) rfl ?_
    refine d_T 5 rfl (by kernel_rfl) rfl (y_fa fl_165_0 rfl) rfl ?_
    refine d_T 6 rfl (by kernel_rfl) rfl (y_move rfl) rfl ?_
    refine d_T 7 rfl (by kernel_rfl) rfl (y_move rfl) rfl ?_
    refine d_T 8 rfl (by kernel_rfl) rfl (y_sub rfl rfl (w64 (by omega))) rfl ?_
    refine d_T 9 rfl (by kernel_rfl) rfl (y_sla ar_160 rfl bN (bS (i := (m - f)) rfl (by omega)) (by omega) (by omega)) rfl ?_
    refine d_hard 10 rfl (by kernel_rfl) ?_
    refine o_copyB (m - f) sz_81 rfl rfl (arr_byt 0 16 (fun i hi => Rb.g_ring i hi (by omega)) k8 (by omega) (of_ble rfl) _ _ (by omega) (by omega)) (by first | rfl | (simp only [Nat.min_def]; split <;> omega)) r0 (ms m0) (by first | (simp only [List.length_set, List.length_replicate, List.length_append, List.length_take, List.length_drop, List.length_map, List.length_range]; (try split) <;> omega) | (simp <;> omega)) (.inr ⟨_, rfl, rfl, rfl⟩) ?_
    refine o_stop (fun h => nomatch h) ?_
    refine d_nil0 (by kernel_rfl) rfl ?_
    refine c_seq ?_
    refine c_region ?_
    refine o_T (y_move rfl) rfl ?_
    refine o_L (y_assign rfl) rfl rfl ?_
    refine o_nil0 rfl ?_
    refine c_ret ?_
    refine fun aX wX heX hsX => ret1 Tryz.results210 heX rfl (s_take (s_take s_nil)) ?_
    have haN : a = ((r.nxt + 256 - r.avail) % 16).toNat := by omega
    refine ⟨_, byV_eq (by rw [Rb.first_len]; simp), bs2 (byG_eq ?_) rfl⟩
    subst haN
    exact two_runs _ _ _ _ (by omega) (by omega) hf1 hf2 hf3 _ rfl _ _ rfl rfl
  · try simp only [decide_eq_true_eq, decide_eq_false_iff_not, Bool.not_eq_true', Bool.not_eq_false', Int.not_lt, Int.not_le, Decidable.not_not, beq_iff_eq, bne_iff_ne, ne_eq, beq_eq_false_iff_ne] at h66
    refine c_skip ?_
    refine c_seq ?_
    obtain ⟨a, ha⟩ := Int.eq_ofNat_of_zero_le (show 0 ≤ (r.nxt + 256 - r.avail) % 16 by omega)
    obtain ⟨f, hf1, hf2, hf3⟩ := runs_ex a m
    refine c_region ?_
    refine o_T (y_move rfl) rfl ?_
    refine o_T (y_move rfl) rfl ?_
    refine o_T (y_nilck rfl) rfl ?_
    refine o_T (y_fa fl_165_0 rfl) rfl ?_
    refine o_T (y_move rfl) rfl ?_
    refine o_T (y_move rfl) rfl ?_
    refine o_T (y_move rfl) rfl ?_
    refine o_T (y_add rfl rfl (w64 (by omega))) rfl ?_
    refine o_T (y_sla ar_160 rfl (bS (i := a) rfl (by omega)) (bS (i := (a + f)) rfl (by omega)) (by omega) (by omega)) rfl ?_
    refine o_copyB f sz_81 rfl rfl (arr_byt 0 16 (fun i hi => Rb.g_ring i hi (by omega)) k8 (by omega) (of_ble rfl) _ _ (by omega) (by omega)) (by first | rfl | (simp only [Nat.min_def]; split <;> omega)) r0 (ms m0) (by first | (simp only [List.length_set, List.length_replicate, List.length_append, List.length_take, List.length_drop, List.length_map, List.length_range]; (try split) <;> omega) | (simp <;> omega)) (.inr ⟨_, rfl, rfl, rfl⟩) ?_
    refine o_nil0 rfl ?_
    refine c_seq ?_
    refine c_draw #[true, true, true, true, true, true, true, true, true, true, false] rfl (n := 11) rfl ?_
    refine d_T 0 rfl (by kernel_rfl) rfl (y_move rfl) rfl ?_
    refine d_T 1 rfl (by kernel_rfl) rfl (y_move rfl) rfl ?_
    refine d_T 2 rfl (by kernel_rfl) rfl (y_sls sl_81 rfl (bS (i := f) rfl (by omega)) bN (by omega) (by omega)) rfl ?_
    refine d_T 3 rfl (by kernel_rfl) rfl (y_move rfl) rfl ?_
    refine d_T 4 rfl (by kernel_rfl) rfl (y_nilck rfl) rfl ?_
    refine d_T 5 rfl (by kernel_rfl) rfl (y_fa fl_165_0 rfl) rfl ?_
    refine d_T 6 rfl (by kernel_rfl) rfl (y_move rfl) rfl ?_
    refine d_T 7 rfl (by kernel_rfl) rfl (y_move rfl) rfl ?_
    refine d_T 8 rfl (by kernel_rfl) rfl (y_sub rfl rfl (w64 (by omega))) rfl ?_
    refine d_T 9 rfl (by kernel_rfl) rfl (y_sla ar_160 rfl bN (bS (i := (m - f)) rfl (by omega)) (by omega) (by omega)) rfl ?_
    refine d_hard 10 rfl (by kernel_rfl) ?_
    refine o_copyB (m - f) sz_81 rfl rfl (arr_byt 0 16 (fun i hi => Rb.g_ring i hi (by omega)) k8 (by omega) (of_ble rfl) _ _ (by omega) (by omega)) (by first | rfl | (simp only [Nat.min_def]; split <;> omega)) r0 (ms m0) (by first | (simp only [List.length_set, List.length_replicate, List.length_append, List.length_take, List.length_drop, List.length_map, List.length_range]; (try split) <;> omega) | (simp <;> omega)) (.inr ⟨_, rfl, rfl, rfl⟩) ?_
    refine o_stop (fun h => nomatch h) ?_
    refine d_nil0 (by kernel_rfl) rfl ?_
    refine c_seq ?_
    refine c_region ?_
    refine o_T (y_move rfl) rfl ?_
    refine o_L (y_assign rfl) rfl rfl ?_
    refine o_nil0 rfl ?_
    refine c_ret ?_
    refine fun aX wX heX hsX => ret1 Tryz.results210 heX rfl (s_take (s_take s_nil)) ?_
    have haN : a = ((r.nxt + 256 - r.avail) % 16).toNat := by omega
    refine ⟨_, byV_eq (by rw [Rb.first_len]; simp), bs2 (byG_eq ?_) rfl⟩
    subst haN
    exact two_runs _ _ _ _ (by omega) (by omega) hf1 hf2 hf3 _ rfl _ _ rfl rfl

/-- (*e2e/seg.SendBuf).Put -/
theorem t182 (b : Nat) (s : Sb) (b2 o n cap e : Nat) (cs : Array Value) (l : List Int) (ok : s.Ok) (hy : BytAt o n cap cs l) : Trip Tryz.prog 182 #[.pointer (some ⟨b, 0, none⟩), .slice (some ⟨b2, o, none⟩) n cap] [[(b, .cells s.enc 162 (0, 0))], [(b2, .cells cs e (0, 0))]] (fun u S' => u = .int .i64 (s.putN l) ∧ S' = [[(b, .cells (s.put l).enc 162 (0, 0))], [(b2, .cells cs e (0, 0))]]) := by
  have ok0 := ok
  obtain ⟨k1, k2, k3, k4, k5, k6, k7, k8⟩ := ok
  have hy4 := hy.len
  have hy5 := hy.cap
  have hn := hy.n_eq
  refine fn_entry (args := [.pointer (some ⟨b, 0, none⟩), .slice (some ⟨b2, o, none⟩) n cap]) Tryz.func182 rfl Tryz.ntmps182 rfl (fun w0 => ?_)
  refine c_seq ?_
  refine c_region ?_
  refine o_L (y_assign rfl) rfl rfl ?_
  refine o_nil0 rfl ?_
  refine c_seq ?_
  refine c_region ?_
  refine o_T (y_move rfl) rfl ?_
  refine o_T (y_len Tryz.underlying81 rfl) rfl ?_
  refine o_T (y_move rfl) rfl ?_
  refine o_T (y_nilck rfl) rfl ?_
  refine o_T (y_fa fl_162_2 rfl) rfl ?_
  refine o_ld one_3 rfl m0 Sb.g17 rfl ?_
  refine o_T (y_sub rfl rfl (w64 (by omega))) rfl ?_
  refine o_callv en_209 rfl (t209 _ _) rfl ?_
  refine o_L (y_assign rfl) rfl rfl ?_
  refine o_nil0 rfl ?_
  refine c_seq ?_
  obtain ⟨m, hm⟩ := Int.eq_ofNat_of_zero_le (show 0 ≤ least ↑n (16 - s.count) by unfold least; omega)
  have hm2 : m ≤ n ∧ m ≤ 16 - s.count := by unfold least at hm; omega
  obtain ⟨a, ha⟩ := Int.eq_ofNat_of_zero_le (show 0 ≤ (s.head + s.count) % 16 by omega)
  obtain ⟨f, hf1, hf2, hf3⟩ := runs_ex a m
  refine c_draw #[true, true, true, true, true, true, true, true, true, true, true] rfl (n := 11) rfl ?_
  refine d_T 0 rfl (by kernel_rfl) rfl (y_move rfl) rfl ?_
  refine d_T 1 rfl (by kernel_rfl) rfl (y_nilck rfl) rfl ?_
  refine d_T 2 rfl (by kernel_rfl) rfl (y_fa fl_162_1 rfl) rfl ?_
  refine d_ld 3 rfl (by kernel_rfl) one_3 rfl (fun x hx => hx) m0 Sb.g16 rfl ?_
  refine d_T 4 rfl (by kernel_rfl) rfl (y_move rfl) rfl ?_
  refine d_T 5 rfl (by kernel_rfl) rfl (y_nilck rfl) rfl ?_
  refine d_T 6 rfl (by kernel_rfl) rfl (y_fa fl_162_2 rfl) rfl ?_
  refine d_ld 7 rfl (by kernel_rfl) one_3 rfl (fun x hx => hx) m0 Sb.g17 rfl ?_
  refine d_T 8 rfl (by kernel_rfl) rfl (y_add rfl rfl (w64 (by omega))) rfl ?_
  refine d_T 9 rfl (by kernel_rfl) rfl (y_rem rfl rfl (by decide) (tm (by omega))) rfl ?_
  refine d_L 10 rfl (by kernel_rfl) rfl (y_assign rfl) rfl rfl ?_
  refine d_nil0 (by kernel_rfl) rfl ?_
  refine c_seq ?_
  refine c_region ?_
  refine o_T (y_move rfl) rfl ?_
  refine o_T (y_sub rfl rfl (w64 (by omega))) rfl ?_
  refine o_L (y_assign rfl) rfl rfl ?_
  refine o_nil0 rfl ?_
  refine c_seq ?_
  refine c_seq ?_
  refine c_region ?_
  refine o_T (y_move rfl) rfl ?_
  refine o_T (y_move rfl) rfl ?_
  refine o_T (y_gtr rfl rfl) rfl ?_
  refine o_nil1 30 rfl rfl ?_
  refine c_cond rfl (fun h68 => ?_) (fun h68 => ?_)
  · try simp only [decide_eq_true_eq, decide_eq_false_iff_not, Bool.not_eq_true', Bool.not_eq_false', Int.not_lt, Int.not_le, Decidable.not_not, beq_iff_eq, bne_iff_ne, ne_eq, beq_eq_false_iff_ne] at h68
    refine c_region ?_
    refine o_T (y_move rfl) rfl ?_
    refine o_L (y_assign rfl) rfl rfl ?_
    refine o_nil0 rfl ?_
    refine c_seq ?_
    refine c_draw #[true, true, true, true, true, true, true, true, true, true, true, false] rfl (n := 12) rfl ?_
    refine d_T 0 rfl (by kernel_rfl) rfl (y_move rfl) rfl ?_
    refine d_T 1 rfl (by kernel_rfl) rfl (y_nilck rfl) rfl ?_
    refine d_T 2 rfl (by kernel_rfl) rfl (y_fa fl_162_0 rfl) rfl ?_
    refine d_T 3 rfl (by kernel_rfl) rfl (y_move rfl) rfl ?_
    refine d_T 4 rfl (by kernel_rfl) rfl (y_move rfl) rfl ?_
    refine d_T 5 rfl (by kernel_rfl) rfl (y_move rfl) rfl ?_
    refine d_T 6 rfl (by kernel_rfl) rfl (y_add rfl rfl (w64 (by omega))) rfl ?_
    refine d_T 7 rfl (by kernel_rfl) rfl (y_sla ar_160 rfl (bS (i := a) rfl (by omega)) (bS (i := (a + f)) rfl (by omega)) (by omega) (by omega)) rfl ?_
    refine d_T 8 rfl (by kernel_rfl) rfl (y_move rfl) rfl ?_
    refine d_T 9 rfl (by kernel_rfl) rfl (y_move rfl) rfl ?_
    refine d_T 10 rfl (by kernel_rfl) rfl (y_sls sl_81 rfl bN (bS (i := f) rfl (by omega)) (by omega) (by omega)) rfl ?_
    refine d_hard 11 rfl (by kernel_rfl) ?_
    refine o_copy (sz := 1) (f) sz_81 rfl rfl (by simp only [Nat.min_def]; split <;> omega) r0 (ms m0) (Sb.lay (a := a) (hy.sub 0 f (by omega) (by omega)) (by omega) (by omega) (by split <;> omega) (by split <;> omega)) (by simp only [Sb.size]; split <;> omega) (ext_fit (hy.sub 0 f (by omega) (by omega)) (by omega)) (ext_plain (hy.sub 0 f (by omega) (by omega)) (by omega)) (.inr ⟨_, rfl, rfl, rfl⟩) ?_
    refine o_stop (fun h => nomatch h) ?_
    refine d_nil0 (by kernel_rfl) rfl ?_
    refine c_seq ?_
    refine c_draw #[true, true, true, true, true, true, true, true, true, true, true, false] rfl (n := 12) rfl ?_
    refine d_T 0 rfl (by kernel_rfl) rfl (y_move rfl) rfl ?_
    refine d_T 1 rfl (by kernel_rfl) rfl (y_nilck rfl) rfl ?_
    refine d_T 2 rfl (by kernel_rfl) rfl (y_fa fl_162_0 rfl) rfl ?_
    refine d_T 3 rfl (by kernel_rfl) rfl (y_move rfl) rfl ?_
    refine d_T 4 rfl (by kernel_rfl) rfl (y_move rfl) rfl ?_
    refine d_T 5 rfl (by kernel_rfl) rfl (y_sub rfl rfl (w64 (by omega))) rfl ?_
    refine d_T 6 rfl (by kernel_rfl) rfl (y_sla ar_160 rfl bN (bS (i := (m - f)) rfl (by omega)) (by omega) (by omega)) rfl ?_
    refine d_T 7 rfl (by kernel_rfl) rfl (y_move rfl) rfl ?_
    refine d_T 8 rfl (by kernel_rfl) rfl (y_move rfl) rfl ?_
    refine d_T 9 rfl (by kernel_rfl) rfl (y_move rfl) rfl ?_
    refine d_T 10 rfl (by kernel_rfl) rfl (y_sls sl_81 rfl (bS (i := f) rfl (by omega)) (bS (i := m) rfl (by omega)) (by omega) (by omega)) rfl ?_
    refine d_hard 11 rfl (by kernel_rfl) ?_
    refine o_copy (sz := 1) (m - f) sz_81 rfl rfl (by simp only [Nat.min_def]; split <;> omega) r0 (ms m0) (Sb.lay (a := 0) (hy.sub f m (by omega) (by omega)) (by omega) (by omega) (by split <;> omega) (by split <;> omega)) (by simp only [Sb.size]; split <;> omega) (ext_fit (hy.sub f m (by omega) (by omega)) (by omega)) (ext_plain (hy.sub f m (by omega) (by omega)) (by omega)) (.inr ⟨_, rfl, rfl, rfl⟩) ?_
    refine o_stop (fun h => nomatch h) ?_
    refine d_nil0 (by kernel_rfl) rfl ?_
    refine c_seq ?_
    refine c_region ?_
    refine o_T (y_move rfl) rfl ?_
    refine o_T (y_nilck rfl) rfl ?_
    refine o_T (y_fa fl_162_2 rfl) rfl ?_
    refine o_ld one_3 rfl m0 Sb.g17 rfl ?_
    refine o_T (y_move rfl) rfl ?_
    refine o_T (y_add rfl rfl (w64 (by dsimp only; omega))) rfl ?_
    refine o_T (y_nilck rfl) rfl ?_
    refine o_T (y_fa fl_162_2 rfl) rfl ?_
    refine o_st one_3 rfl rfl rfl r0 Sb.s17 (of_blt rfl) ?_
    refine o_nil0 rfl ?_
    refine c_seq ?_
    refine c_region ?_
    refine o_T (y_move rfl) rfl ?_
    refine o_L (y_assign rfl) rfl rfl ?_
    refine o_nil0 rfl ?_
    refine c_ret ?_
    refine fun aX wX heX hsX => ret1 Tryz.results182 heX rfl (s_take (s_take s_nil)) ?_
    subst hn
    have e1 : a = ((s.head + s.count) % 16).toNat := by omega
    have e2 : m = (s.putN l).toNat := by unfold Sb.putN; omega
    subst e1 e2
    exact ⟨rfl, bs2 (congrArg (fun r => [(b, Obj.cells ({ s.put l with ring := r } : Sb).enc 162 (0, 0))]) (lay_lay s.ring _ _ _ l (by omega) (by omega) (by omega) hf1 hf2 hf3)) rfl⟩
  · try simp only [decide_eq_true_eq, decide_eq_false_iff_not, Bool.not_eq_true', Bool.not_eq_false', Int.not_lt, Int.not_le, Decidable.not_not, beq_iff_eq, bne_iff_ne, ne_eq, beq_eq_false_iff_ne] at h68
    refine c_skip ?_
    refine c_seq ?_
    refine c_draw #[true, true, true, true, true, true, true, true, true, true, true, false] rfl (n := 12) rfl ?_
    refine d_T 0 rfl (by kernel_rfl) rfl (y_move rfl) rfl ?_
    refine d_T 1 rfl (by kernel_rfl) rfl (y_nilck rfl) rfl ?_
    refine d_T 2 rfl (by kernel_rfl) rfl (y_fa fl_162_0 rfl) rfl ?_
    refine d_T 3 rfl (by kernel_rfl) rfl (y_move rfl) rfl ?_
    refine d_T 4 rfl (by kernel_rfl) rfl (y_move rfl) rfl ?_
    refine d_T 5 rfl (by kernel_rfl) rfl (y_move rfl) rfl ?_
    refine d_T 6 rfl (by kernel_rfl) rfl (y_add rfl rfl (w64 (by omega))) rfl ?_
    refine d_T 7 rfl (by kernel_rfl) rfl (y_sla ar_160 rfl (bS (i := a) rfl (by omega)) (bS (i := (a + f)) rfl (by omega)) (by omega) (by omega)) rfl ?_
    refine d_T 8 rfl (by kernel_rfl) rfl (y_move rfl) rfl ?_
    refine d_T 9 rfl (by kernel_rfl) rfl (y_move rfl) rfl ?_
    refine d_T 10 rfl (by kernel_rfl) rfl (y_sls sl_81 rfl bN (bS (i := f) rfl (by omega)) (by omega) (by omega)) rfl ?_
    refine d_hard 11 rfl (by kernel_rfl) ?_
    refine o_copy (sz := 1) (f) sz_81 rfl rfl (by simp only [Nat.min_def]; split <;> omega) r0 (ms m0) (Sb.lay (a := a) (hy.sub 0 f (by omega) (by omega)) (by omega) (by omega) (by split <;> omega) (by split <;> omega)) (by simp only [Sb.size]; split <;> omega) (ext_fit (hy.sub 0 f (by omega) (by omega)) (by omega)) (ext_plain (hy.sub 0 f (by omega) (by omega)) (by omega)) (.inr ⟨_, rfl, rfl, rfl⟩) ?_
    refine o_stop (fun h => nomatch h) ?_
    refine d_nil0 (by kernel_rfl) rfl ?_
    refine c_seq ?_
    refine c_draw #[true, true, true, true, true, true, true, true, true, true, true, false] rfl (n := 12) rfl ?_
    refine d_T 0 rfl (by kernel_rfl) rfl (y_move rfl) rfl ?_
    refine d_T 1 rfl (by kernel_rfl) rfl (y_nilck rfl) rfl ?_
    refine d_T 2 rfl (by kernel_rfl) rfl (y_fa fl_162_0 rfl) rfl ?_
    refine d_T 3 rfl (by kernel_rfl) rfl (y_move rfl) rfl ?_
    refine d_T 4 rfl (by kernel_rfl) rfl (y_move rfl) rfl ?_
    refine d_T 5 rfl (by kernel_rfl) rfl (y_sub rfl rfl (w64 (by omega))) rfl ?_
    refine d_T 6 rfl (by kernel_rfl) rfl (y_sla ar_160 rfl bN (bS (i := (m - f)) rfl (by omega)) (by omega) (by omega)) rfl ?_
    refine d_T 7 rfl (by kernel_rfl) rfl (y_move rfl) rfl ?_
    refine d_T 8 rfl (by kernel_rfl) rfl (y_move rfl) rfl ?_
    refine d_T 9 rfl (by kernel_rfl) rfl (y_move rfl) rfl ?_
    refine d_T 10 rfl (by kernel_rfl) rfl (y_sls sl_81 rfl (bS (i := f) rfl (by omega)) (bS (i := m) rfl (by omega)) (by omega) (by omega)) rfl ?_
    refine d_hard 11 rfl (by kernel_rfl) ?_
    refine o_copy (sz := 1) (m - f) sz_81 rfl rfl (by simp only [Nat.min_def]; split <;> omega) r0 (ms m0) (Sb.lay (a := 0) (hy.sub f m (by omega) (by omega)) (by omega) (by omega) (by split <;> omega) (by split <;> omega)) (by simp only [Sb.size]; split <;> omega) (ext_fit (hy.sub f m (by omega) (by omega)) (by omega)) (ext_plain (hy.sub f m (by omega) (by omega)) (by omega)) (.inr ⟨_, rfl, rfl, rfl⟩) ?_
    refine o_stop (fun h => nomatch h) ?_
    refine d_nil0 (by kernel_rfl) rfl ?_
    refine c_seq ?_
    refine c_region ?_
    refine o_T (y_move rfl) rfl ?_
    refine o_T (y_nilck rfl) rfl ?_
    refine o_T (y_fa fl_162_2 rfl) rfl ?_
    refine o_ld one_3 rfl m0 Sb.g17 rfl ?_
    refine o_T (y_move rfl) rfl ?_
    refine o_T (y_add rfl rfl (w64 (by dsimp only; omega))) rfl ?_
    refine o_T (y_nilck rfl) rfl ?_
    refine o_T (y_fa fl_162_2 rfl) rfl ?_
    refine o_st one_3 rfl rfl rfl r0 Sb.s17 (of_blt rfl) ?_
    refine o_nil0 rfl ?_
    refine c_seq ?_
    refine c_region ?_
    refine o_T (y_move rfl) rfl ?_
    refine o_L (y_assign rfl) rfl rfl ?_
    refine o_nil0 rfl ?_
    refine c_ret ?_
    refine fun aX wX heX hsX => ret1 Tryz.results182 heX rfl (s_take (s_take s_nil)) ?_
    subst hn
    have e1 : a = ((s.head + s.count) % 16).toNat := by omega
    have e2 : m = (s.putN l).toNat := by unfold Sb.putN; omega
    subst e1 e2
    exact ⟨rfl, bs2 (congrArg (fun r => [(b, Obj.cells ({ s.put l with ring := r } : Sb).enc 162 (0, 0))]) (lay_lay s.ring _ _ _ l (by omega) (by omega) (by omega) hf1 hf2 hf3)) rfl⟩

/-- (*e2e/seg.SendBuf).Again -/
theorem t203 (b : Nat) (s : Sb) (mx : Int) (ok : s.Ok) : Trip Tryz.prog 203 #[.pointer (some ⟨b, 0, none⟩), .int .i64 mx] [[(b, .cells s.enc 162 (0, 0))]] (fun u S' => ∃ b2, u = .tuple #[.int .i64 s.una, byV b2 (s.span 0 (s.againN mx))] ∧ S' = [byG b2 (s.span 0 (s.againN mx)) 5, [(b, .cells s.enc 162 (0, 0))]]) := by
  have ok0 := ok
  obtain ⟨k1, k2, k3, k4, k5, k6, k7, k8⟩ := ok
  have hA := Sb.againN_b ok0 mx
  unfold Sb.againN at hA
  refine fn_entry (args := [.pointer (some ⟨b, 0, none⟩), .int .i64 mx]) Tryz.func203 rfl Tryz.ntmps203 rfl (fun w0 => ?_)
  refine c_seq ?_
  refine c_region ?_
  refine o_L (y_assign rfl) rfl rfl ?_
  refine o_L (y_assign rfl) rfl rfl ?_
  refine o_nil0 rfl ?_
  refine c_seq ?_
  refine c_region ?_
  refine o_T (y_move rfl) rfl ?_
  refine o_T (y_move rfl) rfl ?_
  refine o_T (y_nilck rfl) rfl ?_
  refine o_T (y_fa fl_162_3 rfl) rfl ?_
  refine o_ld one_3 rfl m0 Sb.g18 rfl ?_
  refine o_callv en_209 rfl (t209 _ _) rfl ?_
  refine o_L (y_assign rfl) rfl rfl ?_
  refine o_nil0 rfl ?_
  refine c_seq ?_
  refine c_region ?_
  refine o_T (y_move rfl) rfl ?_
  refine o_T (y_move rfl) rfl ?_
  refine o_call en_216 rfl (t216 _ _ _ _ (by assumption) (by omega) (by omega)) (s_take s_nil) rfl ?_
  rintro v S' ⟨b_1, rfl, rfl⟩
  refine o_L (y_assign rfl) rfl rfl ?_
  refine o_nil0 rfl ?_
  refine c_seq ?_
  refine c_region ?_
  refine o_T (y_move rfl) rfl ?_
  refine o_T (y_nilck rfl) rfl ?_
  refine o_T (y_fa fl_162_4 rfl) rfl ?_
  refine o_ld one_5 rfl (ms m0) Sb.g19 rfl ?_
  refine o_T (y_conv Tryz.underlying5 Tryz.underlying3 rfl (w64 (by omega))) rfl ?_
  refine o_T (y_move rfl) rfl ?_
  refine o_L (y_assign rfl) rfl rfl ?_
  refine o_L (y_assign rfl) rfl rfl ?_
  refine o_nil0 rfl ?_
  refine c_ret ?_
  refine fun aX wX heX hsX => ret2 Tryz.results203 heX rfl rfl (s_take (s_take s_nil)) ?_
  exact ⟨_, rfl, rfl⟩

/-- (*e2e/seg.SendBuf).Next -/
theorem t204 (b : Nat) (s : Sb) (mx : Int) (ok : s.Ok) : Trip Tryz.prog 204 #[.pointer (some ⟨b, 0, none⟩), .int .i64 mx] [[(b, .cells s.enc 162 (0, 0))]] (fun u S' => ∃ b2, u = .tuple #[.int .i64 s.nxt, byV b2 (s.span s.sent (s.nextN mx))] ∧ S' = [byG b2 (s.span s.sent (s.nextN mx)) 5, [(b, .cells (s.next mx).enc 162 (0, 0))]]) := by
  have ok0 := ok
  obtain ⟨k1, k2, k3, k4, k5, k6, k7, k8⟩ := ok
  have hA := Sb.nextN_b ok0 mx
  unfold Sb.nextN at hA
  refine fn_entry (args := [.pointer (some ⟨b, 0, none⟩), .int .i64 mx]) Tryz.func204 rfl Tryz.ntmps204 rfl (fun w0 => ?_)
  refine c_seq ?_
  refine c_region ?_
  refine o_L (y_assign rfl) rfl rfl ?_
  refine o_L (y_assign rfl) rfl rfl ?_
  refine o_nil0 rfl ?_
  refine c_seq ?_
  refine c_draw #[true, true, true, true, true, true, true, true, true, true, true, true] rfl (n := 12) rfl ?_
  refine d_T 0 rfl (by kernel_rfl) rfl (y_move rfl) rfl ?_
  refine d_T 1 rfl (by kernel_rfl) rfl (y_move rfl) rfl ?_
  refine d_T 2 rfl (by kernel_rfl) rfl (y_nilck rfl) rfl ?_
  refine d_T 3 rfl (by kernel_rfl) rfl (y_fa fl_162_2 rfl) rfl ?_
  refine d_ld 4 rfl (by kernel_rfl) one_3 rfl (fun x hx => hx) m0 Sb.g17 rfl ?_
  refine d_T 5 rfl (by kernel_rfl) rfl (y_move rfl) rfl ?_
  refine d_T 6 rfl (by kernel_rfl) rfl (y_nilck rfl) rfl ?_
  refine d_T 7 rfl (by kernel_rfl) rfl (y_fa fl_162_3 rfl) rfl ?_
  refine d_ld 8 rfl (by kernel_rfl) one_3 rfl (fun x hx => hx) m0 Sb.g18 rfl ?_
  refine d_T 9 rfl (by kernel_rfl) rfl (y_sub rfl rfl (w64 (by omega))) rfl ?_
  refine d_hard 10 rfl (by kernel_rfl) ?_
  refine o_callv en_209 rfl (t209 _ _) rfl ?_
  refine o_stop (fun _ => (fun x hx => hx)) ?_
  refine d_L 11 rfl (by kernel_rfl) rfl (y_assign rfl) rfl rfl ?_
  refine d_nil0 (by kernel_rfl) rfl ?_
  refine c_seq ?_
  refine c_region ?_
  refine o_T (y_move rfl) rfl ?_
  refine o_callrv en_205 rfl (t205 _ _ (by assumption)) (s_take s_nil) rfl ?_
  refine o_L (y_assign rfl) rfl rfl ?_
  refine o_nil0 rfl ?_
  refine c_seq ?_
  refine c_region ?_
  refine o_T (y_move rfl) rfl ?_
  refine o_T (y_move rfl) rfl ?_
  refine o_T (y_nilck rfl) rfl ?_
  refine o_T (y_fa fl_162_3 rfl) rfl ?_
  refine o_ld one_3 rfl m0 Sb.g18 rfl ?_
  refine o_T (y_move rfl) rfl ?_
  refine o_call en_216 rfl (t216 _ _ _ _ (by assumption) (by omega) (by omega)) (s_take s_nil) rfl ?_
  rintro v S' ⟨b_1, rfl, rfl⟩
  refine o_L (y_assign rfl) rfl rfl ?_
  refine o_nil0 rfl ?_
  refine c_seq ?_
  refine c_region ?_
  refine o_T (y_move rfl) rfl ?_
  refine o_T (y_nilck rfl) rfl ?_
  refine o_T (y_fa fl_162_3 rfl) rfl ?_
  refine o_ld one_3 rfl (ms m0) Sb.g18 rfl ?_
  refine o_T (y_move rfl) rfl ?_
  refine o_T (y_add rfl rfl (w64 (by omega))) rfl ?_
  refine o_T (y_nilck rfl) rfl ?_
  refine o_T (y_fa fl_162_3 rfl) rfl ?_
  refine o_st one_3 rfl rfl rfl (rs r0) Sb.s18 (of_blt rfl) ?_
  refine o_nil0 rfl ?_
  refine c_seq ?_
  refine c_region ?_
  refine o_T (y_move rfl) rfl ?_
  refine o_T (y_move rfl) rfl ?_
  refine o_L (y_assign rfl) rfl rfl ?_
  refine o_L (y_assign rfl) rfl rfl ?_
  refine o_nil0 rfl ?_
  refine c_ret ?_
  refine fun aX wX heX hsX => ret2 Tryz.results204 heX rfl rfl (s_take (s_take s_nil)) ?_
  exact ⟨_, rfl, rfl⟩

/-- (*e2e/seg.RecvBuf).Avail -/
theorem t112 (b : Nat) (r : Rb) (ok : r.Ok) : Trip Tryz.prog 112 #[.pointer (some ⟨b, 0, none⟩)] [[(b, .cells r.enc 165 (0, 0))]] (fun u S' => u = .int .i64 r.avail ∧ S' = [[(b, .cells r.enc 165 (0, 0))]]) := by
  have ok0 := ok
  obtain ⟨k1, k2, k3, k4, k5, k6, k8⟩ := ok
  refine fn_entry (args := [.pointer (some ⟨b, 0, none⟩)]) Tryz.func112 rfl Tryz.ntmps112 rfl (fun w0 => ?_)
  refine c_seq ?_
  refine c_region ?_
  refine o_L (y_assign rfl) rfl rfl ?_
  refine o_nil0 rfl ?_
  refine c_seq ?_
  refine c_region ?_
  refine o_T (y_move rfl) rfl ?_
  refine o_T (y_nilck rfl) rfl ?_
  refine o_T (y_fa fl_165_2 rfl) rfl ?_
  refine o_ld one_3 rfl m0 Rb.g17 rfl ?_
  refine o_L (y_assign rfl) rfl rfl ?_
  refine o_nil0 rfl ?_
  refine c_ret ?_
  refine fun aX wX heX hsX => ret1 Tryz.results112 heX rfl (s_take s_nil) ?_
  exact ⟨rfl, rfl⟩

/-- (*e2e/seg.RecvBuf).Nxt -/
theorem t145 (b : Nat) (r : Rb) (ok : r.Ok) : Trip Tryz.prog 145 #[.pointer (some ⟨b, 0, none⟩)] [[(b, .cells r.enc 165 (0, 0))]] (fun u S' => u = .int .i64 r.nxt ∧ S' = [[(b, .cells r.enc 165 (0, 0))]]) := by
  have ok0 := ok
  obtain ⟨k1, k2, k3, k4, k5, k6, k8⟩ := ok
  refine fn_entry (args := [.pointer (some ⟨b, 0, none⟩)]) Tryz.func145 rfl Tryz.ntmps145 rfl (fun w0 => ?_)
  refine c_seq ?_
  refine c_region ?_
  refine o_L (y_assign rfl) rfl rfl ?_
  refine o_nil0 rfl ?_
  refine c_seq ?_
  refine c_region ?_
  refine o_T (y_move rfl) rfl ?_
  refine o_T (y_nilck rfl) rfl ?_
  refine o_T (y_fa fl_165_1 rfl) rfl ?_
  refine o_ld one_5 rfl m0 Rb.g16 rfl ?_
  refine o_T (y_conv Tryz.underlying5 Tryz.underlying3 rfl (w64 (by omega))) rfl ?_
  refine o_L (y_assign rfl) rfl rfl ?_
  refine o_nil0 rfl ?_
  refine c_ret ?_
  refine fun aX wX heX hsX => ret1 Tryz.results145 heX rfl (s_take s_nil) ?_
  exact ⟨rfl, rfl⟩

/-- (*e2e/seg.RecvBuf).Window -/
theorem t215 (b : Nat) (r : Rb) (ok : r.Ok) : Trip Tryz.prog 215 #[.pointer (some ⟨b, 0, none⟩)] [[(b, .cells r.enc 165 (0, 0))]] (fun u S' => u = .int .i64 (16 - r.avail) ∧ S' = [[(b, .cells r.enc 165 (0, 0))]]) := by
  have ok0 := ok
  obtain ⟨k1, k2, k3, k4, k5, k6, k8⟩ := ok
  refine fn_entry (args := [.pointer (some ⟨b, 0, none⟩)]) Tryz.func215 rfl Tryz.ntmps215 rfl (fun w0 => ?_)
  refine c_seq ?_
  refine c_region ?_
  refine o_L (y_assign rfl) rfl rfl ?_
  refine o_nil0 rfl ?_
  refine c_seq ?_
  refine c_region ?_
  refine o_T (y_move rfl) rfl ?_
  refine o_T (y_nilck rfl) rfl ?_
  refine o_T (y_fa fl_165_2 rfl) rfl ?_
  refine o_ld one_3 rfl m0 Rb.g17 rfl ?_
  refine o_T (y_sub rfl rfl (w64 (by omega))) rfl ?_
  refine o_L (y_assign rfl) rfl rfl ?_
  refine o_nil0 rfl ?_
  refine c_ret ?_
  refine fun aX wX heX hsX => ret1 Tryz.results215 heX rfl (s_take s_nil) ?_
  exact ⟨rfl, rfl⟩

/-- (*e2e/seg.RecvBuf).Reset -/
theorem t197 (b : Nat) (r : Rb) (q : Int) (ok : r.Ok) : Trip Tryz.prog 197 #[.pointer (some ⟨b, 0, none⟩), .int .i64 q] [[(b, .cells r.enc 165 (0, 0))]] (fun u S' => u = .tuple #[] ∧ S' = [[(b, .cells (r.reset q).enc 165 (0, 0))]] ∧ (r.reset q).Ok) := by
  have q0 := seqAdd_b q 0
  refine fn_entry (args := [.pointer (some ⟨b, 0, none⟩), .int .i64 q]) Tryz.func197 rfl Tryz.ntmps197 rfl (fun w0 => ?_)
  refine c_seq ?_
  refine c_region ?_
  refine o_T (y_move rfl) rfl ?_
  refine o_callv en_143 rfl (t143 _ _) rfl ?_
  refine o_L (y_assign rfl) rfl rfl ?_
  refine o_nil0 rfl ?_
  refine c_seq ?_
  refine c_region ?_
  refine o_T (y_move rfl) rfl ?_
  refine o_T (y_move rfl) rfl ?_
  refine o_T (y_conv Tryz.underlying3 Tryz.underlying5 rfl (w8 _)) rfl ?_
  refine o_T (y_nilck rfl) rfl ?_
  refine o_T (y_fa fl_165_1 rfl) rfl ?_
  refine o_st one_5 rfl rfl rfl r0 Rb.s16 (of_blt rfl) ?_
  refine o_nil0 rfl ?_
  refine c_seq ?_
  refine c_region ?_
  refine o_T (y_move rfl) rfl ?_
  refine o_T (y_nilck rfl) rfl ?_
  refine o_T (y_fa fl_165_2 rfl) rfl ?_
  refine o_st one_3 rfl rfl rfl r0 Rb.s17 (of_blt rfl) ?_
  refine o_nil0 rfl ?_
  refine c_region ?_
  refine o_T (y_move rfl) rfl ?_
  refine o_T (y_nilck rfl) rfl ?_
  refine o_T (y_fa fl_165_3 rfl) rfl ?_
  refine o_st one_163 rfl rfl rfl r0 Rb.s18 (of_blt rfl) ?_
  refine o_nil0 rfl ?_
  refine fun aX wX heX hsX => ret0 Tryz.results197 (s_take s_nil) ?_
  refine ⟨rfl, by simp [Rb.reset, Int.emod_eq_of_lt q0.1 q0.2], Rb.ok_reset ok _⟩

/-- (*e2e/seg.RecvBuf).Read -/
theorem t183 (b : Nat) (r : Rb) (mx : Int) (ok : r.Ok) : Trip Tryz.prog 183 #[.pointer (some ⟨b, 0, none⟩), .int .i64 mx] [[(b, .cells r.enc 165 (0, 0))]] (fun u S' => ∃ b2, u = byV b2 (r.first (r.readN mx)) ∧ S' = [byG b2 (r.first (r.readN mx)) 5, [(b, .cells (r.read mx).enc 165 (0, 0))]]) := by
  have ok0 := ok
  obtain ⟨k1, k2, k3, k4, k5, k6, k8⟩ := ok
  have hA := Rb.readN_b ok0 mx
  unfold Rb.readN at hA
  refine fn_entry (args := [.pointer (some ⟨b, 0, none⟩), .int .i64 mx]) Tryz.func183 rfl Tryz.ntmps183 rfl (fun w0 => ?_)
  refine c_seq ?_
  refine c_region ?_
  refine o_L (y_assign rfl) rfl rfl ?_
  refine o_nil0 rfl ?_
  refine c_seq ?_
  refine c_region ?_
  refine o_T (y_move rfl) rfl ?_
  refine o_T (y_move rfl) rfl ?_
  refine o_T (y_nilck rfl) rfl ?_
  refine o_T (y_fa fl_165_2 rfl) rfl ?_
  refine o_ld one_3 rfl m0 Rb.g17 rfl ?_
  refine o_callv en_209 rfl (t209 _ _) rfl ?_
  refine o_L (y_assign rfl) rfl rfl ?_
  refine o_nil0 rfl ?_
  refine c_seq ?_
  refine c_region ?_
  refine o_T (y_move rfl) rfl ?_
  refine o_T (y_move rfl) rfl ?_
  refine o_call en_210 rfl (t210 _ _ _ (by assumption) (by omega)) (s_take s_nil) rfl ?_
  rintro v S' ⟨b_1, rfl, rfl⟩
  refine o_L (y_assign rfl) rfl rfl ?_
  refine o_nil0 rfl ?_
  refine c_seq ?_
  refine c_region ?_
  refine o_T (y_move rfl) rfl ?_
  refine o_T (y_nilck rfl) rfl ?_
  refine o_T (y_fa fl_165_2 rfl) rfl ?_
  refine o_ld one_3 rfl (ms m0) Rb.g17 rfl ?_
  refine o_T (y_move rfl) rfl ?_
  refine o_T (y_sub rfl rfl (w64 (by omega))) rfl ?_
  refine o_T (y_nilck rfl) rfl ?_
  refine o_T (y_fa fl_165_2 rfl) rfl ?_
  refine o_st one_3 rfl rfl rfl (rs r0) Rb.s17 (of_blt rfl) ?_
  refine o_nil0 rfl ?_
  refine c_seq ?_
  refine c_region ?_
  refine o_T (y_move rfl) rfl ?_
  refine o_L (y_assign rfl) rfl rfl ?_
  refine o_nil0 rfl ?_
  refine c_ret ?_
  refine fun aX wX heX hsX => ret1 Tryz.results183 heX rfl (s_take (s_take s_nil)) ?_
  exact ⟨_, rfl, rfl⟩

/-- e2e/seg.NewSendBuf -/
theorem t61  : Trip Tryz.prog 61 #[] [] (fun u S' => ∃ b, u = .pointer (some ⟨b, 0, none⟩) ∧ S' = [[(b, .cells Sb.zero.enc 162 (0, 0))]]) := by
  refine fn_entry (args := []) Tryz.func61 rfl Tryz.ntmps61 rfl (fun w0 => ?_)
  refine c_seq ?_
  refine c_region ?_
  refine o_L (y_assign rfl) rfl rfl ?_
  refine o_nil0 rfl ?_
  refine c_seq ?_
  refine c_region ?_
  refine o_T (y_build st_162 rfl (cs := Sb.enc (Sb.mk _ _ _ _ _)) rfl) rfl ?_
  refine o_box rfl rfl rfl rfl (fun b_1 => ?_)
  refine o_L (y_assign rfl) rfl rfl ?_
  refine o_nil0 rfl ?_
  refine c_ret ?_
  refine fun aX wX heX hsX => ret1 Tryz.results61 heX rfl (s_take s_nil) ?_
  exact ⟨_, rfl, rfl⟩

/-- e2e/seg.NewRecvBuf -/
theorem t62  : Trip Tryz.prog 62 #[] [] (fun u S' => ∃ b, u = .pointer (some ⟨b, 0, none⟩) ∧ S' = [[(b, .cells Rb.zero.enc 165 (0, 0))]]) := by
  refine fn_entry (args := []) Tryz.func62 rfl Tryz.ntmps62 rfl (fun w0 => ?_)
  refine c_seq ?_
  refine c_region ?_
  refine o_L (y_assign rfl) rfl rfl ?_
  refine o_nil0 rfl ?_
  refine c_seq ?_
  refine c_region ?_
  refine o_T (y_build st_165 rfl (cs := Rb.enc (Rb.mk _ _ _ _)) rfl) rfl ?_
  refine o_box rfl rfl rfl rfl (fun b_1 => ?_)
  refine o_L (y_assign rfl) rfl rfl ?_
  refine o_nil0 rfl ?_
  refine c_ret ?_
  refine fun aX wX heX hsX => ret1 Tryz.results62 heX rfl (s_take s_nil) ?_
  exact ⟨_, rfl, rfl⟩

end Go.Proofs.Qxb6500351aGreat
