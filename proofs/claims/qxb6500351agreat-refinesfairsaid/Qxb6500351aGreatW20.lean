/- MADE BY PROGRAM (tools/gen.py over tools/specs351.py): walks. -/
import Derived.Test.Qxb6500351aGreatFacts
import Derived.Test.Qxb6500351aGreatW19
set_option linter.unusedVariables false
set_option linter.unusedSimpArgs false
namespace Go.Proofs.Qxb6500351aGreat
open Go.Eng
set_option maxRecDepth 20000
set_option maxHeartbeats 4000000
/-- (*e2e/ip.IP).lay -/
theorem t153 (b : Nat) (p : Ipt) (i off : Nat) (b2 o n cap e : Nat) (cs : Array Value) (l : List Int) (ok : p.Ok) (hi : i < 3) (hf : off + n ≤ 40) (hy : BytAt o n cap cs l) : Trip Tryz.prog 153 #[.pointer (some ⟨b, 0, none⟩), .int .i64 (i : Int), .int .i64 (off : Int), .slice (some ⟨b2, o, none⟩) n cap] [[(b, .cells p.enc 153 (0, 0))], [(b2, .cells cs e (0, 0))]] (fun u S' => u = .tuple #[] ∧ S' = [[(b, .cells (p.lay i off l).enc 153 (0, 0))], [(b2, .cells cs e (0, 0))]]) := by
  have hn := hy.n_eq
  have hs := (ok.slot i).held
  refine fn_entry (args := [.pointer (some ⟨b, 0, none⟩), .int .i64 (i : Int), .int .i64 (off : Int), .slice (some ⟨b2, o, none⟩) n cap]) Tryz.func153 rfl Tryz.ntmps153 rfl (fun w0 => ?_)
  refine c_seq ?_
  refine c_seq ?_
  refine c_row (g' := [(b, .cells (p.layTo i off l 0).enc 153 (0, 0))]) q0 (by rw [Ipt.layTo_zero]) ?_
  refine c_region ?_
  refine o_L (y_assign rfl) rfl rfl ?_
  refine o_nil0 rfl ?_
  refine c_block ?_
  refine c_loopG (ι := Nat) (fun i_ => [(8, .int .i64 (i_ : Int))]) (fun i_ => [[(b, .cells (p.layTo i off l i_).enc 153 (0, 0))]]) (fun i_ => i_ ≤ n) (fun i_ => n - i_) 0 (by omega) ⟨by first | rfl | exact gteI rfl (by omega), trivial⟩ (s_take (s_take s_nil)) ?_
  rintro k hI
  try dsimp only at hI
  have hh : ((p.layTo i off l k).tab i).held = (p.tab i).held := by simp only [Ipt.layTo, upA_at]
  refine c_seq ?_
  refine c_seq ?_
  refine c_region ?_
  refine o_T (y_move rfl) rfl ?_
  refine o_T (y_move rfl) rfl ?_
  refine o_T (y_len Tryz.underlying81 rfl) rfl ?_
  refine o_T (y_lss rfl rfl) rfl ?_
  refine o_nil1 12 rfl rfl ?_
  refine c_cond rfl (fun h40 => ?_) (fun h40 => ?_)
  · try simp only [decide_eq_true_eq, decide_eq_false_iff_not, Bool.not_eq_true', Bool.not_eq_false', Int.not_lt, Int.not_le, Decidable.not_not, beq_iff_eq, bne_iff_ne, ne_eq, beq_eq_false_iff_ne] at h40
    refine c_skip ?_
    refine c_seq ?_
    refine c_block ?_
    refine c_draw #[true, true, true, true, true, true, true, true, true, true, true, true, true, true, false] rfl (n := 15) rfl ?_
    refine d_T 0 rfl (by kernel_rfl) rfl (y_move rfl) rfl ?_
    refine d_T 1 rfl (by kernel_rfl) rfl (y_move rfl) rfl ?_
    refine d_T 2 rfl (by kernel_rfl) rfl (y_move rfl) rfl ?_
    refine d_T 3 rfl (by kernel_rfl) rfl (y_move rfl) rfl ?_
    refine d_T 4 rfl (by kernel_rfl) rfl (y_add rfl rfl (w64 (by omega))) rfl ?_
    refine d_T 5 rfl (by kernel_rfl) rfl (y_move rfl) rfl ?_
    refine d_T 6 rfl (by kernel_rfl) rfl (y_move rfl) rfl ?_
    refine d_T 7 rfl (by kernel_rfl) rfl (y_is sl_81 rfl rfl (by omega) (by omega)) rfl ?_
    refine d_ld 8 rfl (by kernel_rfl) one_5 rfl (fun x hx => hx) (ms m0) (hy.getD (i := k) (by omega) rfl) rfl ?_
    refine d_T 9 rfl (by kernel_rfl) rfl (y_nilck rfl) rfl ?_
    refine d_T 10 rfl (by kernel_rfl) rfl (y_fa fl_153_3 rfl) rfl ?_
    refine d_T 11 rfl (by kernel_rfl) rfl (y_ia ar_151 rfl rfl (by omega) (by omega)) rfl ?_
    refine d_T 12 rfl (by kernel_rfl) rfl (y_fa fl_150_5 rfl) rfl ?_
    refine d_T 13 rfl (by kernel_rfl) rfl (y_ia ar_148 rfl rfl (by omega) (by omega)) rfl ?_
    refine d_hard 14 rfl (by kernel_rfl) ?_
    refine o_st one_5 rfl rfl rfl r0 (Ipt.s_tab_buf i (by omega) (off + k) (by omega) (by omega)) (by simp only [Ipt.size]; omega) ?_
    refine o_stop (fun h => nomatch h) ?_
    refine d_nil0 (by kernel_rfl) rfl ?_
    refine c_region ?_
    refine o_T (y_move rfl) rfl ?_
    refine o_T (y_add rfl rfl (w64 (by omega))) rfl ?_
    refine o_L (y_assign rfl) rfl rfl ?_
    refine o_nil0 rfl ?_
    have e9 := Ipt.layTo_succ p i off l k (by omega)
    refine ⟨(k + 1), ⟨by omega, by first | omega | (dsimp only; omega)⟩, ⟨by first | rfl | exact gteI rfl (by omega), trivial⟩, ⟨rfl, rfl⟩, _, (by dsimp only; rw [e9]; exact (s_take (s_take s_nil)))⟩
  · try simp only [decide_eq_true_eq, decide_eq_false_iff_not, Bool.not_eq_true', Bool.not_eq_false', Int.not_lt, Int.not_le, Decidable.not_not, beq_iff_eq, bne_iff_ne, ne_eq, beq_eq_false_iff_ne] at h40
    refine c_exit ?_
    refine c_draw #[true, true, true, true, true, true, true, true, true, true, true, true, true, true, true, true, true, true, false] rfl (n := 19) rfl ?_
    refine d_T 0 rfl (by kernel_rfl) rfl (y_move rfl) rfl ?_
    refine d_T 1 rfl (by kernel_rfl) rfl (y_move rfl) rfl ?_
    refine d_T 2 rfl (by kernel_rfl) rfl (y_nilck rfl) rfl ?_
    refine d_T 3 rfl (by kernel_rfl) rfl (y_fa fl_153_3 rfl) rfl ?_
    refine d_T 4 rfl (by kernel_rfl) rfl (y_ia ar_151 rfl rfl (by omega) (by omega)) rfl ?_
    refine d_T 5 rfl (by kernel_rfl) rfl (y_fa fl_150_4 rfl) rfl ?_
    refine d_ld 6 rfl (by kernel_rfl) one_147 rfl (fun x hx => hx) m0 (Ipt.g_tab_held i (by omega) (by omega)) rfl ?_
    refine d_T 7 rfl (by kernel_rfl) rfl (y_move rfl) rfl ?_
    refine d_T 8 rfl (by kernel_rfl) rfl (y_len Tryz.underlying81 rfl) rfl ?_
    refine d_T 10 rfl (by kernel_rfl) rfl (y_move rfl) rfl ?_
    refine d_T 11 rfl (by kernel_rfl) rfl (y_conv Tryz.underlying3 Tryz.underlying131 rfl (w64ui (by omega))) rfl ?_
    refine d_T 14 rfl (by kernel_rfl) rfl (y_nilck rfl) rfl ?_
    refine d_T 15 rfl (by kernel_rfl) rfl (y_fa fl_153_3 rfl) rfl ?_
    refine d_hard 9 rfl (by kernel_rfl) ?_
    refine o_callv en_190 rfl (t190 _ (by omega)) rfl ?_
    refine o_stop (fun _ => (fun x hx => hx)) ?_
    refine d_T 12 rfl (by kernel_rfl) rfl (y_shl rfl rfl (by omega) (shl_mask off rfl (by simp <;> omega))) rfl ?_
    refine d_T 13 rfl (by kernel_rfl) rfl (y_or rfl rfl (or_mask (by rw [hh]; exact hs) (mask_lt (by simp <;> omega)))) rfl ?_
    refine d_T 16 rfl (by kernel_rfl) rfl (y_ia ar_151 rfl rfl (by omega) (by omega)) rfl ?_
    refine d_T 17 rfl (by kernel_rfl) rfl (y_fa fl_150_4 rfl) rfl ?_
    refine d_hard 18 rfl (by kernel_rfl) ?_
    refine o_st one_147 rfl rfl rfl r0 (Ipt.s_tab_held i (by omega) (by omega)) (by simp only [Ipt.size]; omega) ?_
    refine o_stop (fun h => nomatch h) ?_
    refine d_nil0 (by kernel_rfl) rfl ?_
    refine fun aX wX heX hsX => ret0 Tryz.results153 (s_take (s_take s_nil)) ?_
    obtain rfl : k = n := by omega
    subst hn
    refine ⟨rfl, ?_⟩
    simp only [Ipt.lay, Ipt.layTo, upA_upA, upA_at, List.take_length, Int.toNat_natCast]

end Go.Proofs.Qxb6500351aGreat
