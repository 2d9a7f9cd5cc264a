/- MADE BY PROGRAM (tools/gen.py over tools/specs351.py): walks. -/
import Derived.Test.Qxb6500351aGreatFacts
import Derived.Test.Qxb6500351aGreatW14
set_option linter.unusedVariables false
set_option linter.unusedSimpArgs false
namespace Go.Proofs.Qxb6500351aGreat
open Go.Eng
set_option maxRecDepth 20000
set_option maxHeartbeats 4000000
/-- (*e2e/frame.Link).Decode -/
theorem t114 (b : Nat) (k : Lk) (b2 o n cap e : Nat) (cs : Array Value) (l : List Int) (hk : 0 ≤ k.addr ∧ k.addr < 256) (hy : BytAt o n cap cs l) : Trip Tryz.prog 114 #[.pointer (some ⟨b, 0, none⟩), .slice (some ⟨b2, o, none⟩) n cap] [[(b, .cells k.enc 146 (0, 0))], [(b2, .cells cs e (0, 0))]] (fun u S' => (∃ k' : Lk, k'.addr = k.addr ∧ (frDecE k.addr l) ≠ 0 ∧ u = .tuple #[.agg Fr.zero.enc, .int .i64 (frDecE k.addr l)] ∧ S' = [[(b, .cells k'.enc 146 (0, 0))], [(b2, .cells cs e (0, 0))]]) ∨ (∃ (k' : Lk) (b3 : Nat), k'.addr = k.addr ∧ (frDecE k.addr l) = 0 ∧ u = .tuple #[.agg (Fr.enc (Fr.mk (l.getD 0 0) (l.getD 1 0) (l.getD 2 0) (byV b3 (frPay l)))), .int .i64 0] ∧ S' = [byG b3 (frPay l) 5, [(b, .cells k'.enc 146 (0, 0))], [(b2, .cells cs e (0, 0))]])) := by
  have hn := hy.n_eq
  have hl := hy.len
  have hcp := hy.cap
  have u0 := hy.rng 0
  have u1 := hy.rng 1
  have u2 := hy.rng 2
  have u3 := hy.rng 3
  refine fn_entry (args := [.pointer (some ⟨b, 0, none⟩), .slice (some ⟨b2, o, none⟩) n cap]) Tryz.func114 rfl Tryz.ntmps114 rfl (fun w0 => ?_)
  refine c_seq ?_
  refine c_region ?_
  refine o_alloc ze_170 rfl rfl (fun b_1 => ?_)
  refine o_L (y_assign rfl) rfl rfl ?_
  refine o_nil0 rfl ?_
  refine c_seq ?_
  refine c_region ?_
  refine o_T (y_move rfl) rfl ?_
  refine o_callrv en_146 rfl (t146 _ _ _ _ _ _ _ hy) (s_skip (s_skip (s_take s_nil))) rfl ?_
  refine o_L (y_assign rfl) rfl rfl ?_
  refine o_nil0 rfl ?_
  refine c_seq ?_
  refine c_seq ?_
  refine c_region ?_
  refine o_T (y_move rfl) rfl ?_
  refine o_T (y_neq rfl rfl) rfl ?_
  refine o_nil1 11 rfl rfl ?_
  refine c_cond rfl (fun h103 => ?_) (fun h103 => ?_)
  · try simp only [decide_eq_true_eq, decide_eq_false_iff_not, Bool.not_eq_true', Bool.not_eq_false', Int.not_lt, Int.not_le, Decidable.not_not, beq_iff_eq, bne_iff_ne, ne_eq, beq_eq_false_iff_ne] at h103
    refine c_seq ?_
    refine c_region ?_
    refine o_T (y_move rfl) rfl ?_
    refine o_call en_147 rfl (t147 _ _ _ (by omega)) (s_skip (s_take s_nil)) rfl ?_
    rintro v S' ⟨lk_1, hlk_1, rfl, rfl⟩
    refine o_nil0 rfl ?_
    refine c_seq ?_
    refine c_region ?_
    refine o_T (y_build st_170 rfl fb0) rfl ?_
    refine o_T (y_move rfl) rfl ?_
    refine o_sta ag_170 rfl rfl rfl rfl (rs r0) (setAll_full _ _ rfl) (of_ble rfl) ?_
    refine o_L (y_assign rfl) rfl rfl ?_
    refine o_nil0 rfl ?_
    refine c_ret ?_
    refine fun aX wX heX hsX => retct Tryz.results114 heX hsX rfl rfl ag_170 (ms m0) rfl (s_take (s_skip (s_take s_nil))) ?_
    have e1 : frDecE k.addr l = soundF l := by unfold frDecE; rw [if_neg h103]
    rw [e1]
    exact .inl ⟨_, hlk_1, h103, rfl, rfl⟩
  · try simp only [decide_eq_true_eq, decide_eq_false_iff_not, Bool.not_eq_true', Bool.not_eq_false', Int.not_lt, Int.not_le, Decidable.not_not, beq_iff_eq, bne_iff_ne, ne_eq, beq_eq_false_iff_ne] at h103
    refine c_skip ?_
    refine c_seq ?_
    refine c_seq ?_
    have hsn := sound_ok h103
    refine c_draw #[true, true, true, true, true, true, true, true] rfl (n := 8) rfl ?_
    refine d_T 0 rfl (by kernel_rfl) rfl (y_move rfl) rfl ?_
    refine d_T 1 rfl (by kernel_rfl) rfl (y_is sl_81 rfl rfl (by omega) (by omega)) rfl ?_
    refine d_ld 2 rfl (by kernel_rfl) one_5 rfl (fun x hx => hx) (ms (ms m0)) (hy.getD (i := 0) (by omega) rfl) rfl ?_
    refine d_T 3 rfl (by kernel_rfl) rfl (y_move rfl) rfl ?_
    refine d_T 4 rfl (by kernel_rfl) rfl (y_nilck rfl) rfl ?_
    refine d_T 5 rfl (by kernel_rfl) rfl (y_fa fl_146_0 rfl) rfl ?_
    refine d_ld 6 rfl (by kernel_rfl) one_5 rfl (fun x hx => hx) (ms m0) Lk.g0 rfl ?_
    refine d_T 7 rfl (by kernel_rfl) rfl (y_neq rfl rfl) rfl ?_
    refine d_nil1 23 (by kernel_rfl) rfl rfl ?_
    refine c_cond rfl (fun h107 => ?_) (fun h107 => ?_)
    · try simp only [decide_eq_true_eq, decide_eq_false_iff_not, Bool.not_eq_true', Bool.not_eq_false', Int.not_lt, Int.not_le, Decidable.not_not, beq_iff_eq, bne_iff_ne, ne_eq, beq_eq_false_iff_ne] at h107
      refine c_seq ?_
      refine c_region ?_
      refine o_T (y_move rfl) rfl ?_
      refine o_call en_147 rfl (t147 _ _ _ (by omega)) (s_skip (s_take s_nil)) rfl ?_
      rintro v S' ⟨lk_2, hlk_2, rfl, rfl⟩
      refine o_nil0 rfl ?_
      refine c_seq ?_
      refine c_region ?_
      refine o_T (y_build st_170 rfl fb0) rfl ?_
      refine o_sta ag_170 rfl rfl rfl rfl (rs r0) (setAll_full _ _ rfl) (of_ble rfl) ?_
      refine o_L (y_assign rfl) rfl rfl ?_
      refine o_nil0 rfl ?_
      refine c_ret ?_
      refine fun aX wX heX hsX => retct Tryz.results114 heX hsX rfl rfl ag_170 (ms m0) rfl (s_take (s_skip (s_take s_nil))) ?_
      have e1 : frDecE k.addr l = 7 := by unfold frDecE; rw [if_pos h103, if_neg h107]
      rw [e1]
      exact .inl ⟨_, hlk_2, by decide, rfl, rfl⟩
    · try simp only [decide_eq_true_eq, decide_eq_false_iff_not, Bool.not_eq_true', Bool.not_eq_false', Int.not_lt, Int.not_le, Decidable.not_not, beq_iff_eq, bne_iff_ne, ne_eq, beq_eq_false_iff_ne] at h107
      refine c_skip ?_
      refine c_seq ?_
      refine c_region ?_
      refine o_T (y_move rfl) rfl ?_
      refine o_call en_147 rfl (t147 _ _ _ (by omega)) (s_skip (s_take s_nil)) rfl ?_
      rintro v S' ⟨lk_3, hlk_3, rfl, rfl⟩
      refine o_nil0 rfl ?_
      refine c_seq ?_
      refine c_region ?_
      refine o_T (y_move rfl) rfl ?_
      refine o_T (y_is sl_81 rfl rfl (by omega) (by omega)) rfl ?_
      refine o_ld one_5 rfl (ms (ms m0)) (hy.getD (i := 3) (by omega) rfl) rfl ?_
      refine o_T (y_conv Tryz.underlying5 Tryz.underlying3 rfl (w64y hy)) rfl ?_
      refine o_makeB ((l.getD 3 0).toNat) sz_81 rfl rfl (by first | rfl | omega) (by first | rfl | omega) (by omega) (by omega) rfl (fun b_2 => ?_)
      refine o_L (y_assign rfl) rfl rfl ?_
      refine o_nil0 rfl ?_
      refine c_seq ?_
      refine c_region ?_
      refine o_T (y_move rfl) rfl ?_
      refine o_T (y_move rfl) rfl ?_
      refine o_T (y_sls sl_81 rfl (bS (i := 4) rfl rfl) bN (by omega) (by omega)) rfl ?_
      refine o_copyB ((l.getD 3 0).toNat) sz_81 rfl rfl (hy.sub 4 _ (by omega) (by omega)) (by first | rfl | (simp only [Nat.min_def]; split <;> omega)) r0 (ms (ms (ms m0))) (by first | (simp only [List.length_set, List.length_replicate, List.length_append, List.length_take, List.length_drop, List.length_map, List.length_range]; (try split) <;> omega) | (simp <;> omega)) (.inr ⟨_, rfl, rfl, rfl⟩) ?_
      refine o_nil0 rfl ?_
      refine c_seq ?_
      refine c_draw #[true, true, true, true, true, true, true, true, true, true, true, true, true, true, false, true] rfl (n := 16) rfl ?_
      refine d_T 0 rfl (by kernel_rfl) rfl (y_move rfl) rfl ?_
      refine d_T 1 rfl (by kernel_rfl) rfl (y_is sl_81 rfl rfl (by omega) (by omega)) rfl ?_
      refine d_ld 2 rfl (by kernel_rfl) one_5 rfl (fun x hx => hx) (ms (ms (ms m0))) (hy.getD (i := 0) (by omega) rfl) rfl ?_
      refine d_T 3 rfl (by kernel_rfl) rfl (y_conv Tryz.underlying5 Tryz.underlying3 rfl (w64y hy)) rfl ?_
      refine d_T 4 rfl (by kernel_rfl) rfl (y_move rfl) rfl ?_
      refine d_T 5 rfl (by kernel_rfl) rfl (y_is sl_81 rfl rfl (by omega) (by omega)) rfl ?_
      refine d_ld 6 rfl (by kernel_rfl) one_5 rfl (fun x hx => hx) (ms (ms (ms m0))) (hy.getD (i := 1) (by omega) rfl) rfl ?_
      refine d_T 7 rfl (by kernel_rfl) rfl (y_conv Tryz.underlying5 Tryz.underlying3 rfl (w64y hy)) rfl ?_
      refine d_T 8 rfl (by kernel_rfl) rfl (y_move rfl) rfl ?_
      refine d_T 9 rfl (by kernel_rfl) rfl (y_is sl_81 rfl rfl (by omega) (by omega)) rfl ?_
      refine d_ld 10 rfl (by kernel_rfl) one_5 rfl (fun x hx => hx) (ms (ms (ms m0))) (hy.getD (i := 2) (by omega) rfl) rfl ?_
      refine d_T 11 rfl (by kernel_rfl) rfl (y_conv Tryz.underlying5 Tryz.underlying3 rfl (w64y hy)) rfl ?_
      refine d_T 12 rfl (by kernel_rfl) rfl (y_move rfl) rfl ?_
      refine d_T 13 rfl (by kernel_rfl) rfl (y_build st_170 rfl (fb rfl rfl rfl Fr.s0 (fb rfl rfl rfl Fr.s1 (fb rfl rfl rfl Fr.s2 (fb rfl rfl rfl Fr.s3 fb0))))) rfl ?_
      refine d_hard 14 rfl (by kernel_rfl) ?_
      refine o_sta ag_170 rfl rfl rfl rfl (rs (rs r0)) (setAll_full _ _ rfl) (of_ble rfl) ?_
      refine o_stop (fun h => nomatch h) ?_
      refine d_L 15 rfl (by kernel_rfl) rfl (y_assign rfl) rfl rfl ?_
      refine d_nil0 (by kernel_rfl) rfl ?_
      refine c_ret ?_
      refine fun aX wX heX hsX => retct Tryz.results114 heX hsX rfl rfl ag_170 (ms (ms m0)) rfl (s_take (s_take (s_skip (s_take s_nil)))) ?_
      have e1 : frDecE k.addr l = 0 := by unfold frDecE; rw [if_pos h103, if_pos h107]
      have e2 : (l.getD 3 0).toNat = l.length - 6 := by omega
      have e3 : (frPay l).length = (l.getD 3 0).toNat := by unfold frPay; rw [List.length_take, List.length_drop, Nat.min_def]; split <;> omega
      exact .inr ⟨_, _, hlk_3, e1, congrArg (fun v => Value.tuple #[.agg (Fr.enc (Fr.mk (l.getD 0 0) (l.getD 1 0) (l.getD 2 0) v)), .int .i64 0]) (byV_eq e3), congrArg (fun g => [g, _, _]) (byG_eq (frPay_eq e2 hn))⟩

end Go.Proofs.Qxb6500351aGreat
