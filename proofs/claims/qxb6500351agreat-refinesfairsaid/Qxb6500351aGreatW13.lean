/- MADE BY PROGRAM (tools/gen.py over tools/specs351.py): walks. -/
import Derived.Test.Qxb6500351aGreatFacts
import Derived.Test.Qxb6500351aGreatMd7
import Derived.Test.Qxb6500351aGreatW5
set_option linter.unusedVariables false
set_option linter.unusedSimpArgs false
namespace Go.Proofs.Qxb6500351aGreat
open Go.Eng
set_option maxRecDepth 20000
set_option maxHeartbeats 4000000
/-- (*e2e/frame.Sum).Add -/
theorem t200 (b : Nat) (x : Sm) (c : Int) : Trip Tryz.prog 200 #[.pointer (some ⟨b, 0, none⟩), .int .u8 c] [[(b, .cells x.enc 222 (0, 0))]] (fun u S' => u = .tuple #[] ∧ S' = [[(b, .cells (smStep x c).enc 222 (0, 0))]]) := by
  refine fn_entry (args := [.pointer (some ⟨b, 0, none⟩), .int .u8 c]) Tryz.func200 rfl Tryz.ntmps200 rfl (fun w0 => ?_)
  refine c_seq ?_
  refine c_region ?_
  refine o_T (y_move rfl) rfl ?_
  refine o_T (y_nilck rfl) rfl ?_
  refine o_T (y_fa fl_222_0 rfl) rfl ?_
  refine o_ld one_5 rfl m0 Sm.g0 rfl ?_
  refine o_T (y_move rfl) rfl ?_
  refine o_T (y_add rfl rfl (w8 _)) rfl ?_
  refine o_T (y_nilck rfl) rfl ?_
  refine o_T (y_fa fl_222_0 rfl) rfl ?_
  refine o_st one_5 rfl rfl rfl r0 Sm.s0 (of_blt rfl) ?_
  refine o_nil0 rfl ?_
  refine c_draw #[true, true, true, true, true, true, true, true, true, true, true, false] rfl (n := 12) rfl ?_
  refine d_T 0 rfl (by kernel_rfl) rfl (y_move rfl) rfl ?_
  refine d_T 1 rfl (by kernel_rfl) rfl (y_nilck rfl) rfl ?_
  refine d_T 2 rfl (by kernel_rfl) rfl (y_fa fl_222_1 rfl) rfl ?_
  refine d_ld 3 rfl (by kernel_rfl) one_5 rfl (fun x hx => hx) m0 Sm.g1 rfl ?_
  refine d_T 4 rfl (by kernel_rfl) rfl (y_move rfl) rfl ?_
  refine d_T 5 rfl (by kernel_rfl) rfl (y_nilck rfl) rfl ?_
  refine d_T 6 rfl (by kernel_rfl) rfl (y_fa fl_222_0 rfl) rfl ?_
  refine d_ld 7 rfl (by kernel_rfl) one_5 rfl (fun x hx => hx) m0 Sm.g0 rfl ?_
  refine d_T 8 rfl (by kernel_rfl) rfl (y_add rfl rfl (w8 _)) rfl ?_
  refine d_T 9 rfl (by kernel_rfl) rfl (y_nilck rfl) rfl ?_
  refine d_T 10 rfl (by kernel_rfl) rfl (y_fa fl_222_1 rfl) rfl ?_
  refine d_hard 11 rfl (by kernel_rfl) ?_
  refine o_st one_5 rfl rfl rfl r0 Sm.s1 (of_blt rfl) ?_
  refine o_stop (fun h => nomatch h) ?_
  refine d_nil0 (by kernel_rfl) rfl ?_
  refine fun aX wX heX hsX => ret0 Tryz.results200 (s_take s_nil) ?_
  exact ⟨rfl, rfl⟩

/-- (*e2e/frame.Sum).AddAll -/
theorem t187 (b : Nat) (x : Sm) (b2 o n cap e : Nat) (cs : Array Value) (l : List Int) (hy : BytAt o n cap cs l) : Trip Tryz.prog 187 #[.pointer (some ⟨b, 0, none⟩), .slice (some ⟨b2, o, none⟩) n cap] [[(b, .cells x.enc 222 (0, 0))], [(b2, .cells cs e (0, 0))]] (fun u S' => u = .tuple #[] ∧ S' = [[(b, .cells (smAll x l).enc 222 (0, 0))], [(b2, .cells cs e (0, 0))]]) := by
  have hn := hy.n_eq
  have hl := hy.len
  refine fn_entry (args := [.pointer (some ⟨b, 0, none⟩), .slice (some ⟨b2, o, none⟩) n cap]) Tryz.func187 rfl Tryz.ntmps187 rfl (fun w0 => ?_)
  refine c_seq ?_
  refine c_region ?_
  refine o_L (y_assign rfl) rfl rfl ?_
  refine o_nil0 rfl ?_
  refine c_block ?_
  refine c_loopG (ι := Nat) (fun i => [(4, .int .i64 (i : Int))]) (fun i => [[(b, .cells (smAll x (l.take i)).enc 222 (0, 0))]]) (fun i => i ≤ n) (fun i => n - i) 0 (by omega) ⟨by first | rfl | exact gteI rfl (by omega), trivial⟩ (s_take (s_take s_nil)) ?_
  rintro k hI
  try dsimp only at hI
  refine c_seq ?_
  refine c_seq ?_
  refine c_region ?_
  refine o_T (y_move rfl) rfl ?_
  refine o_T (y_move rfl) rfl ?_
  refine o_T (y_len Tryz.underlying81 rfl) rfl ?_
  refine o_T (y_lss rfl rfl) rfl ?_
  refine o_nil1 8 rfl rfl ?_
  refine c_cond rfl (fun h23 => ?_) (fun h23 => ?_)
  · try simp only [decide_eq_true_eq, decide_eq_false_iff_not, Bool.not_eq_true', Bool.not_eq_false', Int.not_lt, Int.not_le, Decidable.not_not, beq_iff_eq, bne_iff_ne, ne_eq, beq_eq_false_iff_ne] at h23
    refine c_skip ?_
    refine c_seq ?_
    refine c_block ?_
    refine c_region ?_
    refine o_T (y_move rfl) rfl ?_
    refine o_T (y_move rfl) rfl ?_
    refine o_T (y_move rfl) rfl ?_
    refine o_T (y_is sl_81 rfl rfl (by omega) (by omega)) rfl ?_
    refine o_ld one_5 rfl (ms m0) (hy.getD (i := k) (by omega) rfl) rfl ?_
    refine o_call en_200 rfl (t200 _ _ _) (s_take s_nil) rfl ?_
    rintro v S' ⟨rfl, rfl⟩
    refine o_nil0 rfl ?_
    refine c_region ?_
    refine o_T (y_move rfl) rfl ?_
    refine o_T (y_add rfl rfl (w64 (by omega))) rfl ?_
    refine o_L (y_assign rfl) rfl rfl ?_
    refine o_nil0 rfl ?_
    rw [← smAll_take x l k (by omega)]
    refine ⟨(k + 1), ⟨by omega, by first | omega | (dsimp only; omega)⟩, ⟨by first | rfl | exact gteI rfl (by omega), trivial⟩, ⟨rfl, rfl⟩, _, ((s_take (s_take s_nil)))⟩
  · try simp only [decide_eq_true_eq, decide_eq_false_iff_not, Bool.not_eq_true', Bool.not_eq_false', Int.not_lt, Int.not_le, Decidable.not_not, beq_iff_eq, bne_iff_ne, ne_eq, beq_eq_false_iff_ne] at h23
    refine c_exit ?_
    refine fun aX wX heX hsX => ret0 Tryz.results187 (s_take (s_take s_nil)) ?_
    exact ⟨rfl, by rw [List.take_of_length_le (by omega)]⟩

/-- (*e2e/frame.Sum).A -/
theorem t188 (b : Nat) (x : Sm) : Trip Tryz.prog 188 #[.pointer (some ⟨b, 0, none⟩)] [[(b, .cells x.enc 222 (0, 0))]] (fun u S' => u = .int .u8 x.a ∧ S' = [[(b, .cells x.enc 222 (0, 0))]]) := by
  refine fn_entry (args := [.pointer (some ⟨b, 0, none⟩)]) Tryz.func188 rfl Tryz.ntmps188 rfl (fun w0 => ?_)
  refine c_seq ?_
  refine c_region ?_
  refine o_L (y_assign rfl) rfl rfl ?_
  refine o_nil0 rfl ?_
  refine c_seq ?_
  refine c_region ?_
  refine o_T (y_move rfl) rfl ?_
  refine o_T (y_nilck rfl) rfl ?_
  refine o_T (y_fa fl_222_0 rfl) rfl ?_
  refine o_ld one_5 rfl m0 Sm.g0 rfl ?_
  refine o_L (y_assign rfl) rfl rfl ?_
  refine o_nil0 rfl ?_
  refine c_ret ?_
  refine fun aX wX heX hsX => ret1 Tryz.results188 heX rfl (s_take s_nil) ?_
  exact ⟨rfl, rfl⟩

/-- (*e2e/frame.Sum).B -/
theorem t189 (b : Nat) (x : Sm) : Trip Tryz.prog 189 #[.pointer (some ⟨b, 0, none⟩)] [[(b, .cells x.enc 222 (0, 0))]] (fun u S' => u = .int .u8 x.s ∧ S' = [[(b, .cells x.enc 222 (0, 0))]]) := by
  refine fn_entry (args := [.pointer (some ⟨b, 0, none⟩)]) Tryz.func189 rfl Tryz.ntmps189 rfl (fun w0 => ?_)
  refine c_seq ?_
  refine c_region ?_
  refine o_L (y_assign rfl) rfl rfl ?_
  refine o_nil0 rfl ?_
  refine c_seq ?_
  refine c_region ?_
  refine o_T (y_move rfl) rfl ?_
  refine o_T (y_nilck rfl) rfl ?_
  refine o_T (y_fa fl_222_1 rfl) rfl ?_
  refine o_ld one_5 rfl m0 Sm.g1 rfl ?_
  refine o_L (y_assign rfl) rfl rfl ?_
  refine o_nil0 rfl ?_
  refine c_ret ?_
  refine fun aX wX heX hsX => ret1 Tryz.results189 heX rfl (s_take s_nil) ?_
  exact ⟨rfl, rfl⟩

/-- (*e2e/frame.Link).Addr -/
theorem t68 (b : Nat) (k : Lk) (h : 0 ≤ k.addr ∧ k.addr < 256) : Trip Tryz.prog 68 #[.pointer (some ⟨b, 0, none⟩)] [[(b, .cells k.enc 146 (0, 0))]] (fun u S' => u = .int .i64 k.addr ∧ S' = [[(b, .cells k.enc 146 (0, 0))]]) := by
  refine fn_entry (args := [.pointer (some ⟨b, 0, none⟩)]) Tryz.func68 rfl Tryz.ntmps68 rfl (fun w0 => ?_)
  refine c_seq ?_
  refine c_region ?_
  refine o_L (y_assign rfl) rfl rfl ?_
  refine o_nil0 rfl ?_
  refine c_seq ?_
  refine c_region ?_
  refine o_T (y_move rfl) rfl ?_
  refine o_T (y_nilck rfl) rfl ?_
  refine o_T (y_fa fl_146_0 rfl) rfl ?_
  refine o_ld one_5 rfl m0 Lk.g0 rfl ?_
  refine o_T (y_conv Tryz.underlying5 Tryz.underlying3 rfl (w64 (by omega))) rfl ?_
  refine o_L (y_assign rfl) rfl rfl ?_
  refine o_nil0 rfl ?_
  refine c_ret ?_
  refine fun aX wX heX hsX => ret1 Tryz.results68 heX rfl (s_take s_nil) ?_
  exact ⟨rfl, rfl⟩

/-- e2e/frame.New -/
theorem t58 (a : Int) (h : 0 ≤ a ∧ a < 256) : Trip Tryz.prog 58 #[.int .i64 a] [] (fun u S' => ∃ b, u = .pointer (some ⟨b, 0, none⟩) ∧ S' = [[(b, .cells (Lk.mk a (fun _ => 0) 0).enc 146 (0, 0))]]) := by
  refine fn_entry (args := [.int .i64 a]) Tryz.func58 rfl Tryz.ntmps58 rfl (fun w0 => ?_)
  refine c_seq ?_
  refine c_region ?_
  refine o_L (y_assign rfl) rfl rfl ?_
  refine o_nil0 rfl ?_
  refine c_seq ?_
  refine c_region ?_
  refine o_T (y_move rfl) rfl ?_
  refine o_T (y_and rfl rfl (and255 h)) rfl ?_
  refine o_T (y_conv Tryz.underlying3 Tryz.underlying5 rfl ((w8 _).trans (Int.emod_eq_of_lt h.1 h.2))) rfl ?_
  refine o_T (y_build st_146 rfl (fb rfl rfl rfl Lk.s0 fb0)) rfl ?_
  refine o_box rfl rfl rfl rfl (fun b_1 => ?_)
  refine o_L (y_assign rfl) rfl rfl ?_
  refine o_nil0 rfl ?_
  refine c_ret ?_
  refine fun aX wX heX hsX => ret1 Tryz.results58 heX rfl (s_take s_nil) ?_
  exact ⟨_, rfl, rfl⟩

/-- (*e2e/frame.Link).count -/
theorem t147 (b : Nat) (k : Lk) (c : Int) (hc : 0 ≤ c ∧ c < 4) : Trip Tryz.prog 147 #[.pointer (some ⟨b, 0, none⟩), .int .i64 c] [[(b, .cells k.enc 146 (0, 0))]] (fun u S' => ∃ k' : Lk, k'.addr = k.addr ∧ u = .tuple #[] ∧ S' = [[(b, .cells k'.enc 146 (0, 0))]]) := by
  refine fn_entry (args := [.pointer (some ⟨b, 0, none⟩), .int .i64 c]) Tryz.func147 rfl Tryz.ntmps147 rfl (fun w0 => ?_)
  refine c_seq ?_
  refine c_draw #[true, true, true, true, true, true, true, true, true, true, false] rfl (n := 11) rfl ?_
  refine d_T 0 rfl (by kernel_rfl) rfl (y_move rfl) rfl ?_
  refine d_T 1 rfl (by kernel_rfl) rfl (y_move rfl) rfl ?_
  refine d_T 2 rfl (by kernel_rfl) rfl (y_nilck rfl) rfl ?_
  refine d_T 3 rfl (by kernel_rfl) rfl (y_fa fl_146_1 rfl) rfl ?_
  refine d_T 4 rfl (by kernel_rfl) rfl (y_ia ar_144 rfl rfl (by omega) (by omega)) rfl ?_
  refine d_ld 5 rfl (by kernel_rfl) one_3 rfl (fun x hx => hx) m0 (Lk.g_n _ (by omega) rfl) rfl ?_
  refine d_T 6 rfl (by kernel_rfl) rfl (y_add rfl rfl rfl) rfl ?_
  refine d_T 7 rfl (by kernel_rfl) rfl (y_nilck rfl) rfl ?_
  refine d_T 8 rfl (by kernel_rfl) rfl (y_fa fl_146_1 rfl) rfl ?_
  refine d_T 9 rfl (by kernel_rfl) rfl (y_ia ar_144 rfl rfl (by omega) (by omega)) rfl ?_
  refine d_hard 10 rfl (by kernel_rfl) ?_
  refine o_st one_3 rfl rfl rfl r0 (Lk.s_n _ (by omega) rfl) (by simp only [Lk.size]; omega) ?_
  refine o_stop (fun h => nomatch h) ?_
  refine d_nil0 (by kernel_rfl) rfl ?_
  refine c_region ?_
  refine o_T (y_move rfl) rfl ?_
  refine o_T (y_nilck rfl) rfl ?_
  refine o_T (y_fa fl_146_2 rfl) rfl ?_
  refine o_ld one_3 rfl m0 Lk.g5 rfl ?_
  refine o_T (y_add rfl rfl rfl) rfl ?_
  refine o_T (y_nilck rfl) rfl ?_
  refine o_T (y_fa fl_146_2 rfl) rfl ?_
  refine o_st one_3 rfl rfl rfl r0 Lk.s5 (of_blt rfl) ?_
  refine o_nil0 rfl ?_
  refine fun aX wX heX hsX => ret0 Tryz.results147 (s_take s_nil) ?_
  exact ⟨⟨k.addr, upA k.n c.toNat _, _⟩, rfl, rfl, rfl⟩

/-- e2e/frame.sound -/
theorem t146 (b o n cap e : Nat) (cs : Array Value) (l : List Int) (hy : BytAt o n cap cs l) : Trip Tryz.prog 146 #[.slice (some ⟨b, o, none⟩) n cap] [[(b, .cells cs e (0, 0))]] (fun u S' => u = .int .i64 (soundF l) ∧ S' = [[(b, .cells cs e (0, 0))]]) := by
  have hn := hy.n_eq
  have hl := hy.len
  have hc := hy.cap
  have u3 := hy.rng 3
  refine fn_entry (args := [.slice (some ⟨b, o, none⟩) n cap]) Tryz.func146 rfl Tryz.ntmps146 rfl (fun w0 => ?_)
  refine c_seq ?_
  refine c_region ?_
  refine o_L (y_assign rfl) rfl rfl ?_
  refine o_nil0 rfl ?_
  refine c_seq ?_
  refine c_region ?_
  refine o_T (y_move rfl) rfl ?_
  refine o_T (y_len Tryz.underlying81 rfl) rfl ?_
  refine o_T (y_sub rfl rfl (w64 (by omega))) rfl ?_
  refine o_L (y_assign rfl) rfl rfl ?_
  refine o_nil0 rfl ?_
  refine c_seq ?_
  refine c_seq ?_
  refine c_region ?_
  refine o_T (y_move rfl) rfl ?_
  refine o_T (y_lss rfl rfl) rfl ?_
  refine o_nil1 11 rfl rfl ?_
  refine c_cond rfl (fun h81 => ?_) (fun h81 => ?_)
  · try simp only [decide_eq_true_eq, decide_eq_false_iff_not, Bool.not_eq_true', Bool.not_eq_false', Int.not_lt, Int.not_le, Decidable.not_not, beq_iff_eq, bne_iff_ne, ne_eq, beq_eq_false_iff_ne] at h81
    refine c_seq ?_
    refine c_region ?_
    refine o_L (y_assign rfl) rfl rfl ?_
    refine o_nil0 rfl ?_
    refine c_ret ?_
    refine fun aX wX heX hsX => ret1 Tryz.results146 heX rfl (s_take s_nil) ?_
    exact ⟨congrArg (Value.int .i64) (by unfold soundF; rw [if_pos (by omega)]), rfl⟩
  · try simp only [decide_eq_true_eq, decide_eq_false_iff_not, Bool.not_eq_true', Bool.not_eq_false', Int.not_lt, Int.not_le, Decidable.not_not, beq_iff_eq, bne_iff_ne, ne_eq, beq_eq_false_iff_ne] at h81
    refine c_skip ?_
    refine c_seq ?_
    refine c_seq ?_
    refine c_region ?_
    refine o_T (y_move rfl) rfl ?_
    refine o_T (y_gtr rfl rfl) rfl ?_
    refine o_nil1 13 rfl rfl ?_
    refine c_cond rfl (fun h84 => ?_) (fun h84 => ?_)
    · try simp only [decide_eq_true_eq, decide_eq_false_iff_not, Bool.not_eq_true', Bool.not_eq_false', Int.not_lt, Int.not_le, Decidable.not_not, beq_iff_eq, bne_iff_ne, ne_eq, beq_eq_false_iff_ne] at h84
      refine c_seq ?_
      refine c_region ?_
      refine o_L (y_assign rfl) rfl rfl ?_
      refine o_nil0 rfl ?_
      refine c_ret ?_
      refine fun aX wX heX hsX => ret1 Tryz.results146 heX rfl (s_take s_nil) ?_
      exact ⟨congrArg (Value.int .i64) (by unfold soundF; rw [if_neg (by omega), if_pos (by omega)]), rfl⟩
    · try simp only [decide_eq_true_eq, decide_eq_false_iff_not, Bool.not_eq_true', Bool.not_eq_false', Int.not_lt, Int.not_le, Decidable.not_not, beq_iff_eq, bne_iff_ne, ne_eq, beq_eq_false_iff_ne] at h84
      refine c_skip ?_
      refine c_seq ?_
      refine c_seq ?_
      refine c_region ?_
      refine o_T (y_move rfl) rfl ?_
      refine o_T (y_is sl_81 rfl rfl (by omega) (by omega)) rfl ?_
      refine o_ld one_5 rfl m0 (hy.getD (i := 3) (by omega) rfl) rfl ?_
      refine o_T (y_conv Tryz.underlying5 Tryz.underlying3 rfl (w64y hy)) rfl ?_
      refine o_T (y_move rfl) rfl ?_
      refine o_T (y_sub rfl rfl (w64 (by omega))) rfl ?_
      refine o_T (y_neq rfl rfl) rfl ?_
      refine o_nil1 20 rfl rfl ?_
      refine c_cond rfl (fun h87 => ?_) (fun h87 => ?_)
      · try simp only [decide_eq_true_eq, decide_eq_false_iff_not, Bool.not_eq_true', Bool.not_eq_false', Int.not_lt, Int.not_le, Decidable.not_not, beq_iff_eq, bne_iff_ne, ne_eq, beq_eq_false_iff_ne] at h87
        refine c_seq ?_
        refine c_region ?_
        refine o_L (y_assign rfl) rfl rfl ?_
        refine o_nil0 rfl ?_
        refine c_ret ?_
        refine fun aX wX heX hsX => ret1 Tryz.results146 heX rfl (s_take s_nil) ?_
        exact ⟨congrArg (Value.int .i64) (by unfold soundF; rw [if_neg (by omega), if_neg (by omega), if_pos (by omega)]), rfl⟩
      · try simp only [decide_eq_true_eq, decide_eq_false_iff_not, Bool.not_eq_true', Bool.not_eq_false', Int.not_lt, Int.not_le, Decidable.not_not, beq_iff_eq, bne_iff_ne, ne_eq, beq_eq_false_iff_ne] at h87
        refine c_skip ?_
        refine c_seq ?_
        refine c_region ?_
        refine o_alloc ze_222 rfl rfl (fun b_1 => ?_)
        refine o_nil0 rfl ?_
        refine c_seq ?_
        refine c_region ?_
        refine o_T (y_move rfl) rfl ?_
        refine o_T (y_move rfl) rfl ?_
        refine o_T (y_sls sl_81 rfl bN (bS (i := (n - 2)) rfl (by omega)) (by omega) (by omega)) rfl ?_
        refine o_call en_187 rfl (t187 _ _ _ _ _ _ _ _ _ (hy.sub 0 (n - 2) (by omega) (by omega))) (s_take (s_take s_nil)) rfl ?_
        rintro v S' ⟨rfl, rfl⟩
        refine o_nil0 rfl ?_
        refine c_seq ?_
        refine c_region ?_
        refine o_callrv en_188 rfl (t188 _ _) (s_take s_nil) rfl ?_
        refine o_L (y_assign rfl) rfl rfl ?_
        refine o_nil0 rfl ?_
        refine c_seq ?_
        refine c_region ?_
        refine o_callrv en_189 rfl (t189 _ _) (s_take s_nil) rfl ?_
        refine o_L (y_assign rfl) rfl rfl ?_
        refine o_nil0 rfl ?_
        refine c_seq ?_
        refine c_seq ?_
        refine c_region ?_
        refine o_T (y_move rfl) rfl ?_
        refine o_T (y_move rfl) rfl ?_
        refine o_T (y_move rfl) rfl ?_
        refine o_T (y_is sl_81 rfl rfl (by omega) (by omega)) rfl ?_
        refine o_ld one_5 rfl (ms m0) (hy.getD (by omega) rfl) rfl ?_
        refine o_T (y_neq rfl rfl) rfl ?_
        refine o_T (y_move rfl) rfl ?_
        refine o_split 33 rfl (fun h94 => ?_) (fun h94 => ?_)
        · try simp only [decide_eq_true_eq, decide_eq_false_iff_not, Bool.not_eq_true', Bool.not_eq_false', Int.not_lt, Int.not_le, Decidable.not_not, beq_iff_eq, bne_iff_ne, ne_eq, beq_eq_false_iff_ne] at h94
          refine o_pass rfl rfl rfl rfl rfl ?_
          refine o_pass rfl rfl rfl rfl rfl ?_
          refine o_pass rfl rfl rfl rfl rfl ?_
          refine o_pass rfl rfl rfl rfl rfl ?_
          refine o_pass rfl rfl rfl rfl rfl ?_
          refine o_pass rfl rfl rfl rfl rfl ?_
          refine o_pass rfl rfl rfl rfl rfl ?_
          refine o_T (y_pickT rfl rfl) rfl ?_
          refine o_nil1 41 rfl rfl ?_
          refine c_condT rfl ?_
          refine c_seq ?_
          refine c_region ?_
          refine o_L (y_assign rfl) rfl rfl ?_
          refine o_nil0 rfl ?_
          refine c_ret ?_
          refine fun aX wX heX hsX => ret1 Tryz.results146 heX rfl (s_skip (s_take s_nil)) ?_
          subst hn
          have e5 : ((l.length : Int) - 2).toNat = l.length - 2 := by omega
          have e6 : ((l.length : Int) - 2 + 1).toNat = l.length - 1 := by omega
          rw [e5] at h94
          exact ⟨congrArg (Value.int .i64) (by unfold soundF; rw [if_neg (by omega), if_neg (by omega), if_neg (by omega), if_pos (.inl h94)]), rfl⟩
        · try simp only [decide_eq_true_eq, decide_eq_false_iff_not, Bool.not_eq_true', Bool.not_eq_false', Int.not_lt, Int.not_le, Decidable.not_not, beq_iff_eq, bne_iff_ne, ne_eq, beq_eq_false_iff_ne] at h94
          refine o_take rfl rfl rfl ?_
          refine o_T (y_move rfl) rfl ?_
          refine o_take rfl rfl rfl ?_
          refine o_T (y_move rfl) rfl ?_
          refine o_take rfl rfl rfl ?_
          refine o_T (y_move rfl) rfl ?_
          refine o_take rfl rfl rfl ?_
          refine o_T (y_add rfl rfl (w64 (by omega))) rfl ?_
          refine o_take rfl rfl rfl ?_
          refine o_T (y_is sl_81 rfl rfl (by omega) (by omega)) rfl ?_
          refine o_take rfl rfl rfl ?_
          refine o_ld one_5 rfl (ms m0) (hy.getD (by omega) rfl) rfl ?_
          refine o_take rfl rfl rfl ?_
          refine o_T (y_neq rfl rfl) rfl ?_
          refine o_T (y_pickF rfl rfl) rfl ?_
          refine o_nil1 41 rfl rfl ?_
          refine c_cond rfl (fun h94_1 => ?_) (fun h94_1 => ?_)
          · try simp only [decide_eq_true_eq, decide_eq_false_iff_not, Bool.not_eq_true', Bool.not_eq_false', Int.not_lt, Int.not_le, Decidable.not_not, beq_iff_eq, bne_iff_ne, ne_eq, beq_eq_false_iff_ne] at h94_1
            refine c_seq ?_
            refine c_region ?_
            refine o_L (y_assign rfl) rfl rfl ?_
            refine o_nil0 rfl ?_
            refine c_ret ?_
            refine fun aX wX heX hsX => ret1 Tryz.results146 heX rfl (s_skip (s_take s_nil)) ?_
            subst hn
            have e5 : ((l.length : Int) - 2).toNat = l.length - 2 := by omega
            have e6 : ((l.length : Int) - 2 + 1).toNat = l.length - 1 := by omega
            rw [e6] at h94_1
            exact ⟨congrArg (Value.int .i64) (by unfold soundF; rw [if_neg (by omega), if_neg (by omega), if_neg (by omega), if_pos (.inr h94_1)]), rfl⟩
          · try simp only [decide_eq_true_eq, decide_eq_false_iff_not, Bool.not_eq_true', Bool.not_eq_false', Int.not_lt, Int.not_le, Decidable.not_not, beq_iff_eq, bne_iff_ne, ne_eq, beq_eq_false_iff_ne] at h94_1
            refine c_skip ?_
            refine c_seq ?_
            refine c_region ?_
            refine o_L (y_assign rfl) rfl rfl ?_
            refine o_nil0 rfl ?_
            refine c_ret ?_
            refine fun aX wX heX hsX => ret1 Tryz.results146 heX rfl (s_skip (s_take s_nil)) ?_
            subst hn
            have e5 : ((l.length : Int) - 2).toNat = l.length - 2 := by omega
            have e6 : ((l.length : Int) - 2 + 1).toNat = l.length - 1 := by omega
            rw [e5] at h94
            rw [e6] at h94_1
            exact ⟨congrArg (Value.int .i64) (by unfold soundF; rw [if_neg (by omega), if_neg (by omega), if_neg (by omega), if_neg (by rintro (z | z); exact z h94; exact z h94_1)]), rfl⟩

end Go.Proofs.Qxb6500351aGreat
