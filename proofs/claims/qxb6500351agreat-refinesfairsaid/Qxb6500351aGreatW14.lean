/- MADE BY PROGRAM (tools/gen.py over tools/specs351.py): walks. -/
import Derived.Test.Qxb6500351aGreatFacts
import Derived.Test.Qxb6500351aGreatW13
set_option linter.unusedVariables false
set_option linter.unusedSimpArgs false
namespace Go.Proofs.Qxb6500351aGreat
open Go.Eng
set_option maxRecDepth 20000
set_option maxHeartbeats 4000000
/-- (*e2e/frame.Link).Encode -/
theorem t164 (b : Nat) (k : Lk) (dst typ : Int) (b2 o n cap e : Nat) (cs : Array Value) (l : List Int) (hk : 0 ≤ k.addr ∧ k.addr < 256) (hd : 0 ≤ dst ∧ dst ≤ 255) (ht : 0 ≤ typ ∧ typ ≤ 255) (h24 : n ≤ 24) (hy : BytAt o n cap cs l) : Trip Tryz.prog 164 #[.pointer (some ⟨b, 0, none⟩), .int .i64 dst, .int .i64 typ, .slice (some ⟨b2, o, none⟩) n cap] [[(b, .cells k.enc 146 (0, 0))], [(b2, .cells cs e (0, 0))]] (fun u S' => ∃ (k' : Lk) (b3 : Nat), k'.addr = k.addr ∧ u = .tuple #[byV b3 (frameEnc dst k.addr typ l), .int .i64 0] ∧ S' = [byG b3 (frameEnc dst k.addr typ l) 5, [(b, .cells k'.enc 146 (0, 0))], [(b2, .cells cs e (0, 0))]]) := by
  have hn := hy.n_eq
  have hb := hy.bytes
  have hcp := hy.cap
  refine fn_entry (args := [.pointer (some ⟨b, 0, none⟩), .int .i64 dst, .int .i64 typ, .slice (some ⟨b2, o, none⟩) n cap]) Tryz.func164 rfl Tryz.ntmps164 rfl (fun w0 => ?_)
  refine c_seq ?_
  refine c_region ?_
  refine o_L (y_assign rfl) rfl rfl ?_
  refine o_L (y_assign rfl) rfl rfl ?_
  refine o_nil0 rfl ?_
  refine c_seq ?_
  refine c_seq ?_
  refine c_region ?_
  refine o_T (y_move rfl) rfl ?_
  refine o_T (y_lss rfl rfl) rfl ?_
  refine o_T (y_move rfl) rfl ?_
  refine o_split 16 rfl (fun h51 => ?_) (fun h51 => ?_)
  · try simp only [decide_eq_true_eq, decide_eq_false_iff_not, Bool.not_eq_true', Bool.not_eq_false', Int.not_lt, Int.not_le, Decidable.not_not, beq_iff_eq, bne_iff_ne, ne_eq, beq_eq_false_iff_ne] at h51
    exfalso; omega
  · try simp only [decide_eq_true_eq, decide_eq_false_iff_not, Bool.not_eq_true', Bool.not_eq_false', Int.not_lt, Int.not_le, Decidable.not_not, beq_iff_eq, bne_iff_ne, ne_eq, beq_eq_false_iff_ne] at h51
    refine o_take rfl rfl rfl ?_
    refine o_T (y_move rfl) rfl ?_
    refine o_take rfl rfl rfl ?_
    refine o_T (y_gtr rfl rfl) rfl ?_
    refine o_T (y_pickF rfl rfl) rfl ?_
    refine o_nil1 19 rfl rfl ?_
    refine c_cond rfl (fun h51_1 => ?_) (fun h51_1 => ?_)
    · try simp only [decide_eq_true_eq, decide_eq_false_iff_not, Bool.not_eq_true', Bool.not_eq_false', Int.not_lt, Int.not_le, Decidable.not_not, beq_iff_eq, bne_iff_ne, ne_eq, beq_eq_false_iff_ne] at h51_1
      exfalso; omega
    · try simp only [decide_eq_true_eq, decide_eq_false_iff_not, Bool.not_eq_true', Bool.not_eq_false', Int.not_lt, Int.not_le, Decidable.not_not, beq_iff_eq, bne_iff_ne, ne_eq, beq_eq_false_iff_ne] at h51_1
      refine c_skip ?_
      refine c_seq ?_
      refine c_seq ?_
      refine c_region ?_
      refine o_T (y_move rfl) rfl ?_
      refine o_T (y_lss rfl rfl) rfl ?_
      refine o_T (y_move rfl) rfl ?_
      refine o_split 22 rfl (fun h54 => ?_) (fun h54 => ?_)
      · try simp only [decide_eq_true_eq, decide_eq_false_iff_not, Bool.not_eq_true', Bool.not_eq_false', Int.not_lt, Int.not_le, Decidable.not_not, beq_iff_eq, bne_iff_ne, ne_eq, beq_eq_false_iff_ne] at h54
        exfalso; omega
      · try simp only [decide_eq_true_eq, decide_eq_false_iff_not, Bool.not_eq_true', Bool.not_eq_false', Int.not_lt, Int.not_le, Decidable.not_not, beq_iff_eq, bne_iff_ne, ne_eq, beq_eq_false_iff_ne] at h54
        refine o_take rfl rfl rfl ?_
        refine o_T (y_move rfl) rfl ?_
        refine o_take rfl rfl rfl ?_
        refine o_T (y_gtr rfl rfl) rfl ?_
        refine o_T (y_pickF rfl rfl) rfl ?_
        refine o_nil1 25 rfl rfl ?_
        refine c_cond rfl (fun h54_1 => ?_) (fun h54_1 => ?_)
        · try simp only [decide_eq_true_eq, decide_eq_false_iff_not, Bool.not_eq_true', Bool.not_eq_false', Int.not_lt, Int.not_le, Decidable.not_not, beq_iff_eq, bne_iff_ne, ne_eq, beq_eq_false_iff_ne] at h54_1
          exfalso; omega
        · try simp only [decide_eq_true_eq, decide_eq_false_iff_not, Bool.not_eq_true', Bool.not_eq_false', Int.not_lt, Int.not_le, Decidable.not_not, beq_iff_eq, bne_iff_ne, ne_eq, beq_eq_false_iff_ne] at h54_1
          refine c_skip ?_
          refine c_seq ?_
          refine c_region ?_
          refine o_T (y_move rfl) rfl ?_
          refine o_T (y_len Tryz.underlying81 rfl) rfl ?_
          refine o_L (y_assign rfl) rfl rfl ?_
          refine o_nil0 rfl ?_
          refine c_seq ?_
          refine c_seq ?_
          refine c_region ?_
          refine o_T (y_move rfl) rfl ?_
          refine o_T (y_gtr rfl rfl) rfl ?_
          refine o_nil1 29 rfl rfl ?_
          refine c_cond rfl (fun h58 => ?_) (fun h58 => ?_)
          · try simp only [decide_eq_true_eq, decide_eq_false_iff_not, Bool.not_eq_true', Bool.not_eq_false', Int.not_lt, Int.not_le, Decidable.not_not, beq_iff_eq, bne_iff_ne, ne_eq, beq_eq_false_iff_ne] at h58
            exfalso; omega
          · try simp only [decide_eq_true_eq, decide_eq_false_iff_not, Bool.not_eq_true', Bool.not_eq_false', Int.not_lt, Int.not_le, Decidable.not_not, beq_iff_eq, bne_iff_ne, ne_eq, beq_eq_false_iff_ne] at h58
            refine c_skip ?_
            refine c_seq ?_
            refine c_region ?_
            refine o_T (y_move rfl) rfl ?_
            refine o_T (y_add rfl rfl (w64 (by omega))) rfl ?_
            refine o_T (y_add rfl rfl (w64 (by omega))) rfl ?_
            refine o_makeB (4 + n + 2) sz_81 rfl rfl (by first | rfl | omega) (by first | rfl | omega) (by omega) (by omega) rfl (fun b_1 => ?_)
            refine o_L (y_assign rfl) rfl rfl ?_
            refine o_nil0 rfl ?_
            refine c_seq ?_
            refine c_region ?_
            refine o_T (y_move rfl) rfl ?_
            refine o_T (y_move rfl) rfl ?_
            refine o_T (y_conv Tryz.underlying3 Tryz.underlying5 rfl (w8 _)) rfl ?_
            refine o_T (y_is sl_81 rfl rfl (by omega) (by omega)) rfl ?_
            refine o_st one_5 rfl rfl rfl r0 (bV_set _ 0 _ rfl) (bV_size _ (by first | omega | (simp only [List.length_set, List.length_replicate]; omega) | (simp <;> omega))) ?_
            refine o_nil0 rfl ?_
            refine c_seq ?_
            refine c_region ?_
            refine o_T (y_move rfl) rfl ?_
            refine o_T (y_move rfl) rfl ?_
            refine o_T (y_nilck rfl) rfl ?_
            refine o_T (y_fa fl_146_0 rfl) rfl ?_
            refine o_ld one_5 rfl (ms m0) Lk.g0 rfl ?_
            refine o_T (y_is sl_81 rfl rfl (by omega) (by omega)) rfl ?_
            refine o_st one_5 rfl rfl rfl r0 (bV_set _ 1 _ rfl) (bV_size _ (by first | omega | (simp only [List.length_set, List.length_replicate]; omega) | (simp <;> omega))) ?_
            refine o_nil0 rfl ?_
            refine c_seq ?_
            refine c_region ?_
            refine o_T (y_move rfl) rfl ?_
            refine o_T (y_move rfl) rfl ?_
            refine o_T (y_conv Tryz.underlying3 Tryz.underlying5 rfl (w8 _)) rfl ?_
            refine o_T (y_is sl_81 rfl rfl (by omega) (by omega)) rfl ?_
            refine o_st one_5 rfl rfl rfl r0 (bV_set _ 2 _ rfl) (bV_size _ (by first | omega | (simp only [List.length_set, List.length_replicate]; omega) | (simp <;> omega))) ?_
            refine o_nil0 rfl ?_
            refine c_seq ?_
            refine c_region ?_
            refine o_T (y_move rfl) rfl ?_
            refine o_T (y_move rfl) rfl ?_
            refine o_T (y_conv Tryz.underlying3 Tryz.underlying5 rfl (w8 _)) rfl ?_
            refine o_T (y_is sl_81 rfl rfl (by omega) (by omega)) rfl ?_
            refine o_st one_5 rfl rfl rfl r0 (bV_set _ 3 _ rfl) (bV_size _ (by first | omega | (simp only [List.length_set, List.length_replicate]; omega) | (simp <;> omega))) ?_
            refine o_nil0 rfl ?_
            refine c_seq ?_
            refine c_row (g' := byG b_1 (frL dst k.addr typ l 0) 5) q0 (byG_eq (frL_zero hn (by omega) rfl (by omega) (by omega))) ?_
            have hrl := frL_len (dst := dst) (src := k.addr) (typ := typ) (l := l) (i := 0) (Nat.zero_le _)
            rw [hn] at hrl
            have hrb := frL_b hd hk ht (by omega) hb 0
            refine c_region ?_
            refine o_alloc ze_222 rfl rfl (fun b_2 => ?_)
            refine o_nil0 rfl ?_
            refine c_seq ?_
            refine c_region ?_
            refine o_T (y_move rfl) rfl ?_
            refine o_T (y_sls sl_81 rfl bN (bS (i := 4) rfl rfl) (by omega) (by omega)) rfl ?_
            refine o_call en_187 rfl (t187 _ _ _ _ _ _ _ _ _ ((BytAt.ful (by first | assumption | omega) (by assumption) (by omega)).sub _ _ (by omega) (by omega))) (s_take (s_take s_nil)) rfl ?_
            rintro v S' ⟨rfl, rfl⟩
            refine o_nil0 rfl ?_
            refine c_seq ?_
            refine c_seq ?_
            refine c_region ?_
            refine o_L (y_assign rfl) rfl rfl ?_
            refine o_nil0 rfl ?_
            refine c_block ?_
            refine c_loopG (ι := Nat) (fun i => [(13, .int .i64 (i : Int))]) (fun i => [byG b_1 (frL dst k.addr typ l i) 5, [(b_2, .cells (smAll Sm.zero (frHd dst k.addr typ l ++ l.take i)).enc 222 (0, 0))]]) (fun i => i ≤ n) (fun i => n - i) 0 (by omega) ⟨by first | rfl | exact gteI rfl (by omega), trivial⟩ (s_get (ks k0) (s_get k0 (s_get k0 (s_get k0 s_nil)))) ?_
            rintro j hI
            try dsimp only at hI
            have hrl2 := frL_len (dst := dst) (src := k.addr) (typ := typ) (l := l) (i := j) (by omega)
            refine c_seq ?_
            refine c_seq ?_
            refine c_region ?_
            refine o_T (y_move rfl) rfl ?_
            refine o_T (y_move rfl) rfl ?_
            refine o_T (y_lss rfl rfl) rfl ?_
            refine o_nil1 57 rfl rfl ?_
            refine c_cond rfl (fun h68 => ?_) (fun h68 => ?_)
            · try simp only [decide_eq_true_eq, decide_eq_false_iff_not, Bool.not_eq_true', Bool.not_eq_false', Int.not_lt, Int.not_le, Decidable.not_not, beq_iff_eq, bne_iff_ne, ne_eq, beq_eq_false_iff_ne] at h68
              refine c_skip ?_
              refine c_seq ?_
              refine c_block ?_
              refine c_seq ?_
              refine c_region ?_
              refine o_T (y_move rfl) rfl ?_
              refine o_T (y_move rfl) rfl ?_
              refine o_T (y_add rfl rfl (w64 (by omega))) rfl ?_
              refine o_T (y_move rfl) rfl ?_
              refine o_T (y_move rfl) rfl ?_
              refine o_T (y_is sl_81 rfl rfl (by omega) (by omega)) rfl ?_
              refine o_ld one_5 rfl (ms (ms (ms m0))) (hy.getD (i := j) (by omega) rfl) rfl ?_
              refine o_T (y_is sl_81 rfl rfl (by omega) (by omega)) rfl ?_
              refine o_st one_5 rfl rfl rfl r0 (bV_set _ (4 + j) _ rfl) (bV_size _ (by first | omega | (simp only [List.length_set, List.length_replicate]; omega) | (simp <;> omega))) ?_
              refine o_nil0 rfl ?_
              refine c_region ?_
              refine o_T (y_move rfl) rfl ?_
              refine o_T (y_move rfl) rfl ?_
              refine o_T (y_is sl_81 rfl rfl (by omega) (by omega)) rfl ?_
              refine o_ld one_5 rfl (ms (ms (ms m0))) (hy.getD (i := j) (by omega) rfl) rfl ?_
              refine o_call en_200 rfl (t200 _ _ _) (s_skip (s_take s_nil)) rfl ?_
              rintro v S' ⟨rfl, rfl⟩
              refine o_nil0 rfl ?_
              refine c_region ?_
              refine o_T (y_move rfl) rfl ?_
              refine o_T (y_add rfl rfl (w64 (by omega))) rfl ?_
              refine o_L (y_assign rfl) rfl rfl ?_
              refine o_nil0 rfl ?_
              rw [frL_set (by omega), frSm (by omega)]
              refine ⟨(j + 1), ⟨by omega, by first | omega | (dsimp only; omega)⟩, ⟨by first | rfl | exact gteI rfl (by omega), trivial⟩, ⟨rfl, rfl⟩, _, ((s_get (ks k0) (s_get k0 (s_get k0 (s_get k0 s_nil)))))⟩
            · try simp only [decide_eq_true_eq, decide_eq_false_iff_not, Bool.not_eq_true', Bool.not_eq_false', Int.not_lt, Int.not_le, Decidable.not_not, beq_iff_eq, bne_iff_ne, ne_eq, beq_eq_false_iff_ne] at h68
              refine c_exit ?_
              refine c_seq ?_
              refine c_region ?_
              refine o_T (y_move rfl) rfl ?_
              refine o_T (y_move rfl) rfl ?_
              refine o_T (y_add rfl rfl (w64 (by omega))) rfl ?_
              refine o_callrv en_188 rfl (t188 _ _) (s_skip (s_take s_nil)) rfl ?_
              refine o_T (y_is sl_81 rfl rfl (by omega) (by omega)) rfl ?_
              refine o_st one_5 rfl rfl rfl r0 (bV_set _ (4 + n) _ rfl) (bV_size _ (by first | omega | (simp only [List.length_set, List.length_replicate]; omega) | (simp <;> omega))) ?_
              refine o_nil0 rfl ?_
              refine c_seq ?_
              refine c_region ?_
              refine o_T (y_move rfl) rfl ?_
              refine o_T (y_move rfl) rfl ?_
              refine o_T (y_add rfl rfl (w64 (by omega))) rfl ?_
              refine o_T (y_add rfl rfl (w64 (by omega))) rfl ?_
              refine o_callrv en_189 rfl (t189 _ _) (s_skip (s_take s_nil)) rfl ?_
              refine o_T (y_is sl_81 rfl rfl (by omega) (by omega)) rfl ?_
              refine o_st one_5 rfl rfl rfl r0 (bV_set _ ((4 + n) + 1) _ rfl) (bV_size _ (by first | omega | (simp only [List.length_set, List.length_replicate]; omega) | (simp <;> omega))) ?_
              refine o_nil0 rfl ?_
              refine c_seq ?_
              refine c_region ?_
              refine o_T (y_move rfl) rfl ?_
              refine o_call en_147 rfl (t147 _ _ _ (by omega)) (s_skip (s_skip (s_take s_nil))) rfl ?_
              rintro v S' ⟨lk_1, hlk_1, rfl, rfl⟩
              refine o_nil0 rfl ?_
              refine c_seq ?_
              refine c_region ?_
              refine o_T (y_move rfl) rfl ?_
              refine o_L (y_assign rfl) rfl rfl ?_
              refine o_L (y_assign rfl) rfl rfl ?_
              refine o_nil0 rfl ?_
              refine c_ret ?_
              refine fun aX wX heX hsX => ret2 Tryz.results164 heX rfl rfl (s_get (ks k0) (s_get k0 (s_get (ks k0) s_nil))) ?_
              obtain rfl : j = n := by omega
              exact ⟨_, _, hlk_1, congrArg (fun v => Value.tuple #[v, .int .i64 0]) (byV_eq (by rw [frameEnc_len, hn])), by rw [← frEnd hn rfl rfl]⟩

end Go.Proofs.Qxb6500351aGreat
