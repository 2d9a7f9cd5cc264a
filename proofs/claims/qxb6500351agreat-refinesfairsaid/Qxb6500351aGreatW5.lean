/- MADE BY PROGRAM (tools/gen.py over tools/specs351.py): walks. -/
import Derived.Test.Qxb6500351aGreatFacts
import Derived.Test.Qxb6500351aGreatMd3
import Derived.Test.Qxb6500351aGreatW2
set_option linter.unusedVariables false
set_option linter.unusedSimpArgs false
namespace Go.Proofs.Qxb6500351aGreat
open Go.Eng
set_option maxRecDepth 20000
set_option maxHeartbeats 4000000
/-- e2e/api.SameBytes -/
theorem t52 (v1 v2 : Value) (g1 g2 : List Chunk) (l m : List Int) (h1 : Byt v1 l g1) (h2 : Byt v2 m g2) : Trip Tryz.prog 52 #[v1, v2] [g1, g2] (fun u S' => u = .bool (decide (l = m)) ∧ S' = [g1, g2]) := by
  obtain ⟨p1, c1, rfl⟩ := h1.slice
  obtain ⟨p2, c2, rfl⟩ := h2.slice
  have a1 := h1.len
  have a2 := h2.len
  refine fn_entry (args := [.slice p1 l.length c1, .slice p2 m.length c2]) Tryz.func52 rfl Tryz.ntmps52 rfl (fun w0 => ?_)
  refine c_seq ?_
  refine c_region ?_
  refine o_L (y_assign rfl) rfl rfl ?_
  refine o_nil0 rfl ?_
  refine c_seq ?_
  refine c_seq ?_
  refine c_region ?_
  refine o_T (y_move rfl) rfl ?_
  refine o_T (y_len Tryz.underlying81 rfl) rfl ?_
  refine o_T (y_move rfl) rfl ?_
  refine o_T (y_len Tryz.underlying81 rfl) rfl ?_
  refine o_T (y_neq rfl rfl) rfl ?_
  refine o_nil1 10 rfl rfl ?_
  refine c_cond rfl (fun h79 => ?_) (fun h79 => ?_)
  · try simp only [decide_eq_true_eq, decide_eq_false_iff_not, Bool.not_eq_true', Bool.not_eq_false', Int.not_lt, Int.not_le, Decidable.not_not, beq_iff_eq, bne_iff_ne, ne_eq, beq_eq_false_iff_ne] at h79
    refine c_seq ?_
    refine c_region ?_
    refine o_L (y_assign rfl) rfl rfl ?_
    refine o_nil0 rfl ?_
    refine c_ret ?_
    refine fun aX wX heX hsX => ret1 Tryz.results52 heX rfl (s_take (s_take s_nil)) ?_
    exact ⟨congrArg Value.bool (decide_eq_false (fun h => h79 (by rw [h]))).symm, rfl⟩
  · try simp only [decide_eq_true_eq, decide_eq_false_iff_not, Bool.not_eq_true', Bool.not_eq_false', Int.not_lt, Int.not_le, Decidable.not_not, beq_iff_eq, bne_iff_ne, ne_eq, beq_eq_false_iff_ne] at h79
    refine c_skip ?_
    refine c_seq ?_
    refine c_seq ?_
    refine c_region ?_
    refine o_L (y_assign rfl) rfl rfl ?_
    refine o_nil0 rfl ?_
    refine c_block ?_
    refine c_loopG (ι := Nat) (fun i => [(5, .int .i64 (i : Int))]) (fun i => []) (fun i => i ≤ l.length ∧ l.length = m.length ∧ l.take i = m.take i) (fun i => l.length - i) 0 (by exact ⟨by omega, by omega, rfl⟩) ⟨by first | rfl | exact gteI rfl (by omega), trivial⟩ (s_take (s_take s_nil)) ?_
    rintro k ⟨g3, g4, g5⟩
    try dsimp only [List.cons_append, List.nil_append] at *
    refine c_seq ?_
    refine c_seq ?_
    refine c_region ?_
    refine o_T (y_move rfl) rfl ?_
    refine o_T (y_move rfl) rfl ?_
    refine o_T (y_len Tryz.underlying81 rfl) rfl ?_
    refine o_T (y_lss rfl rfl) rfl ?_
    refine o_nil1 14 rfl rfl ?_
    refine c_cond rfl (fun h82 => ?_) (fun h82 => ?_)
    · try simp only [decide_eq_true_eq, decide_eq_false_iff_not, Bool.not_eq_true', Bool.not_eq_false', Int.not_lt, Int.not_le, Decidable.not_not, beq_iff_eq, bne_iff_ne, ne_eq, beq_eq_false_iff_ne] at h82
      refine c_skip ?_
      refine c_seq ?_
      refine c_block ?_
      refine c_seq ?_
      obtain ⟨b1, o1, n1, cap1, cs1, e1, q_, rfl, y1⟩ := h1.pos (by omega)
      cases q_
      obtain ⟨b2, o2, n2, cap2, cs2, e2, q_, rfl, y2⟩ := h2.pos (by omega)
      cases q_
      refine c_draw #[true, true, true, true, true, true, true, true, true] rfl (n := 9) rfl ?_
      refine d_T 0 rfl (by kernel_rfl) rfl (y_move rfl) rfl ?_
      refine d_T 1 rfl (by kernel_rfl) rfl (y_move rfl) rfl ?_
      refine d_T 2 rfl (by kernel_rfl) rfl (y_is sl_81 rfl rfl (by omega) (by omega)) rfl ?_
      refine d_ld 3 rfl (by kernel_rfl) one_5 rfl (fun x hx => hx) m0 (y1.getD (i := k) (by omega) rfl) rfl ?_
      refine d_T 4 rfl (by kernel_rfl) rfl (y_move rfl) rfl ?_
      refine d_T 5 rfl (by kernel_rfl) rfl (y_move rfl) rfl ?_
      refine d_T 6 rfl (by kernel_rfl) rfl (y_is sl_81 rfl rfl (by omega) (by omega)) rfl ?_
      refine d_ld 7 rfl (by kernel_rfl) one_5 rfl (fun x hx => hx) (ms m0) (y2.getD (i := k) (by omega) rfl) rfl ?_
      refine d_T 8 rfl (by kernel_rfl) rfl (y_neq rfl rfl) rfl ?_
      refine d_nil1 25 (by kernel_rfl) rfl rfl ?_
      refine c_cond rfl (fun h83 => ?_) (fun h83 => ?_)
      · try simp only [decide_eq_true_eq, decide_eq_false_iff_not, Bool.not_eq_true', Bool.not_eq_false', Int.not_lt, Int.not_le, Decidable.not_not, beq_iff_eq, bne_iff_ne, ne_eq, beq_eq_false_iff_ne] at h83
        refine c_seq ?_
        refine c_region ?_
        refine o_L (y_assign rfl) rfl rfl ?_
        refine o_nil0 rfl ?_
        refine c_ret ?_
        refine fun aX wX heX hsX => ret1 Tryz.results52 heX rfl (s_take (s_take s_nil)) ?_
        exact ⟨congrArg Value.bool (decide_eq_false (fun h => h83 (by rw [h]))).symm, rfl⟩
      · try simp only [decide_eq_true_eq, decide_eq_false_iff_not, Bool.not_eq_true', Bool.not_eq_false', Int.not_lt, Int.not_le, Decidable.not_not, beq_iff_eq, bne_iff_ne, ne_eq, beq_eq_false_iff_ne] at h83
        refine c_skip ?_
        refine c_region ?_
        refine o_T (y_move rfl) rfl ?_
        refine o_T (y_add rfl rfl (w64 (by omega))) rfl ?_
        refine o_L (y_assign rfl) rfl rfl ?_
        refine o_nil0 rfl ?_
        refine ⟨(k + 1), ⟨⟨by omega, by omega, take_getD g5 (by omega) (by omega) h83⟩, by first | omega | (dsimp only; omega)⟩, ⟨by first | rfl | exact gteI rfl (by omega), trivial⟩, ⟨rfl, rfl⟩, _, ((s_take (s_take s_nil)))⟩
    · try simp only [decide_eq_true_eq, decide_eq_false_iff_not, Bool.not_eq_true', Bool.not_eq_false', Int.not_lt, Int.not_le, Decidable.not_not, beq_iff_eq, bne_iff_ne, ne_eq, beq_eq_false_iff_ne] at h82
      refine c_exit ?_
      refine c_seq ?_
      refine c_region ?_
      refine o_L (y_assign rfl) rfl rfl ?_
      refine o_nil0 rfl ?_
      refine c_ret ?_
      refine fun aX wX heX hsX => ret1 Tryz.results52 heX rfl (s_take (s_take s_nil)) ?_
      exact ⟨congrArg Value.bool (decide_eq_true (by rw [List.take_of_length_le (by omega), List.take_of_length_le (by omega)] at g5; exact g5)).symm, rfl⟩

/-- e2e/api.IsPrefix -/
theorem t137 (v1 v2 : Value) (g1 g2 : List Chunk) (l m : List Int) (h1 : Byt v1 l g1) (h2 : Byt v2 m g2) (h3 : 0 < l.length) : Trip Tryz.prog 137 #[v1, v2] [g1, g2] (fun u S' => u = .bool (decide (l <+: m)) ∧ S' = [g1, g2]) := by
  obtain ⟨p1, c1, rfl⟩ := h1.slice
  obtain ⟨p2, c2, rfl⟩ := h2.slice
  have a1 := h1.len
  have a2 := h2.len
  refine fn_entry (args := [.slice p1 l.length c1, .slice p2 m.length c2]) Tryz.func137 rfl Tryz.ntmps137 rfl (fun w0 => ?_)
  refine c_seq ?_
  refine c_region ?_
  refine o_L (y_assign rfl) rfl rfl ?_
  refine o_nil0 rfl ?_
  refine c_seq ?_
  refine c_region ?_
  refine o_T (y_move rfl) rfl ?_
  refine o_T (y_len Tryz.underlying81 rfl) rfl ?_
  refine o_T (y_move rfl) rfl ?_
  refine o_T (y_len Tryz.underlying81 rfl) rfl ?_
  refine o_T (y_leq rfl rfl) rfl ?_
  refine o_T (y_move rfl) rfl ?_
  refine o_split 10 rfl (fun h92 => ?_) (fun h92 => ?_)
  · try simp only [decide_eq_true_eq, decide_eq_false_iff_not, Bool.not_eq_true', Bool.not_eq_false', Int.not_lt, Int.not_le, Decidable.not_not, beq_iff_eq, bne_iff_ne, ne_eq, beq_eq_false_iff_ne] at h92
    refine o_take rfl rfl rfl ?_
    refine o_T (y_move rfl) rfl ?_
    refine o_take rfl rfl rfl ?_
    refine o_T (y_move rfl) rfl ?_
    refine o_take rfl rfl rfl ?_
    refine o_T (y_move rfl) rfl ?_
    refine o_take rfl rfl rfl ?_
    refine o_T (y_len Tryz.underlying81 rfl) rfl ?_
    refine o_take rfl rfl rfl ?_
    obtain ⟨b2, o2, n2, cap2, cs2, e2, q_, rfl, y2⟩ := h2.pos (by omega)
    cases q_
    have q1 := y2.cap
    have q2 := y2.n_eq
    refine o_T (y_sls sl_81 rfl bN (bS (i := l.length) rfl (by omega)) (by omega) (by omega)) rfl ?_
    refine o_take rfl rfl rfl ?_
    refine o_callrv en_52 rfl (t52 _ _ _ _ _ _ h1 (.inr ⟨_, _, _, _, _, _, rfl, rfl, (y2.sub 0 l.length (by omega) (by omega))⟩)) (s_take (s_take s_nil)) rfl ?_
    refine o_T (y_pickT rfl rfl) rfl ?_
    refine o_L (y_assign rfl) rfl rfl ?_
    refine o_nil0 rfl ?_
    refine c_ret ?_
    refine fun aX wX heX hsX => ret1 Tryz.results137 heX rfl (s_take (s_take s_nil)) ?_
    exact ⟨congrArg Value.bool (decide_eq_decide.2 (pre_iff (by omega))), rfl⟩
  · try simp only [decide_eq_true_eq, decide_eq_false_iff_not, Bool.not_eq_true', Bool.not_eq_false', Int.not_lt, Int.not_le, Decidable.not_not, beq_iff_eq, bne_iff_ne, ne_eq, beq_eq_false_iff_ne] at h92
    refine o_pass rfl rfl rfl rfl rfl ?_
    refine o_pass rfl rfl rfl rfl rfl ?_
    refine o_pass rfl rfl rfl rfl rfl ?_
    refine o_pass rfl rfl rfl rfl rfl ?_
    refine o_pass rfl rfl rfl rfl rfl ?_
    refine o_pass rfl rfl rfl rfl rfl ?_
    refine o_T (y_pickF rfl rfl) rfl ?_
    refine o_L (y_assign rfl) rfl rfl ?_
    refine o_nil0 rfl ?_
    refine c_ret ?_
    refine fun aX wX heX hsX => ret1 Tryz.results137 heX rfl (s_take (s_take s_nil)) ?_
    exact ⟨congrArg Value.bool (decide_eq_false (fun h => by have := h.length_le; omega)).symm, rfl⟩

/-- e2e/seg.Decode -/
theorem t116 (src dst : Int) (b o n cap e : Nat) (cs : Array Value) (l : List Int) (hy : BytAt o n cap cs l) (hs : 0 ≤ src ∧ src ≤ 255) (ht : 0 ≤ dst ∧ dst ≤ 255) : Trip Tryz.prog 116 #[.int .i64 src, .int .i64 dst, .slice (some ⟨b, o, none⟩) n cap] [[(b, .cells cs e (0, 0))]] (fun u S' => ((segDec src dst l).1 ≠ 0 ∧ u = .tuple #[.agg Sg.zero.enc, .int .i64 (segDec src dst l).1] ∧ S' = [[(b, .cells cs e (0, 0))]]) ∨ ((segDec src dst l).1 = 0 ∧ ∃ b2, u = .tuple #[.agg (segC b2 (segDec src dst l).2).enc, .int .i64 0] ∧ S' = [byG b2 (segDec src dst l).2.data 5, [(b, .cells cs e (0, 0))]])) := by
  have hn := hy.n_eq
  have hl := hy.len
  have hc := hy.cap
  have u0 := hy.rng 0
  have u1 := hy.rng 1
  have u2 := hy.rng 2
  have u3 := hy.rng 3
  have u4 := hy.rng 4
  have u5 := hy.rng 5
  refine fn_entry (args := [.int .i64 src, .int .i64 dst, .slice (some ⟨b, o, none⟩) n cap]) Tryz.func116 rfl Tryz.ntmps116 rfl (fun w0 => ?_)
  refine c_seq ?_
  refine c_region ?_
  refine o_alloc ze_178 rfl rfl (fun b_1 => ?_)
  refine o_L (y_assign rfl) rfl rfl ?_
  refine o_nil0 rfl ?_
  refine c_seq ?_
  refine c_region ?_
  refine o_T (y_build st_178 rfl fb0) rfl ?_
  refine o_alloc ze_178 rfl rfl (fun b_2 => ?_)
  refine o_sta ag_178 rfl rfl rfl rfl r0 (setAll_full _ _ rfl) (of_ble rfl) ?_
  refine o_nil0 rfl ?_
  refine c_seq ?_
  refine c_seq ?_
  refine c_region ?_
  refine o_T (y_move rfl) rfl ?_
  refine o_T (y_lss rfl rfl) rfl ?_
  refine o_T (y_move rfl) rfl ?_
  refine o_split 14 rfl (fun h66 => ?_) (fun h66 => ?_)
  · try simp only [decide_eq_true_eq, decide_eq_false_iff_not, Bool.not_eq_true', Bool.not_eq_false', Int.not_lt, Int.not_le, Decidable.not_not, beq_iff_eq, bne_iff_ne, ne_eq, beq_eq_false_iff_ne] at h66
    exfalso; omega
  · try simp only [decide_eq_true_eq, decide_eq_false_iff_not, Bool.not_eq_true', Bool.not_eq_false', Int.not_lt, Int.not_le, Decidable.not_not, beq_iff_eq, bne_iff_ne, ne_eq, beq_eq_false_iff_ne] at h66
    refine o_take rfl rfl rfl ?_
    refine o_T (y_move rfl) rfl ?_
    refine o_take rfl rfl rfl ?_
    refine o_T (y_gtr rfl rfl) rfl ?_
    refine o_T (y_pickF rfl rfl) rfl ?_
    refine o_T (y_move rfl) rfl ?_
    refine o_split 18 rfl (fun h66_1 => ?_) (fun h66_1 => ?_)
    · try simp only [decide_eq_true_eq, decide_eq_false_iff_not, Bool.not_eq_true', Bool.not_eq_false', Int.not_lt, Int.not_le, Decidable.not_not, beq_iff_eq, bne_iff_ne, ne_eq, beq_eq_false_iff_ne] at h66_1
      exfalso; omega
    · try simp only [decide_eq_true_eq, decide_eq_false_iff_not, Bool.not_eq_true', Bool.not_eq_false', Int.not_lt, Int.not_le, Decidable.not_not, beq_iff_eq, bne_iff_ne, ne_eq, beq_eq_false_iff_ne] at h66_1
      refine o_take rfl rfl rfl ?_
      refine o_T (y_move rfl) rfl ?_
      refine o_take rfl rfl rfl ?_
      refine o_T (y_lss rfl rfl) rfl ?_
      refine o_T (y_pickF rfl rfl) rfl ?_
      refine o_T (y_move rfl) rfl ?_
      refine o_split 22 rfl (fun h66_2 => ?_) (fun h66_2 => ?_)
      · try simp only [decide_eq_true_eq, decide_eq_false_iff_not, Bool.not_eq_true', Bool.not_eq_false', Int.not_lt, Int.not_le, Decidable.not_not, beq_iff_eq, bne_iff_ne, ne_eq, beq_eq_false_iff_ne] at h66_2
        exfalso; omega
      · try simp only [decide_eq_true_eq, decide_eq_false_iff_not, Bool.not_eq_true', Bool.not_eq_false', Int.not_lt, Int.not_le, Decidable.not_not, beq_iff_eq, bne_iff_ne, ne_eq, beq_eq_false_iff_ne] at h66_2
        refine o_take rfl rfl rfl ?_
        refine o_T (y_move rfl) rfl ?_
        refine o_take rfl rfl rfl ?_
        refine o_T (y_gtr rfl rfl) rfl ?_
        refine o_T (y_pickF rfl rfl) rfl ?_
        refine o_nil1 25 rfl rfl ?_
        refine c_cond rfl (fun h66_3 => ?_) (fun h66_3 => ?_)
        · try simp only [decide_eq_true_eq, decide_eq_false_iff_not, Bool.not_eq_true', Bool.not_eq_false', Int.not_lt, Int.not_le, Decidable.not_not, beq_iff_eq, bne_iff_ne, ne_eq, beq_eq_false_iff_ne] at h66_3
          exfalso; omega
        · try simp only [decide_eq_true_eq, decide_eq_false_iff_not, Bool.not_eq_true', Bool.not_eq_false', Int.not_lt, Int.not_le, Decidable.not_not, beq_iff_eq, bne_iff_ne, ne_eq, beq_eq_false_iff_ne] at h66_3
          refine c_skip ?_
          refine c_seq ?_
          refine c_seq ?_
          refine c_region ?_
          refine o_T (y_move rfl) rfl ?_
          refine o_T (y_len Tryz.underlying81 rfl) rfl ?_
          refine o_T (y_lss rfl rfl) rfl ?_
          refine o_nil1 29 rfl rfl ?_
          refine c_cond rfl (fun h69 => ?_) (fun h69 => ?_)
          · try simp only [decide_eq_true_eq, decide_eq_false_iff_not, Bool.not_eq_true', Bool.not_eq_false', Int.not_lt, Int.not_le, Decidable.not_not, beq_iff_eq, bne_iff_ne, ne_eq, beq_eq_false_iff_ne] at h69
            refine c_seq ?_
            refine c_region ?_
            refine o_ldw ag_178 rfl m0 rfl rfl ?_
            refine o_sta ag_178 rfl rfl rfl rfl (rs r0) (setAll_full _ _ rfl) (of_ble rfl) ?_
            refine o_L (y_assign rfl) rfl rfl ?_
            refine o_nil0 rfl ?_
            refine c_ret ?_
            refine fun aX wX heX hsX => retct Tryz.results116 heX hsX rfl rfl ag_178 (ms m0) rfl (s_skip (s_skip (s_take s_nil))) ?_
            have e9 := segDec_short (src := src) (dst := dst) (l := l) (by omega)
            rw [e9]
            exact .inl ⟨by decide, rfl, rfl⟩
          · try simp only [decide_eq_true_eq, decide_eq_false_iff_not, Bool.not_eq_true', Bool.not_eq_false', Int.not_lt, Int.not_le, Decidable.not_not, beq_iff_eq, bne_iff_ne, ne_eq, beq_eq_false_iff_ne] at h69
            refine c_skip ?_
            refine c_seq ?_
            refine c_seq ?_
            refine c_region ?_
            refine o_T (y_move rfl) rfl ?_
            refine o_T (y_len Tryz.underlying81 rfl) rfl ?_
            refine o_T (y_gtr rfl rfl) rfl ?_
            refine o_nil1 33 rfl rfl ?_
            refine c_cond rfl (fun h72 => ?_) (fun h72 => ?_)
            · try simp only [decide_eq_true_eq, decide_eq_false_iff_not, Bool.not_eq_true', Bool.not_eq_false', Int.not_lt, Int.not_le, Decidable.not_not, beq_iff_eq, bne_iff_ne, ne_eq, beq_eq_false_iff_ne] at h72
              refine c_seq ?_
              refine c_region ?_
              refine o_ldw ag_178 rfl m0 rfl rfl ?_
              refine o_sta ag_178 rfl rfl rfl rfl (rs r0) (setAll_full _ _ rfl) (of_ble rfl) ?_
              refine o_L (y_assign rfl) rfl rfl ?_
              refine o_nil0 rfl ?_
              refine c_ret ?_
              refine fun aX wX heX hsX => retct Tryz.results116 heX hsX rfl rfl ag_178 (ms m0) rfl (s_skip (s_skip (s_take s_nil))) ?_
              have e9 := segDec_long (src := src) (dst := dst) (l := l) (by omega)
              rw [e9]
              exact .inl ⟨by decide, rfl, rfl⟩
            · try simp only [decide_eq_true_eq, decide_eq_false_iff_not, Bool.not_eq_true', Bool.not_eq_false', Int.not_lt, Int.not_le, Decidable.not_not, beq_iff_eq, bne_iff_ne, ne_eq, beq_eq_false_iff_ne] at h72
              refine c_skip ?_
              refine c_seq ?_
              refine c_draw #[true, true, true, true, true, true, false, true, false] rfl (n := 9) rfl ?_
              refine d_T 0 rfl (by kernel_rfl) rfl (y_move rfl) rfl ?_
              refine d_T 1 rfl (by kernel_rfl) rfl (y_move rfl) rfl ?_
              refine d_T 2 rfl (by kernel_rfl) rfl (y_move rfl) rfl ?_
              refine d_T 3 rfl (by kernel_rfl) rfl (y_sls sl_81 rfl bN (bS (i := 6) rfl rfl) (by omega) (by omega)) rfl ?_
              refine d_T 4 rfl (by kernel_rfl) rfl (y_move rfl) rfl ?_
              refine d_T 5 rfl (by kernel_rfl) rfl (y_sls sl_81 rfl (bS (i := 8) rfl rfl) bN (by omega) (by omega)) rfl ?_
              refine d_hard2 6 7 rfl rfl (by kernel_rfl) ?_ ?_
              · skip
                refine o_call en_155 rfl (t155b _ _ _ _ _ _ _ _ _ _ _ _ _ (hy.sub 0 6 (by omega) (by omega)) (hy.sub 8 _ (by omega) (by omega))) (s_skip (s_skip (s_take s_nil))) rfl ?_
                rintro v S' ⟨rfl, rfl⟩
                refine o_stop (fun h => nomatch h) ?_
                refine d_hard 7 rfl (by kernel_rfl) ?_
                refine o_alloc ze_204 rfl rfl (fun b_3 => ?_)
                refine o_front (s_get k0 (s_get (ks k0) (s_get (ks k0) (s_get k0 s_nil)))) ?_
                refine o_stop (fun _ => (fun x hx => (ms hx))) ?_
                refine d_hard 8 rfl (by kernel_rfl) ?_
                refine o_sta ag_204 rfl rfl rfl rfl r0 (setAll_full _ _ rfl) (of_ble rfl) ?_
                refine o_stop (fun h => nomatch h) ?_
                refine d_nil0 (by kernel_rfl) rfl ?_
                refine c_seq ?_
                refine c_seq ?_
                refine c_draw #[true, true, true, true, true, true, true, true, true, true, true, true, true, true] rfl (n := 14) rfl ?_
                refine d_T 0 rfl (by kernel_rfl) rfl (y_fa fl_204_0 rfl) rfl ?_
                refine d_ld 1 rfl (by kernel_rfl) one_5 rfl (fun x hx => hx) m0 Ss.g0 rfl ?_
                refine d_T 2 rfl (by kernel_rfl) rfl (y_move rfl) rfl ?_
                refine d_T 3 rfl (by kernel_rfl) rfl (y_is sl_81 rfl rfl (by omega) (by omega)) rfl ?_
                refine d_ld 4 rfl (by kernel_rfl) one_5 rfl (fun x hx => hx) (ms (ms (ms m0))) (hy.getD (i := 6) (by omega) rfl) rfl ?_
                refine d_T 5 rfl (by kernel_rfl) rfl (y_neq rfl rfl) rfl ?_
                refine d_T 6 rfl (by kernel_rfl) rfl (y_move rfl) rfl ?_
                refine d_split 48 rfl (fun h76 => ?_) (fun h76 => ?_)
                · try simp only [decide_eq_true_eq, decide_eq_false_iff_not, Bool.not_eq_true', Bool.not_eq_false', Int.not_lt, Int.not_le, Decidable.not_not, beq_iff_eq, bne_iff_ne, ne_eq, beq_eq_false_iff_ne] at h76
                  refine d_pass 7 rfl rfl rfl rfl rfl (by kernel_rfl) (fun x hx => hx) rfl ?_
                  refine d_pass 8 rfl rfl rfl rfl rfl (by kernel_rfl) (fun x hx => hx) rfl ?_
                  refine d_pass 9 rfl rfl rfl rfl rfl (by kernel_rfl) (fun x hx => hx) rfl ?_
                  refine d_pass 10 rfl rfl rfl rfl rfl (by kernel_rfl) (fun x hx => hx) rfl ?_
                  refine d_pass 11 rfl rfl rfl rfl rfl (by kernel_rfl) (fun x hx => hx) rfl ?_
                  refine d_pass 12 rfl rfl rfl rfl rfl (by kernel_rfl) (fun x hx => hx) rfl ?_
                  refine d_T 13 rfl (by kernel_rfl) rfl (y_pickT rfl rfl) rfl ?_
                  refine d_nil1 55 (by kernel_rfl) rfl rfl ?_
                  refine c_condT rfl ?_
                  refine c_seq ?_
                  refine c_region ?_
                  refine o_ldw ag_178 rfl (ms m0) rfl rfl ?_
                  refine o_sta ag_178 rfl rfl rfl rfl (rs (rs r0)) (setAll_full _ _ rfl) (of_ble rfl) ?_
                  refine o_L (y_assign rfl) rfl rfl ?_
                  refine o_nil0 rfl ?_
                  refine c_ret ?_
                  refine fun aX wX heX hsX => retct Tryz.results116 heX hsX rfl rfl ag_178 (ms (ms m0)) rfl (s_skip (s_skip (s_skip (s_take s_nil)))) ?_
                  have ed : (l.drop 8).take (n - 8) = l.drop 8 := List.take_of_length_le (by simp; omega)
                  rw [ed] at h76
                  have e9 := segDec_sum (src := src) (dst := dst) (l := l) (by omega) (by omega) (.inl h76)
                  rw [e9]
                  exact .inl ⟨by decide, rfl, rfl⟩
                · try simp only [decide_eq_true_eq, decide_eq_false_iff_not, Bool.not_eq_true', Bool.not_eq_false', Int.not_lt, Int.not_le, Decidable.not_not, beq_iff_eq, bne_iff_ne, ne_eq, beq_eq_false_iff_ne] at h76
                  refine d_Tg 7 rfl rfl rfl rfl (by kernel_rfl) rfl (y_fa fl_204_1 rfl) rfl ?_
                  refine d_ldt 8 rfl rfl rfl rfl (by kernel_rfl) one_5 rfl (fun x hx => hx) m0 Ss.g1 rfl ?_
                  refine d_Tg 9 rfl rfl rfl rfl (by kernel_rfl) rfl (y_move rfl) rfl ?_
                  refine d_Tg 10 rfl rfl rfl rfl (by kernel_rfl) rfl (y_is sl_81 rfl rfl (by omega) (by omega)) rfl ?_
                  refine d_ldt 11 rfl rfl rfl rfl (by kernel_rfl) one_5 rfl (fun x hx => hx) (ms (ms (ms m0))) (hy.getD (i := 7) (by omega) rfl) rfl ?_
                  refine d_Tg 12 rfl rfl rfl rfl (by kernel_rfl) rfl (y_neq rfl rfl) rfl ?_
                  refine d_T 13 rfl (by kernel_rfl) rfl (y_pickF rfl rfl) rfl ?_
                  refine d_nil1 55 (by kernel_rfl) rfl rfl ?_
                  refine c_cond rfl (fun h76_1 => ?_) (fun h76_1 => ?_)
                  · try simp only [decide_eq_true_eq, decide_eq_false_iff_not, Bool.not_eq_true', Bool.not_eq_false', Int.not_lt, Int.not_le, Decidable.not_not, beq_iff_eq, bne_iff_ne, ne_eq, beq_eq_false_iff_ne] at h76_1
                    refine c_seq ?_
                    refine c_region ?_
                    refine o_ldw ag_178 rfl (ms m0) rfl rfl ?_
                    refine o_sta ag_178 rfl rfl rfl rfl (rs (rs r0)) (setAll_full _ _ rfl) (of_ble rfl) ?_
                    refine o_L (y_assign rfl) rfl rfl ?_
                    refine o_nil0 rfl ?_
                    refine c_ret ?_
                    refine fun aX wX heX hsX => retct Tryz.results116 heX hsX rfl rfl ag_178 (ms (ms m0)) rfl (s_skip (s_skip (s_skip (s_take s_nil)))) ?_
                    have ed : (l.drop 8).take (n - 8) = l.drop 8 := List.take_of_length_le (by simp; omega)
                    rw [ed] at h76 h76_1
                    have e9 := segDec_sum (src := src) (dst := dst) (l := l) (by omega) (by omega) (.inr h76_1)
                    rw [e9]
                    exact .inl ⟨by decide, rfl, rfl⟩
                  · try simp only [decide_eq_true_eq, decide_eq_false_iff_not, Bool.not_eq_true', Bool.not_eq_false', Int.not_lt, Int.not_le, Decidable.not_not, beq_iff_eq, bne_iff_ne, ne_eq, beq_eq_false_iff_ne] at h76_1
                    refine c_skip ?_
                    refine c_seq ?_
                    refine c_seq ?_
                    refine c_region ?_
                    refine o_T (y_move rfl) rfl ?_
                    refine o_T (y_is sl_81 rfl rfl (by omega) (by omega)) rfl ?_
                    refine o_ld one_5 rfl (ms (ms (ms m0))) (hy.getD (i := 4) (by omega) rfl) rfl ?_
                    refine o_T (y_gtr rfl rfl) rfl ?_
                    refine o_nil1 60 rfl rfl ?_
                    refine c_cond rfl (fun h79 => ?_) (fun h79 => ?_)
                    · try simp only [decide_eq_true_eq, decide_eq_false_iff_not, Bool.not_eq_true', Bool.not_eq_false', Int.not_lt, Int.not_le, Decidable.not_not, beq_iff_eq, bne_iff_ne, ne_eq, beq_eq_false_iff_ne] at h79
                      refine c_seq ?_
                      refine c_region ?_
                      refine o_ldw ag_178 rfl (ms m0) rfl rfl ?_
                      refine o_sta ag_178 rfl rfl rfl rfl (rs (rs r0)) (setAll_full _ _ rfl) (of_ble rfl) ?_
                      refine o_L (y_assign rfl) rfl rfl ?_
                      refine o_nil0 rfl ?_
                      refine c_ret ?_
                      refine fun aX wX heX hsX => retct Tryz.results116 heX hsX rfl rfl ag_178 (ms (ms m0)) rfl (s_skip (s_skip (s_skip (s_take s_nil)))) ?_
                      have ed : (l.drop 8).take (n - 8) = l.drop 8 := List.take_of_length_le (by simp; omega)
                      rw [ed] at h76 h76_1
                      have e9 := segDec_arg (src := src) (dst := dst) (l := l) (by omega) (by omega) h76 h76_1 h79
                      rw [e9]
                      exact .inl ⟨by decide, rfl, rfl⟩
                    · try simp only [decide_eq_true_eq, decide_eq_false_iff_not, Bool.not_eq_true', Bool.not_eq_false', Int.not_lt, Int.not_le, Decidable.not_not, beq_iff_eq, bne_iff_ne, ne_eq, beq_eq_false_iff_ne] at h79
                      refine c_skip ?_
                      refine c_seq ?_
                      refine c_region ?_
                      refine o_T (y_move rfl) rfl ?_
                      refine o_T (y_sls sl_81 rfl (bS (i := 8) rfl rfl) bN (by omega) (by omega)) rfl ?_
                      refine o_call en_78 rfl (t78 _ _ _ _ _ _ _ (hy.sub 8 _ (by omega) (by omega))) (s_skip (s_skip (s_skip (s_take s_nil)))) rfl ?_
                      rintro v S' ⟨b_4, rfl, rfl⟩
                      refine o_L (y_assign rfl) rfl rfl ?_
                      refine o_nil0 rfl ?_
                      refine c_seq ?_
                      refine c_draw #[true, true, true, true, true, true, true, true, true, true, true, true, true, true, true, true, true, true, true, true, true, true, true, true, true, true, false, true] rfl (n := 28) rfl ?_
                      refine d_T 0 rfl (by kernel_rfl) rfl (y_move rfl) rfl ?_
                      refine d_T 1 rfl (by kernel_rfl) rfl (y_is sl_81 rfl rfl (by omega) (by omega)) rfl ?_
                      refine d_ld 2 rfl (by kernel_rfl) one_5 rfl (fun x hx => hx) m0 (hy.getD (i := 0) (by omega) rfl) rfl ?_
                      refine d_T 3 rfl (by kernel_rfl) rfl (y_conv Tryz.underlying5 Tryz.underlying3 rfl (w64y hy)) rfl ?_
                      refine d_T 4 rfl (by kernel_rfl) rfl (y_move rfl) rfl ?_
                      refine d_T 5 rfl (by kernel_rfl) rfl (y_is sl_81 rfl rfl (by omega) (by omega)) rfl ?_
                      refine d_ld 6 rfl (by kernel_rfl) one_5 rfl (fun x hx => hx) m0 (hy.getD (i := 1) (by omega) rfl) rfl ?_
                      refine d_T 7 rfl (by kernel_rfl) rfl (y_conv Tryz.underlying5 Tryz.underlying3 rfl (w64y hy)) rfl ?_
                      refine d_T 8 rfl (by kernel_rfl) rfl (y_move rfl) rfl ?_
                      refine d_T 9 rfl (by kernel_rfl) rfl (y_is sl_81 rfl rfl (by omega) (by omega)) rfl ?_
                      refine d_ld 10 rfl (by kernel_rfl) one_5 rfl (fun x hx => hx) m0 (hy.getD (i := 2) (by omega) rfl) rfl ?_
                      refine d_T 11 rfl (by kernel_rfl) rfl (y_conv Tryz.underlying5 Tryz.underlying3 rfl (w64y hy)) rfl ?_
                      refine d_T 12 rfl (by kernel_rfl) rfl (y_move rfl) rfl ?_
                      refine d_T 13 rfl (by kernel_rfl) rfl (y_is sl_81 rfl rfl (by omega) (by omega)) rfl ?_
                      refine d_ld 14 rfl (by kernel_rfl) one_5 rfl (fun x hx => hx) m0 (hy.getD (i := 3) (by omega) rfl) rfl ?_
                      refine d_T 15 rfl (by kernel_rfl) rfl (y_conv Tryz.underlying5 Tryz.underlying3 rfl (w64y hy)) rfl ?_
                      refine d_T 16 rfl (by kernel_rfl) rfl (y_move rfl) rfl ?_
                      refine d_T 17 rfl (by kernel_rfl) rfl (y_is sl_81 rfl rfl (by omega) (by omega)) rfl ?_
                      refine d_ld 18 rfl (by kernel_rfl) one_5 rfl (fun x hx => hx) m0 (hy.getD (i := 4) (by omega) rfl) rfl ?_
                      refine d_T 19 rfl (by kernel_rfl) rfl (y_conv Tryz.underlying5 Tryz.underlying3 rfl (w64y hy)) rfl ?_
                      refine d_T 20 rfl (by kernel_rfl) rfl (y_move rfl) rfl ?_
                      refine d_T 21 rfl (by kernel_rfl) rfl (y_is sl_81 rfl rfl (by omega) (by omega)) rfl ?_
                      refine d_ld 22 rfl (by kernel_rfl) one_5 rfl (fun x hx => hx) m0 (hy.getD (i := 5) (by omega) rfl) rfl ?_
                      refine d_T 23 rfl (by kernel_rfl) rfl (y_conv Tryz.underlying5 Tryz.underlying3 rfl (w64y hy)) rfl ?_
                      refine d_T 24 rfl (by kernel_rfl) rfl (y_move rfl) rfl ?_
                      refine d_T 25 rfl (by kernel_rfl) rfl (y_build st_178 rfl (fb rfl rfl rfl Sg.s0 (fb rfl rfl rfl Sg.s1 (fb rfl rfl rfl Sg.s2 (fb rfl rfl rfl Sg.s3 (fb rfl rfl rfl Sg.s4 (fb rfl rfl rfl Sg.s5 (fb rfl rfl rfl Sg.s6 fb0)))))))) rfl ?_
                      refine d_hard 26 rfl (by kernel_rfl) ?_
                      refine o_sta ag_178 rfl rfl rfl rfl (rs (rs (rs (rs r0)))) (setAll_full _ _ rfl) (of_ble rfl) ?_
                      refine o_stop (fun h => nomatch h) ?_
                      refine d_L 27 rfl (by kernel_rfl) rfl (y_assign rfl) rfl rfl ?_
                      refine d_nil0 (by kernel_rfl) rfl ?_
                      refine c_ret ?_
                      refine fun aX wX heX hsX => retct Tryz.results116 heX hsX rfl rfl ag_178 (ms (ms (ms (ms m0)))) rfl (s_get (ks k0) (s_get k0 s_nil)) ?_
                      have ed : (l.drop 8).take (n - 8) = l.drop 8 := List.take_of_length_le (by simp; omega)
                      rw [ed] at h76 h76_1 ⊢
                      have e9 := segDec_ok (src := src) (dst := dst) (l := l) (by omega) (by omega) h76 h76_1 h79
                      rw [e9]
                      exact .inr ⟨rfl, _, rfl, rfl⟩
              · skip
                refine o_alloc ze_204 rfl rfl (fun b_5 => ?_)
                refine o_stop (fun _ => (fun x hx => (ms hx))) ?_
                refine d_hard 6 rfl (by kernel_rfl) ?_
                refine o_call en_155 rfl (t155b _ _ _ _ _ _ _ _ _ _ _ _ _ (hy.sub 0 6 (by omega) (by omega)) (hy.sub 8 _ (by omega) (by omega))) (s_skip (s_skip (s_skip (s_take s_nil)))) rfl ?_
                rintro v S' ⟨rfl, rfl⟩
                refine o_stop (fun h => nomatch h) ?_
                refine d_hard 8 rfl (by kernel_rfl) ?_
                refine o_sta ag_204 rfl rfl rfl rfl (rs r0) (setAll_full _ _ rfl) (of_ble rfl) ?_
                refine o_stop (fun h => nomatch h) ?_
                refine d_nil0 (by kernel_rfl) rfl ?_
                refine c_seq ?_
                refine c_seq ?_
                refine c_draw #[true, true, true, true, true, true, true, true, true, true, true, true, true, true] rfl (n := 14) rfl ?_
                refine d_T 0 rfl (by kernel_rfl) rfl (y_fa fl_204_0 rfl) rfl ?_
                refine d_ld 1 rfl (by kernel_rfl) one_5 rfl (fun x hx => hx) (ms m0) Ss.g0 rfl ?_
                refine d_T 2 rfl (by kernel_rfl) rfl (y_move rfl) rfl ?_
                refine d_T 3 rfl (by kernel_rfl) rfl (y_is sl_81 rfl rfl (by omega) (by omega)) rfl ?_
                refine d_ld 4 rfl (by kernel_rfl) one_5 rfl (fun x hx => hx) m0 (hy.getD (i := 6) (by omega) rfl) rfl ?_
                refine d_T 5 rfl (by kernel_rfl) rfl (y_neq rfl rfl) rfl ?_
                refine d_T 6 rfl (by kernel_rfl) rfl (y_move rfl) rfl ?_
                refine d_split 48 rfl (fun h76 => ?_) (fun h76 => ?_)
                · try simp only [decide_eq_true_eq, decide_eq_false_iff_not, Bool.not_eq_true', Bool.not_eq_false', Int.not_lt, Int.not_le, Decidable.not_not, beq_iff_eq, bne_iff_ne, ne_eq, beq_eq_false_iff_ne] at h76
                  refine d_pass 7 rfl rfl rfl rfl rfl (by kernel_rfl) (fun x hx => hx) rfl ?_
                  refine d_pass 8 rfl rfl rfl rfl rfl (by kernel_rfl) (fun x hx => hx) rfl ?_
                  refine d_pass 9 rfl rfl rfl rfl rfl (by kernel_rfl) (fun x hx => hx) rfl ?_
                  refine d_pass 10 rfl rfl rfl rfl rfl (by kernel_rfl) (fun x hx => hx) rfl ?_
                  refine d_pass 11 rfl rfl rfl rfl rfl (by kernel_rfl) (fun x hx => hx) rfl ?_
                  refine d_pass 12 rfl rfl rfl rfl rfl (by kernel_rfl) (fun x hx => hx) rfl ?_
                  refine d_T 13 rfl (by kernel_rfl) rfl (y_pickT rfl rfl) rfl ?_
                  refine d_nil1 55 (by kernel_rfl) rfl rfl ?_
                  refine c_condT rfl ?_
                  refine c_seq ?_
                  refine c_region ?_
                  refine o_ldw ag_178 rfl (ms (ms m0)) rfl rfl ?_
                  refine o_sta ag_178 rfl rfl rfl rfl (rs (rs (rs r0))) (setAll_full _ _ rfl) (of_ble rfl) ?_
                  refine o_L (y_assign rfl) rfl rfl ?_
                  refine o_nil0 rfl ?_
                  refine c_ret ?_
                  refine fun aX wX heX hsX => retct Tryz.results116 heX hsX rfl rfl ag_178 (ms (ms (ms m0))) rfl (s_take s_nil) ?_
                  have ed : (l.drop 8).take (n - 8) = l.drop 8 := List.take_of_length_le (by simp; omega)
                  rw [ed] at h76
                  have e9 := segDec_sum (src := src) (dst := dst) (l := l) (by omega) (by omega) (.inl h76)
                  rw [e9]
                  exact .inl ⟨by decide, rfl, rfl⟩
                · try simp only [decide_eq_true_eq, decide_eq_false_iff_not, Bool.not_eq_true', Bool.not_eq_false', Int.not_lt, Int.not_le, Decidable.not_not, beq_iff_eq, bne_iff_ne, ne_eq, beq_eq_false_iff_ne] at h76
                  refine d_Tg 7 rfl rfl rfl rfl (by kernel_rfl) rfl (y_fa fl_204_1 rfl) rfl ?_
                  refine d_ldt 8 rfl rfl rfl rfl (by kernel_rfl) one_5 rfl (fun x hx => hx) (ms m0) Ss.g1 rfl ?_
                  refine d_Tg 9 rfl rfl rfl rfl (by kernel_rfl) rfl (y_move rfl) rfl ?_
                  refine d_Tg 10 rfl rfl rfl rfl (by kernel_rfl) rfl (y_is sl_81 rfl rfl (by omega) (by omega)) rfl ?_
                  refine d_ldt 11 rfl rfl rfl rfl (by kernel_rfl) one_5 rfl (fun x hx => hx) m0 (hy.getD (i := 7) (by omega) rfl) rfl ?_
                  refine d_Tg 12 rfl rfl rfl rfl (by kernel_rfl) rfl (y_neq rfl rfl) rfl ?_
                  refine d_T 13 rfl (by kernel_rfl) rfl (y_pickF rfl rfl) rfl ?_
                  refine d_nil1 55 (by kernel_rfl) rfl rfl ?_
                  refine c_cond rfl (fun h76_1 => ?_) (fun h76_1 => ?_)
                  · try simp only [decide_eq_true_eq, decide_eq_false_iff_not, Bool.not_eq_true', Bool.not_eq_false', Int.not_lt, Int.not_le, Decidable.not_not, beq_iff_eq, bne_iff_ne, ne_eq, beq_eq_false_iff_ne] at h76_1
                    refine c_seq ?_
                    refine c_region ?_
                    refine o_ldw ag_178 rfl (ms (ms m0)) rfl rfl ?_
                    refine o_sta ag_178 rfl rfl rfl rfl (rs (rs (rs r0))) (setAll_full _ _ rfl) (of_ble rfl) ?_
                    refine o_L (y_assign rfl) rfl rfl ?_
                    refine o_nil0 rfl ?_
                    refine c_ret ?_
                    refine fun aX wX heX hsX => retct Tryz.results116 heX hsX rfl rfl ag_178 (ms (ms (ms m0))) rfl (s_take s_nil) ?_
                    have ed : (l.drop 8).take (n - 8) = l.drop 8 := List.take_of_length_le (by simp; omega)
                    rw [ed] at h76 h76_1
                    have e9 := segDec_sum (src := src) (dst := dst) (l := l) (by omega) (by omega) (.inr h76_1)
                    rw [e9]
                    exact .inl ⟨by decide, rfl, rfl⟩
                  · try simp only [decide_eq_true_eq, decide_eq_false_iff_not, Bool.not_eq_true', Bool.not_eq_false', Int.not_lt, Int.not_le, Decidable.not_not, beq_iff_eq, bne_iff_ne, ne_eq, beq_eq_false_iff_ne] at h76_1
                    refine c_skip ?_
                    refine c_seq ?_
                    refine c_seq ?_
                    refine c_region ?_
                    refine o_T (y_move rfl) rfl ?_
                    refine o_T (y_is sl_81 rfl rfl (by omega) (by omega)) rfl ?_
                    refine o_ld one_5 rfl m0 (hy.getD (i := 4) (by omega) rfl) rfl ?_
                    refine o_T (y_gtr rfl rfl) rfl ?_
                    refine o_nil1 60 rfl rfl ?_
                    refine c_cond rfl (fun h79 => ?_) (fun h79 => ?_)
                    · try simp only [decide_eq_true_eq, decide_eq_false_iff_not, Bool.not_eq_true', Bool.not_eq_false', Int.not_lt, Int.not_le, Decidable.not_not, beq_iff_eq, bne_iff_ne, ne_eq, beq_eq_false_iff_ne] at h79
                      refine c_seq ?_
                      refine c_region ?_
                      refine o_ldw ag_178 rfl (ms (ms m0)) rfl rfl ?_
                      refine o_sta ag_178 rfl rfl rfl rfl (rs (rs (rs r0))) (setAll_full _ _ rfl) (of_ble rfl) ?_
                      refine o_L (y_assign rfl) rfl rfl ?_
                      refine o_nil0 rfl ?_
                      refine c_ret ?_
                      refine fun aX wX heX hsX => retct Tryz.results116 heX hsX rfl rfl ag_178 (ms (ms (ms m0))) rfl (s_take s_nil) ?_
                      have ed : (l.drop 8).take (n - 8) = l.drop 8 := List.take_of_length_le (by simp; omega)
                      rw [ed] at h76 h76_1
                      have e9 := segDec_arg (src := src) (dst := dst) (l := l) (by omega) (by omega) h76 h76_1 h79
                      rw [e9]
                      exact .inl ⟨by decide, rfl, rfl⟩
                    · try simp only [decide_eq_true_eq, decide_eq_false_iff_not, Bool.not_eq_true', Bool.not_eq_false', Int.not_lt, Int.not_le, Decidable.not_not, beq_iff_eq, bne_iff_ne, ne_eq, beq_eq_false_iff_ne] at h79
                      refine c_skip ?_
                      refine c_seq ?_
                      refine c_region ?_
                      refine o_T (y_move rfl) rfl ?_
                      refine o_T (y_sls sl_81 rfl (bS (i := 8) rfl rfl) bN (by omega) (by omega)) rfl ?_
                      refine o_call en_78 rfl (t78 _ _ _ _ _ _ _ (hy.sub 8 _ (by omega) (by omega))) (s_take s_nil) rfl ?_
                      rintro v S' ⟨b_6, rfl, rfl⟩
                      refine o_L (y_assign rfl) rfl rfl ?_
                      refine o_nil0 rfl ?_
                      refine c_seq ?_
                      refine c_draw #[true, true, true, true, true, true, true, true, true, true, true, true, true, true, true, true, true, true, true, true, true, true, true, true, true, true, false, true] rfl (n := 28) rfl ?_
                      refine d_T 0 rfl (by kernel_rfl) rfl (y_move rfl) rfl ?_
                      refine d_T 1 rfl (by kernel_rfl) rfl (y_is sl_81 rfl rfl (by omega) (by omega)) rfl ?_
                      refine d_ld 2 rfl (by kernel_rfl) one_5 rfl (fun x hx => hx) m0 (hy.getD (i := 0) (by omega) rfl) rfl ?_
                      refine d_T 3 rfl (by kernel_rfl) rfl (y_conv Tryz.underlying5 Tryz.underlying3 rfl (w64y hy)) rfl ?_
                      refine d_T 4 rfl (by kernel_rfl) rfl (y_move rfl) rfl ?_
                      refine d_T 5 rfl (by kernel_rfl) rfl (y_is sl_81 rfl rfl (by omega) (by omega)) rfl ?_
                      refine d_ld 6 rfl (by kernel_rfl) one_5 rfl (fun x hx => hx) m0 (hy.getD (i := 1) (by omega) rfl) rfl ?_
                      refine d_T 7 rfl (by kernel_rfl) rfl (y_conv Tryz.underlying5 Tryz.underlying3 rfl (w64y hy)) rfl ?_
                      refine d_T 8 rfl (by kernel_rfl) rfl (y_move rfl) rfl ?_
                      refine d_T 9 rfl (by kernel_rfl) rfl (y_is sl_81 rfl rfl (by omega) (by omega)) rfl ?_
                      refine d_ld 10 rfl (by kernel_rfl) one_5 rfl (fun x hx => hx) m0 (hy.getD (i := 2) (by omega) rfl) rfl ?_
                      refine d_T 11 rfl (by kernel_rfl) rfl (y_conv Tryz.underlying5 Tryz.underlying3 rfl (w64y hy)) rfl ?_
                      refine d_T 12 rfl (by kernel_rfl) rfl (y_move rfl) rfl ?_
                      refine d_T 13 rfl (by kernel_rfl) rfl (y_is sl_81 rfl rfl (by omega) (by omega)) rfl ?_
                      refine d_ld 14 rfl (by kernel_rfl) one_5 rfl (fun x hx => hx) m0 (hy.getD (i := 3) (by omega) rfl) rfl ?_
                      refine d_T 15 rfl (by kernel_rfl) rfl (y_conv Tryz.underlying5 Tryz.underlying3 rfl (w64y hy)) rfl ?_
                      refine d_T 16 rfl (by kernel_rfl) rfl (y_move rfl) rfl ?_
                      refine d_T 17 rfl (by kernel_rfl) rfl (y_is sl_81 rfl rfl (by omega) (by omega)) rfl ?_
                      refine d_ld 18 rfl (by kernel_rfl) one_5 rfl (fun x hx => hx) m0 (hy.getD (i := 4) (by omega) rfl) rfl ?_
                      refine d_T 19 rfl (by kernel_rfl) rfl (y_conv Tryz.underlying5 Tryz.underlying3 rfl (w64y hy)) rfl ?_
                      refine d_T 20 rfl (by kernel_rfl) rfl (y_move rfl) rfl ?_
                      refine d_T 21 rfl (by kernel_rfl) rfl (y_is sl_81 rfl rfl (by omega) (by omega)) rfl ?_
                      refine d_ld 22 rfl (by kernel_rfl) one_5 rfl (fun x hx => hx) m0 (hy.getD (i := 5) (by omega) rfl) rfl ?_
                      refine d_T 23 rfl (by kernel_rfl) rfl (y_conv Tryz.underlying5 Tryz.underlying3 rfl (w64y hy)) rfl ?_
                      refine d_T 24 rfl (by kernel_rfl) rfl (y_move rfl) rfl ?_
                      refine d_T 25 rfl (by kernel_rfl) rfl (y_build st_178 rfl (fb rfl rfl rfl Sg.s0 (fb rfl rfl rfl Sg.s1 (fb rfl rfl rfl Sg.s2 (fb rfl rfl rfl Sg.s3 (fb rfl rfl rfl Sg.s4 (fb rfl rfl rfl Sg.s5 (fb rfl rfl rfl Sg.s6 fb0)))))))) rfl ?_
                      refine d_hard 26 rfl (by kernel_rfl) ?_
                      refine o_sta ag_178 rfl rfl rfl rfl (rs (rs (rs (rs r0)))) (setAll_full _ _ rfl) (of_ble rfl) ?_
                      refine o_stop (fun h => nomatch h) ?_
                      refine d_L 27 rfl (by kernel_rfl) rfl (y_assign rfl) rfl rfl ?_
                      refine d_nil0 (by kernel_rfl) rfl ?_
                      refine c_ret ?_
                      refine fun aX wX heX hsX => retct Tryz.results116 heX hsX rfl rfl ag_178 (ms (ms (ms (ms m0)))) rfl (s_get (ks k0) (s_get k0 s_nil)) ?_
                      have ed : (l.drop 8).take (n - 8) = l.drop 8 := List.take_of_length_le (by simp; omega)
                      rw [ed] at h76 h76_1 ⊢
                      have e9 := segDec_ok (src := src) (dst := dst) (l := l) (by omega) (by omega) h76 h76_1 h79
                      rw [e9]
                      exact .inr ⟨rfl, _, rfl, rfl⟩

end Go.Proofs.Qxb6500351aGreat
