/- MADE BY PROGRAM (tools/gen.py over tools/specs351.py): walks. -/
import Derived.Test.Qxb6500351aGreatFacts
import Derived.Test.Qxb6500351aGreatMd10
import Derived.Test.Qxb6500351aGreatW23
set_option linter.unusedVariables false
set_option linter.unusedSimpArgs false
namespace Go.Proofs.Qxb6500351aGreat
open Go.Eng
set_option maxRecDepth 20000
set_option maxHeartbeats 4000000
/-- (*e2e/ip.IP).Output -/
theorem t163a (b : Nat) (p : Ipt) (dst : Int) (b2 o n cap e : Nat) (cs : Array Value) (l : List Int) (ok : p.Ok) (hd : 0 ≤ dst ∧ dst ≤ 255) (hr : 1 ≤ n ∧ n ≤ 16) (hy : BytAt o n cap cs l) : Trip Tryz.prog 163 #[.pointer (some ⟨b, 0, none⟩), .int .i64 dst, .int .i64 6, .slice (some ⟨b2, o, none⟩) n cap] [[(b, .cells p.enc 153 (0, 0))], [(b2, .cells cs e (0, 0))]] (fun u S' => (p.credit ≤ 0 ∧ u = .tuple #[.slice none 0 0, .int .i64 12] ∧ S' = [[(b, .cells p.enc 153 (0, 0))], [(b2, .cells cs e (0, 0))]]) ∨ (0 < p.credit ∧ ∃ v gv gd, u = .tuple #[v, .int .i64 0] ∧ Lst 81 1 rowR v (p.out dst 6 l) gv gd ∧ S' = [gv, gd, [(b, .cells p.sent.enc 153 (0, 0))], [(b2, .cells cs e (0, 0))]])) := by
  have hn := hy.n_eq
  have hcp := hy.cap
  have hb := hy.bytes
  have ok1 := ok.addr
  have ok2 := ok.nxt
  have ok3 := ok.credit
  refine fn_entry (args := [.pointer (some ⟨b, 0, none⟩), .int .i64 dst, .int .i64 6, .slice (some ⟨b2, o, none⟩) n cap]) Tryz.func163 rfl Tryz.ntmps163 rfl (fun w0 => ?_)
  refine c_seq ?_
  refine c_region ?_
  refine o_L (y_assign rfl) rfl rfl ?_
  refine o_L (y_assign rfl) rfl rfl ?_
  refine o_nil0 rfl ?_
  refine c_seq ?_
  refine c_seq ?_
  refine c_region ?_
  refine o_T (y_move rfl) rfl ?_
  refine o_T (y_lss rfl rfl) rfl ?_
  refine o_T (y_move rfl) rfl ?_
  refine o_split 17 rfl (fun h25 => ?_) (fun h25 => ?_)
  · try simp only [decide_eq_true_eq, decide_eq_false_iff_not, Bool.not_eq_true', Bool.not_eq_false', Int.not_lt, Int.not_le, Decidable.not_not, beq_iff_eq, bne_iff_ne, ne_eq, beq_eq_false_iff_ne] at h25
    exfalso; omega
  · try simp only [decide_eq_true_eq, decide_eq_false_iff_not, Bool.not_eq_true', Bool.not_eq_false', Int.not_lt, Int.not_le, Decidable.not_not, beq_iff_eq, bne_iff_ne, ne_eq, beq_eq_false_iff_ne] at h25
    refine o_take rfl rfl rfl ?_
    refine o_T (y_move rfl) rfl ?_
    refine o_take rfl rfl rfl ?_
    refine o_T (y_gtr rfl rfl) rfl ?_
    refine o_T (y_pickF rfl rfl) rfl ?_
    refine o_nil1 20 rfl rfl ?_
    refine c_cond rfl (fun h25_1 => ?_) (fun h25_1 => ?_)
    · try simp only [decide_eq_true_eq, decide_eq_false_iff_not, Bool.not_eq_true', Bool.not_eq_false', Int.not_lt, Int.not_le, Decidable.not_not, beq_iff_eq, bne_iff_ne, ne_eq, beq_eq_false_iff_ne] at h25_1
      exfalso; omega
    · try simp only [decide_eq_true_eq, decide_eq_false_iff_not, Bool.not_eq_true', Bool.not_eq_false', Int.not_lt, Int.not_le, Decidable.not_not, beq_iff_eq, bne_iff_ne, ne_eq, beq_eq_false_iff_ne] at h25_1
      refine c_skip ?_
      refine c_seq ?_
      refine c_seq ?_
      refine c_region ?_
      refine o_T (y_move rfl) rfl ?_
      refine o_T (y_lss rfl rfl) rfl ?_
      refine o_T (y_move rfl) rfl ?_
      refine o_split 23 rfl (fun h28 => ?_) (fun h28 => ?_)
      · try simp only [decide_eq_true_eq, decide_eq_false_iff_not, Bool.not_eq_true', Bool.not_eq_false', Int.not_lt, Int.not_le, Decidable.not_not, beq_iff_eq, bne_iff_ne, ne_eq, beq_eq_false_iff_ne] at h28
        exfalso; omega
      · try simp only [decide_eq_true_eq, decide_eq_false_iff_not, Bool.not_eq_true', Bool.not_eq_false', Int.not_lt, Int.not_le, Decidable.not_not, beq_iff_eq, bne_iff_ne, ne_eq, beq_eq_false_iff_ne] at h28
        refine o_take rfl rfl rfl ?_
        refine o_T (y_move rfl) rfl ?_
        refine o_take rfl rfl rfl ?_
        refine o_T (y_gtr rfl rfl) rfl ?_
        refine o_T (y_pickF rfl rfl) rfl ?_
        refine o_nil1 26 rfl rfl ?_
        refine c_cond rfl (fun h28_1 => ?_) (fun h28_1 => ?_)
        · try simp only [decide_eq_true_eq, decide_eq_false_iff_not, Bool.not_eq_true', Bool.not_eq_false', Int.not_lt, Int.not_le, Decidable.not_not, beq_iff_eq, bne_iff_ne, ne_eq, beq_eq_false_iff_ne] at h28_1
          exfalso; omega
        · try simp only [decide_eq_true_eq, decide_eq_false_iff_not, Bool.not_eq_true', Bool.not_eq_false', Int.not_lt, Int.not_le, Decidable.not_not, beq_iff_eq, bne_iff_ne, ne_eq, beq_eq_false_iff_ne] at h28_1
          refine c_skip ?_
          refine c_seq ?_
          refine c_seq ?_
          refine c_region ?_
          refine o_T (y_move rfl) rfl ?_
          refine o_T (y_len Tryz.underlying81 rfl) rfl ?_
          refine o_T (y_gtr rfl rfl) rfl ?_
          refine o_nil1 29 rfl rfl ?_
          refine c_cond rfl (fun h31 => ?_) (fun h31 => ?_)
          · try simp only [decide_eq_true_eq, decide_eq_false_iff_not, Bool.not_eq_true', Bool.not_eq_false', Int.not_lt, Int.not_le, Decidable.not_not, beq_iff_eq, bne_iff_ne, ne_eq, beq_eq_false_iff_ne] at h31
            exfalso; omega
          · try simp only [decide_eq_true_eq, decide_eq_false_iff_not, Bool.not_eq_true', Bool.not_eq_false', Int.not_lt, Int.not_le, Decidable.not_not, beq_iff_eq, bne_iff_ne, ne_eq, beq_eq_false_iff_ne] at h31
            refine c_skip ?_
            refine c_seq ?_
            refine c_seq ?_
            refine c_region ?_
            refine o_T (y_move rfl) rfl ?_
            refine o_T (y_nilck rfl) rfl ?_
            refine o_T (y_fa fl_153_2 rfl) rfl ?_
            refine o_ld one_3 rfl m0 Ipt.g2 rfl ?_
            refine o_T (y_leq rfl rfl) rfl ?_
            refine o_nil1 34 rfl rfl ?_
            refine c_cond rfl (fun h34 => ?_) (fun h34 => ?_)
            · try simp only [decide_eq_true_eq, decide_eq_false_iff_not, Bool.not_eq_true', Bool.not_eq_false', Int.not_lt, Int.not_le, Decidable.not_not, beq_iff_eq, bne_iff_ne, ne_eq, beq_eq_false_iff_ne] at h34
              refine c_seq ?_
              refine c_region ?_
              refine o_L (y_assign rfl) rfl rfl ?_
              refine o_L (y_assign rfl) rfl rfl ?_
              refine o_nil0 rfl ?_
              refine c_ret ?_
              refine fun aX wX heX hsX => ret2 Tryz.results163 heX rfl rfl (s_take (s_take s_nil)) ?_
              exact .inl ⟨h34, rfl, rfl⟩
            · try simp only [decide_eq_true_eq, decide_eq_false_iff_not, Bool.not_eq_true', Bool.not_eq_false', Int.not_lt, Int.not_le, Decidable.not_not, beq_iff_eq, bne_iff_ne, ne_eq, beq_eq_false_iff_ne] at h34
              refine c_skip ?_
              refine c_seq ?_
              refine c_region ?_
              refine o_T (y_move rfl) rfl ?_
              refine o_T (y_len Tryz.underlying81 rfl) rfl ?_
              refine o_T (y_add rfl rfl (w64 (by omega))) rfl ?_
              refine o_T (y_sub rfl rfl (w64 (by omega))) rfl ?_
              refine o_T (y_quo rfl rfl (by decide) (quo_one hr)) rfl ?_
              refine o_L (y_assign rfl) rfl rfl ?_
              refine o_nil0 rfl ?_
              refine c_seq ?_
              refine c_seq ?_
              refine c_region ?_
              refine o_T (y_move rfl) rfl ?_
              refine o_T (y_eql rfl rfl) rfl ?_
              refine o_nil1 41 rfl rfl ?_
              refine c_cond rfl (fun h38 => ?_) (fun h38 => ?_)
              · try simp only [decide_eq_true_eq, decide_eq_false_iff_not, Bool.not_eq_true', Bool.not_eq_false', Int.not_lt, Int.not_le, Decidable.not_not, beq_iff_eq, bne_iff_ne, ne_eq, beq_eq_false_iff_ne] at h38
                exfalso; omega
              · try simp only [decide_eq_true_eq, decide_eq_false_iff_not, Bool.not_eq_true', Bool.not_eq_false', Int.not_lt, Int.not_le, Decidable.not_not, beq_iff_eq, bne_iff_ne, ne_eq, beq_eq_false_iff_ne] at h38
                refine c_skip ?_
                refine c_seq ?_
                refine c_region ?_
                refine o_T (y_move rfl) rfl ?_
                refine o_make 1 1 sz_51 rfl rfl (by omega) (by omega) (by omega) (by omega) (by omega) rfl (fun b_1 => ?_)
                refine o_L (y_assign rfl) rfl rfl ?_
                refine o_nil0 rfl ?_
                refine c_seq ?_
                refine c_seq ?_
                refine c_row (g' := [(b_1, .cells #[.slice none 0 0] 81 (0, 0))]) q0 (by rw [made1]) ?_
                refine c_region ?_
                refine o_L (y_assign rfl) rfl rfl ?_
                refine o_nil0 rfl ?_
                refine c_block ?_
                refine c_unroll 1 ?_
                refine l_one ?_
                refine c_seq ?_
                refine c_seq ?_
                refine c_region ?_
                refine o_T (y_move rfl) rfl ?_
                refine o_T (y_move rfl) rfl ?_
                refine o_T (y_sub rfl rfl (w64 (by omega))) rfl ?_
                refine o_T (y_lss rfl rfl) rfl ?_
                refine o_nil1 47 rfl rfl ?_
                refine c_cond rfl (fun h42 => ?_) (fun h42 => ?_)
                · try simp only [decide_eq_true_eq, decide_eq_false_iff_not, Bool.not_eq_true', Bool.not_eq_false', Int.not_lt, Int.not_le, Decidable.not_not, beq_iff_eq, bne_iff_ne, ne_eq, beq_eq_false_iff_ne] at h42
                  exact absurd h42 (by decide)
                · try simp only [decide_eq_true_eq, decide_eq_false_iff_not, Bool.not_eq_true', Bool.not_eq_false', Int.not_lt, Int.not_le, Decidable.not_not, beq_iff_eq, bne_iff_ne, ne_eq, beq_eq_false_iff_ne] at h42
                  refine c_exit ?_
                  refine c_seq ?_
                  refine c_region ?_
                  refine o_T (y_move rfl) rfl ?_
                  refine o_T (y_sub rfl rfl (w64 (by omega))) rfl ?_
                  refine o_T (y_mul rfl rfl (w64 (by omega))) rfl ?_
                  refine o_L (y_assign rfl) rfl rfl ?_
                  refine o_nil0 rfl ?_
                  refine c_seq ?_
                  refine c_draw #[true, true, true, true, true, true, true, true, true, true, true, true, true, true, true, true, true, false, true, false] rfl (n := 20) rfl ?_
                  refine d_T 0 rfl (by kernel_rfl) rfl (y_move rfl) rfl ?_
                  refine d_T 1 rfl (by kernel_rfl) rfl (y_move rfl) rfl ?_
                  refine d_T 2 rfl (by kernel_rfl) rfl (y_sub rfl rfl (w64 (by omega))) rfl ?_
                  refine d_T 3 rfl (by kernel_rfl) rfl (y_move rfl) rfl ?_
                  refine d_T 4 rfl (by kernel_rfl) rfl (y_move rfl) rfl ?_
                  refine d_T 5 rfl (by kernel_rfl) rfl (y_nilck rfl) rfl ?_
                  refine d_T 6 rfl (by kernel_rfl) rfl (y_fa fl_153_0 rfl) rfl ?_
                  refine d_ld 7 rfl (by kernel_rfl) one_3 rfl (fun x hx => hx) (ms m0) Ipt.g0 rfl ?_
                  refine d_T 8 rfl (by kernel_rfl) rfl (y_move rfl) rfl ?_
                  refine d_T 9 rfl (by kernel_rfl) rfl (y_move rfl) rfl ?_
                  refine d_T 10 rfl (by kernel_rfl) rfl (y_nilck rfl) rfl ?_
                  refine d_T 11 rfl (by kernel_rfl) rfl (y_fa fl_153_1 rfl) rfl ?_
                  refine d_ld 12 rfl (by kernel_rfl) one_3 rfl (fun x hx => hx) (ms m0) Ipt.g1 rfl ?_
                  refine d_T 13 rfl (by kernel_rfl) rfl (y_move rfl) rfl ?_
                  refine d_T 14 rfl (by kernel_rfl) rfl (y_move rfl) rfl ?_
                  refine d_T 15 rfl (by kernel_rfl) rfl (y_move rfl) rfl ?_
                  refine d_T 16 rfl (by kernel_rfl) rfl (y_sls sl_81 rfl (bS (i := 0) rfl (by omega)) bN (by omega) (by omega)) rfl ?_
                  refine d_hard 17 rfl (by kernel_rfl) ?_
                  refine o_call en_199 rfl (t199 _ _ _ _ _ _ _ _ _ _ _ _ (by omega) (by omega) (by omega) (by omega) (by omega) (by omega) (hy.sub 0 _ (by omega) (by omega))) (s_skip (s_skip (s_take s_nil))) rfl ?_
                  rintro v S' ⟨b_2, rfl, rfl⟩
                  refine o_stop (fun h => nomatch h) ?_
                  refine d_T 18 rfl (by kernel_rfl) rfl (y_is sl_51 rfl rfl (by omega) (by omega)) rfl ?_
                  refine d_hard 19 rfl (by kernel_rfl) ?_
                  refine o_st one_81 rfl rfl rfl (rs (rs r0)) rfl (of_blt rfl) ?_
                  refine o_stop (fun h => nomatch h) ?_
                  refine d_nil0 (by kernel_rfl) rfl ?_
                  refine c_seq ?_
                  refine c_region ?_
                  refine o_T (y_move rfl) rfl ?_
                  refine o_T (y_nilck rfl) rfl ?_
                  refine o_T (y_fa fl_153_1 rfl) rfl ?_
                  refine o_ld one_3 rfl (ms (ms (ms m0))) Ipt.g1 rfl ?_
                  refine o_T (y_add rfl rfl (w64 (by omega))) rfl ?_
                  refine o_T (y_nilck rfl) rfl ?_
                  refine o_T (y_fa fl_153_1 rfl) rfl ?_
                  refine o_st one_3 rfl rfl rfl (rs (rs (rs r0))) Ipt.s1 (of_blt rfl) ?_
                  refine o_nil0 rfl ?_
                  refine c_seq ?_
                  refine c_seq ?_
                  refine c_region ?_
                  refine o_T (y_move rfl) rfl ?_
                  refine o_T (y_nilck rfl) rfl ?_
                  refine o_T (y_fa fl_153_1 rfl) rfl ?_
                  refine o_ld one_3 rfl (ms (ms (ms m0))) Ipt.g1 rfl ?_
                  refine o_T (y_eql rfl rfl) rfl ?_
                  refine o_nil1 106 rfl rfl ?_
                  refine c_cond rfl (fun h49 => ?_) (fun h49 => ?_)
                  · try simp only [decide_eq_true_eq, decide_eq_false_iff_not, Bool.not_eq_true', Bool.not_eq_false', Int.not_lt, Int.not_le, Decidable.not_not, beq_iff_eq, bne_iff_ne, ne_eq, beq_eq_false_iff_ne] at h49
                    refine c_region ?_
                    refine o_T (y_move rfl) rfl ?_
                    refine o_T (y_nilck rfl) rfl ?_
                    refine o_T (y_fa fl_153_1 rfl) rfl ?_
                    refine o_st one_3 rfl rfl rfl (rs (rs (rs r0))) Ipt.s1 (of_blt rfl) ?_
                    refine o_nil0 rfl ?_
                    refine c_seq ?_
                    refine c_region ?_
                    refine o_T (y_move rfl) rfl ?_
                    refine o_T (y_nilck rfl) rfl ?_
                    refine o_T (y_fa fl_153_2 rfl) rfl ?_
                    refine o_ld one_3 rfl (ms (ms (ms m0))) Ipt.g2 rfl ?_
                    refine o_T (y_sub rfl rfl (w64 (by omega))) rfl ?_
                    refine o_T (y_nilck rfl) rfl ?_
                    refine o_T (y_fa fl_153_2 rfl) rfl ?_
                    refine o_st one_3 rfl rfl rfl (rs (rs (rs r0))) Ipt.s2 (of_blt rfl) ?_
                    refine o_nil0 rfl ?_
                    refine c_seq ?_
                    refine c_region ?_
                    refine o_T (y_move rfl) rfl ?_
                    refine o_L (y_assign rfl) rfl rfl ?_
                    refine o_L (y_assign rfl) rfl rfl ?_
                    refine o_nil0 rfl ?_
                    refine c_ret ?_
                    refine fun aX wX heX hsX => ret2 Tryz.results163 heX rfl rfl (s_get (ks (ks k0)) (s_get k0 (s_get (ks k0) (s_get k0 s_nil)))) ?_
                    have e2 : p.sent = { p with nxt_ := 0, credit := p.credit - 1 } := by unfold Ipt.sent; rw [if_pos h49]
                    rw [e2]
                    have e1 : p.out dst 6 l = [ipPkt 6 p.addr dst p.nxt_ ((1 - 1) * 16) ((l.drop 0).take (n - 0))] := by unfold Ipt.out; rw [if_pos (by omega), List.drop_zero, List.take_of_length_le (by omega)]; rfl
                    rw [e1]
                    exact .inr ⟨by omega, _, _, _, rfl, lst_one (ipPkt_b (by omega) (by omega) (by omega) (by omega) (by omega) (by simp only [List.length_take, List.length_drop]; omega) ((hb.drop _).take _)) (by rw [ipPkt_len]; simp only [List.length_take, List.length_drop]; omega), rfl⟩
                  · try simp only [decide_eq_true_eq, decide_eq_false_iff_not, Bool.not_eq_true', Bool.not_eq_false', Int.not_lt, Int.not_le, Decidable.not_not, beq_iff_eq, bne_iff_ne, ne_eq, beq_eq_false_iff_ne] at h49
                    refine c_skip ?_
                    refine c_seq ?_
                    refine c_region ?_
                    refine o_T (y_move rfl) rfl ?_
                    refine o_T (y_nilck rfl) rfl ?_
                    refine o_T (y_fa fl_153_2 rfl) rfl ?_
                    refine o_ld one_3 rfl (ms (ms (ms m0))) Ipt.g2 rfl ?_
                    refine o_T (y_sub rfl rfl (w64 (by omega))) rfl ?_
                    refine o_T (y_nilck rfl) rfl ?_
                    refine o_T (y_fa fl_153_2 rfl) rfl ?_
                    refine o_st one_3 rfl rfl rfl (rs (rs (rs r0))) Ipt.s2 (of_blt rfl) ?_
                    refine o_nil0 rfl ?_
                    refine c_seq ?_
                    refine c_region ?_
                    refine o_T (y_move rfl) rfl ?_
                    refine o_L (y_assign rfl) rfl rfl ?_
                    refine o_L (y_assign rfl) rfl rfl ?_
                    refine o_nil0 rfl ?_
                    refine c_ret ?_
                    refine fun aX wX heX hsX => ret2 Tryz.results163 heX rfl rfl (s_get (ks (ks k0)) (s_get k0 (s_get (ks k0) (s_get k0 s_nil)))) ?_
                    have e2 : p.sent = { p with nxt_ := p.nxt_ + 1, credit := p.credit - 1 } := by unfold Ipt.sent; rw [if_neg h49]
                    rw [e2]
                    have e1 : p.out dst 6 l = [ipPkt 6 p.addr dst p.nxt_ ((1 - 1) * 16) ((l.drop 0).take (n - 0))] := by unfold Ipt.out; rw [if_pos (by omega), List.drop_zero, List.take_of_length_le (by omega)]; rfl
                    rw [e1]
                    exact .inr ⟨by omega, _, _, _, rfl, lst_one (ipPkt_b (by omega) (by omega) (by omega) (by omega) (by omega) (by simp only [List.length_take, List.length_drop]; omega) ((hb.drop _).take _)) (by rw [ipPkt_len]; simp only [List.length_take, List.length_drop]; omega), rfl⟩

/-- (*e2e/ip.IP).Output -/
theorem t163b (b : Nat) (p : Ipt) (dst : Int) (b2 o n cap e : Nat) (cs : Array Value) (l : List Int) (ok : p.Ok) (hd : 0 ≤ dst ∧ dst ≤ 255) (hr : 17 ≤ n ∧ n ≤ 32) (hy : BytAt o n cap cs l) : Trip Tryz.prog 163 #[.pointer (some ⟨b, 0, none⟩), .int .i64 dst, .int .i64 6, .slice (some ⟨b2, o, none⟩) n cap] [[(b, .cells p.enc 153 (0, 0))], [(b2, .cells cs e (0, 0))]] (fun u S' => (p.credit ≤ 0 ∧ u = .tuple #[.slice none 0 0, .int .i64 12] ∧ S' = [[(b, .cells p.enc 153 (0, 0))], [(b2, .cells cs e (0, 0))]]) ∨ (0 < p.credit ∧ ∃ v gv gd, u = .tuple #[v, .int .i64 0] ∧ Lst 81 1 rowR v (p.out dst 6 l) gv gd ∧ S' = [gv, gd, [(b, .cells p.sent.enc 153 (0, 0))], [(b2, .cells cs e (0, 0))]])) := by
  have hn := hy.n_eq
  have hcp := hy.cap
  have hb := hy.bytes
  have ok1 := ok.addr
  have ok2 := ok.nxt
  have ok3 := ok.credit
  refine fn_entry (args := [.pointer (some ⟨b, 0, none⟩), .int .i64 dst, .int .i64 6, .slice (some ⟨b2, o, none⟩) n cap]) Tryz.func163 rfl Tryz.ntmps163 rfl (fun w0 => ?_)
  refine c_seq ?_
  refine c_region ?_
  refine o_L (y_assign rfl) rfl rfl ?_
  refine o_L (y_assign rfl) rfl rfl ?_
  refine o_nil0 rfl ?_
  refine c_seq ?_
  refine c_seq ?_
  refine c_region ?_
  refine o_T (y_move rfl) rfl ?_
  refine o_T (y_lss rfl rfl) rfl ?_
  refine o_T (y_move rfl) rfl ?_
  refine o_split 17 rfl (fun h25 => ?_) (fun h25 => ?_)
  · try simp only [decide_eq_true_eq, decide_eq_false_iff_not, Bool.not_eq_true', Bool.not_eq_false', Int.not_lt, Int.not_le, Decidable.not_not, beq_iff_eq, bne_iff_ne, ne_eq, beq_eq_false_iff_ne] at h25
    exfalso; omega
  · try simp only [decide_eq_true_eq, decide_eq_false_iff_not, Bool.not_eq_true', Bool.not_eq_false', Int.not_lt, Int.not_le, Decidable.not_not, beq_iff_eq, bne_iff_ne, ne_eq, beq_eq_false_iff_ne] at h25
    refine o_take rfl rfl rfl ?_
    refine o_T (y_move rfl) rfl ?_
    refine o_take rfl rfl rfl ?_
    refine o_T (y_gtr rfl rfl) rfl ?_
    refine o_T (y_pickF rfl rfl) rfl ?_
    refine o_nil1 20 rfl rfl ?_
    refine c_cond rfl (fun h25_1 => ?_) (fun h25_1 => ?_)
    · try simp only [decide_eq_true_eq, decide_eq_false_iff_not, Bool.not_eq_true', Bool.not_eq_false', Int.not_lt, Int.not_le, Decidable.not_not, beq_iff_eq, bne_iff_ne, ne_eq, beq_eq_false_iff_ne] at h25_1
      exfalso; omega
    · try simp only [decide_eq_true_eq, decide_eq_false_iff_not, Bool.not_eq_true', Bool.not_eq_false', Int.not_lt, Int.not_le, Decidable.not_not, beq_iff_eq, bne_iff_ne, ne_eq, beq_eq_false_iff_ne] at h25_1
      refine c_skip ?_
      refine c_seq ?_
      refine c_seq ?_
      refine c_region ?_
      refine o_T (y_move rfl) rfl ?_
      refine o_T (y_lss rfl rfl) rfl ?_
      refine o_T (y_move rfl) rfl ?_
      refine o_split 23 rfl (fun h28 => ?_) (fun h28 => ?_)
      · try simp only [decide_eq_true_eq, decide_eq_false_iff_not, Bool.not_eq_true', Bool.not_eq_false', Int.not_lt, Int.not_le, Decidable.not_not, beq_iff_eq, bne_iff_ne, ne_eq, beq_eq_false_iff_ne] at h28
        exfalso; omega
      · try simp only [decide_eq_true_eq, decide_eq_false_iff_not, Bool.not_eq_true', Bool.not_eq_false', Int.not_lt, Int.not_le, Decidable.not_not, beq_iff_eq, bne_iff_ne, ne_eq, beq_eq_false_iff_ne] at h28
        refine o_take rfl rfl rfl ?_
        refine o_T (y_move rfl) rfl ?_
        refine o_take rfl rfl rfl ?_
        refine o_T (y_gtr rfl rfl) rfl ?_
        refine o_T (y_pickF rfl rfl) rfl ?_
        refine o_nil1 26 rfl rfl ?_
        refine c_cond rfl (fun h28_1 => ?_) (fun h28_1 => ?_)
        · try simp only [decide_eq_true_eq, decide_eq_false_iff_not, Bool.not_eq_true', Bool.not_eq_false', Int.not_lt, Int.not_le, Decidable.not_not, beq_iff_eq, bne_iff_ne, ne_eq, beq_eq_false_iff_ne] at h28_1
          exfalso; omega
        · try simp only [decide_eq_true_eq, decide_eq_false_iff_not, Bool.not_eq_true', Bool.not_eq_false', Int.not_lt, Int.not_le, Decidable.not_not, beq_iff_eq, bne_iff_ne, ne_eq, beq_eq_false_iff_ne] at h28_1
          refine c_skip ?_
          refine c_seq ?_
          refine c_seq ?_
          refine c_region ?_
          refine o_T (y_move rfl) rfl ?_
          refine o_T (y_len Tryz.underlying81 rfl) rfl ?_
          refine o_T (y_gtr rfl rfl) rfl ?_
          refine o_nil1 29 rfl rfl ?_
          refine c_cond rfl (fun h31 => ?_) (fun h31 => ?_)
          · try simp only [decide_eq_true_eq, decide_eq_false_iff_not, Bool.not_eq_true', Bool.not_eq_false', Int.not_lt, Int.not_le, Decidable.not_not, beq_iff_eq, bne_iff_ne, ne_eq, beq_eq_false_iff_ne] at h31
            exfalso; omega
          · try simp only [decide_eq_true_eq, decide_eq_false_iff_not, Bool.not_eq_true', Bool.not_eq_false', Int.not_lt, Int.not_le, Decidable.not_not, beq_iff_eq, bne_iff_ne, ne_eq, beq_eq_false_iff_ne] at h31
            refine c_skip ?_
            refine c_seq ?_
            refine c_seq ?_
            refine c_region ?_
            refine o_T (y_move rfl) rfl ?_
            refine o_T (y_nilck rfl) rfl ?_
            refine o_T (y_fa fl_153_2 rfl) rfl ?_
            refine o_ld one_3 rfl m0 Ipt.g2 rfl ?_
            refine o_T (y_leq rfl rfl) rfl ?_
            refine o_nil1 34 rfl rfl ?_
            refine c_cond rfl (fun h34 => ?_) (fun h34 => ?_)
            · try simp only [decide_eq_true_eq, decide_eq_false_iff_not, Bool.not_eq_true', Bool.not_eq_false', Int.not_lt, Int.not_le, Decidable.not_not, beq_iff_eq, bne_iff_ne, ne_eq, beq_eq_false_iff_ne] at h34
              refine c_seq ?_
              refine c_region ?_
              refine o_L (y_assign rfl) rfl rfl ?_
              refine o_L (y_assign rfl) rfl rfl ?_
              refine o_nil0 rfl ?_
              refine c_ret ?_
              refine fun aX wX heX hsX => ret2 Tryz.results163 heX rfl rfl (s_take (s_take s_nil)) ?_
              exact .inl ⟨h34, rfl, rfl⟩
            · try simp only [decide_eq_true_eq, decide_eq_false_iff_not, Bool.not_eq_true', Bool.not_eq_false', Int.not_lt, Int.not_le, Decidable.not_not, beq_iff_eq, bne_iff_ne, ne_eq, beq_eq_false_iff_ne] at h34
              refine c_skip ?_
              refine c_seq ?_
              refine c_region ?_
              refine o_T (y_move rfl) rfl ?_
              refine o_T (y_len Tryz.underlying81 rfl) rfl ?_
              refine o_T (y_add rfl rfl (w64 (by omega))) rfl ?_
              refine o_T (y_sub rfl rfl (w64 (by omega))) rfl ?_
              refine o_T (y_quo rfl rfl (by decide) (quo_two hr)) rfl ?_
              refine o_L (y_assign rfl) rfl rfl ?_
              refine o_nil0 rfl ?_
              refine c_seq ?_
              refine c_seq ?_
              refine c_region ?_
              refine o_T (y_move rfl) rfl ?_
              refine o_T (y_eql rfl rfl) rfl ?_
              refine o_nil1 41 rfl rfl ?_
              refine c_cond rfl (fun h38 => ?_) (fun h38 => ?_)
              · try simp only [decide_eq_true_eq, decide_eq_false_iff_not, Bool.not_eq_true', Bool.not_eq_false', Int.not_lt, Int.not_le, Decidable.not_not, beq_iff_eq, bne_iff_ne, ne_eq, beq_eq_false_iff_ne] at h38
                exfalso; omega
              · try simp only [decide_eq_true_eq, decide_eq_false_iff_not, Bool.not_eq_true', Bool.not_eq_false', Int.not_lt, Int.not_le, Decidable.not_not, beq_iff_eq, bne_iff_ne, ne_eq, beq_eq_false_iff_ne] at h38
                refine c_skip ?_
                refine c_seq ?_
                refine c_region ?_
                refine o_T (y_move rfl) rfl ?_
                refine o_make 2 2 sz_51 rfl rfl (by omega) (by omega) (by omega) (by omega) (by omega) rfl (fun b_1 => ?_)
                refine o_L (y_assign rfl) rfl rfl ?_
                refine o_nil0 rfl ?_
                refine c_seq ?_
                refine c_seq ?_
                refine c_row (g' := [(b_1, .cells #[.slice none 0 0, .slice none 0 0] 81 (0, 0))]) q0 (by rw [made2]) ?_
                refine c_region ?_
                refine o_L (y_assign rfl) rfl rfl ?_
                refine o_nil0 rfl ?_
                refine c_block ?_
                refine c_unroll 2 ?_
                refine l_one ?_
                refine c_seq ?_
                refine c_seq ?_
                refine c_region ?_
                refine o_T (y_move rfl) rfl ?_
                refine o_T (y_move rfl) rfl ?_
                refine o_T (y_sub rfl rfl (w64 (by omega))) rfl ?_
                refine o_T (y_lss rfl rfl) rfl ?_
                refine o_nil1 47 rfl rfl ?_
                refine c_cond rfl (fun h42 => ?_) (fun h42 => ?_)
                · try simp only [decide_eq_true_eq, decide_eq_false_iff_not, Bool.not_eq_true', Bool.not_eq_false', Int.not_lt, Int.not_le, Decidable.not_not, beq_iff_eq, bne_iff_ne, ne_eq, beq_eq_false_iff_ne] at h42
                  refine c_skip ?_
                  refine c_seq ?_
                  refine c_block ?_
                  refine c_seq ?_
                  refine c_region ?_
                  refine o_T (y_move rfl) rfl ?_
                  refine o_T (y_mul rfl rfl (w64 (by omega))) rfl ?_
                  refine o_L (y_assign rfl) rfl rfl ?_
                  refine o_nil0 rfl ?_
                  refine c_draw #[true, true, true, true, true, true, true, true, true, true, true, true, true, true, true, true, true, true, true, false, true, false] rfl (n := 22) rfl ?_
                  refine d_T 0 rfl (by kernel_rfl) rfl (y_move rfl) rfl ?_
                  refine d_T 1 rfl (by kernel_rfl) rfl (y_move rfl) rfl ?_
                  refine d_T 2 rfl (by kernel_rfl) rfl (y_move rfl) rfl ?_
                  refine d_T 3 rfl (by kernel_rfl) rfl (y_move rfl) rfl ?_
                  refine d_T 4 rfl (by kernel_rfl) rfl (y_nilck rfl) rfl ?_
                  refine d_T 5 rfl (by kernel_rfl) rfl (y_fa fl_153_0 rfl) rfl ?_
                  refine d_ld 6 rfl (by kernel_rfl) one_3 rfl (fun x hx => hx) (ms m0) Ipt.g0 rfl ?_
                  refine d_T 7 rfl (by kernel_rfl) rfl (y_move rfl) rfl ?_
                  refine d_T 8 rfl (by kernel_rfl) rfl (y_move rfl) rfl ?_
                  refine d_T 9 rfl (by kernel_rfl) rfl (y_nilck rfl) rfl ?_
                  refine d_T 10 rfl (by kernel_rfl) rfl (y_fa fl_153_1 rfl) rfl ?_
                  refine d_ld 11 rfl (by kernel_rfl) one_3 rfl (fun x hx => hx) (ms m0) Ipt.g1 rfl ?_
                  refine d_T 12 rfl (by kernel_rfl) rfl (y_move rfl) rfl ?_
                  refine d_T 13 rfl (by kernel_rfl) rfl (y_or rfl rfl (show bOr .i64 (0 * 16) 128 = 128 by decide)) rfl ?_
                  refine d_T 14 rfl (by kernel_rfl) rfl (y_move rfl) rfl ?_
                  refine d_T 15 rfl (by kernel_rfl) rfl (y_move rfl) rfl ?_
                  refine d_T 16 rfl (by kernel_rfl) rfl (y_move rfl) rfl ?_
                  refine d_T 17 rfl (by kernel_rfl) rfl (y_add rfl rfl (w64 (by omega))) rfl ?_
                  refine d_T 18 rfl (by kernel_rfl) rfl (y_sls sl_81 rfl (bS (i := 0) rfl (by omega)) (bS (i := 16) rfl (by omega)) (by omega) (by omega)) rfl ?_
                  refine d_hard 19 rfl (by kernel_rfl) ?_
                  refine o_call en_199 rfl (t199 _ _ _ _ _ _ _ _ _ _ _ _ (by omega) (by omega) (by omega) (by omega) (by omega) (by omega) (hy.sub 0 16 (by omega) (by omega))) (s_skip (s_skip (s_take s_nil))) rfl ?_
                  rintro v S' ⟨b_2, rfl, rfl⟩
                  refine o_stop (fun h => nomatch h) ?_
                  refine d_T 20 rfl (by kernel_rfl) rfl (y_is sl_51 rfl rfl (by omega) (by omega)) rfl ?_
                  refine d_hard 21 rfl (by kernel_rfl) ?_
                  refine o_st one_81 rfl rfl rfl (rs (rs r0)) rfl (of_blt rfl) ?_
                  refine o_stop (fun h => nomatch h) ?_
                  refine d_nil0 (by kernel_rfl) rfl ?_
                  refine c_region ?_
                  refine o_T (y_move rfl) rfl ?_
                  refine o_T (y_add rfl rfl (w64 (by omega))) rfl ?_
                  refine o_L (y_assign rfl) rfl rfl ?_
                  refine o_nil0 rfl ?_
                  refine l_rm 47 ?_
                  refine l_one ?_
                  refine c_seq ?_
                  refine c_seq ?_
                  refine c_region ?_
                  refine o_T (y_move rfl) rfl ?_
                  refine o_T (y_move rfl) rfl ?_
                  refine o_T (y_sub rfl rfl (w64 (by omega))) rfl ?_
                  refine o_T (y_lss rfl rfl) rfl ?_
                  refine o_nil1 47 rfl rfl ?_
                  refine c_cond rfl (fun h42_1 => ?_) (fun h42_1 => ?_)
                  · try simp only [decide_eq_true_eq, decide_eq_false_iff_not, Bool.not_eq_true', Bool.not_eq_false', Int.not_lt, Int.not_le, Decidable.not_not, beq_iff_eq, bne_iff_ne, ne_eq, beq_eq_false_iff_ne] at h42_1
                    exact absurd h42_1 (by decide)
                  · try simp only [decide_eq_true_eq, decide_eq_false_iff_not, Bool.not_eq_true', Bool.not_eq_false', Int.not_lt, Int.not_le, Decidable.not_not, beq_iff_eq, bne_iff_ne, ne_eq, beq_eq_false_iff_ne] at h42_1
                    refine c_exit ?_
                    refine c_seq ?_
                    refine c_region ?_
                    refine o_T (y_move rfl) rfl ?_
                    refine o_T (y_sub rfl rfl (w64 (by omega))) rfl ?_
                    refine o_T (y_mul rfl rfl (w64 (by omega))) rfl ?_
                    refine o_L (y_assign rfl) rfl rfl ?_
                    refine o_nil0 rfl ?_
                    refine c_seq ?_
                    refine c_draw #[true, true, true, true, true, true, true, true, true, true, true, true, true, true, true, true, true, false, true, false] rfl (n := 20) rfl ?_
                    refine d_T 0 rfl (by kernel_rfl) rfl (y_move rfl) rfl ?_
                    refine d_T 1 rfl (by kernel_rfl) rfl (y_move rfl) rfl ?_
                    refine d_T 2 rfl (by kernel_rfl) rfl (y_sub rfl rfl (w64 (by omega))) rfl ?_
                    refine d_T 3 rfl (by kernel_rfl) rfl (y_move rfl) rfl ?_
                    refine d_T 4 rfl (by kernel_rfl) rfl (y_move rfl) rfl ?_
                    refine d_T 5 rfl (by kernel_rfl) rfl (y_nilck rfl) rfl ?_
                    refine d_T 6 rfl (by kernel_rfl) rfl (y_fa fl_153_0 rfl) rfl ?_
                    refine d_ld 7 rfl (by kernel_rfl) one_3 rfl (fun x hx => hx) (ms (ms (ms m0))) Ipt.g0 rfl ?_
                    refine d_T 8 rfl (by kernel_rfl) rfl (y_move rfl) rfl ?_
                    refine d_T 9 rfl (by kernel_rfl) rfl (y_move rfl) rfl ?_
                    refine d_T 10 rfl (by kernel_rfl) rfl (y_nilck rfl) rfl ?_
                    refine d_T 11 rfl (by kernel_rfl) rfl (y_fa fl_153_1 rfl) rfl ?_
                    refine d_ld 12 rfl (by kernel_rfl) one_3 rfl (fun x hx => hx) (ms (ms (ms m0))) Ipt.g1 rfl ?_
                    refine d_T 13 rfl (by kernel_rfl) rfl (y_move rfl) rfl ?_
                    refine d_T 14 rfl (by kernel_rfl) rfl (y_move rfl) rfl ?_
                    refine d_T 15 rfl (by kernel_rfl) rfl (y_move rfl) rfl ?_
                    refine d_T 16 rfl (by kernel_rfl) rfl (y_sls sl_81 rfl (bS (i := 16) rfl (by omega)) bN (by omega) (by omega)) rfl ?_
                    refine d_hard 17 rfl (by kernel_rfl) ?_
                    refine o_call en_199 rfl (t199 _ _ _ _ _ _ _ _ _ _ _ _ (by omega) (by omega) (by omega) (by omega) (by omega) (by omega) (hy.sub 16 _ (by omega) (by omega))) (s_skip (s_take s_nil)) rfl ?_
                    rintro v S' ⟨b_3, rfl, rfl⟩
                    refine o_stop (fun h => nomatch h) ?_
                    refine d_T 18 rfl (by kernel_rfl) rfl (y_is sl_51 rfl rfl (by omega) (by omega)) rfl ?_
                    refine d_hard 19 rfl (by kernel_rfl) ?_
                    refine o_st one_81 rfl rfl rfl (rs (rs (rs r0))) rfl (of_blt rfl) ?_
                    refine o_stop (fun h => nomatch h) ?_
                    refine d_nil0 (by kernel_rfl) rfl ?_
                    refine c_seq ?_
                    refine c_region ?_
                    refine o_T (y_move rfl) rfl ?_
                    refine o_T (y_nilck rfl) rfl ?_
                    refine o_T (y_fa fl_153_1 rfl) rfl ?_
                    refine o_ld one_3 rfl (ms (ms (ms (ms m0)))) Ipt.g1 rfl ?_
                    refine o_T (y_add rfl rfl (w64 (by omega))) rfl ?_
                    refine o_T (y_nilck rfl) rfl ?_
                    refine o_T (y_fa fl_153_1 rfl) rfl ?_
                    refine o_st one_3 rfl rfl rfl (rs (rs (rs (rs r0)))) Ipt.s1 (of_blt rfl) ?_
                    refine o_nil0 rfl ?_
                    refine c_seq ?_
                    refine c_seq ?_
                    refine c_region ?_
                    refine o_T (y_move rfl) rfl ?_
                    refine o_T (y_nilck rfl) rfl ?_
                    refine o_T (y_fa fl_153_1 rfl) rfl ?_
                    refine o_ld one_3 rfl (ms (ms (ms (ms m0)))) Ipt.g1 rfl ?_
                    refine o_T (y_eql rfl rfl) rfl ?_
                    refine o_nil1 106 rfl rfl ?_
                    refine c_cond rfl (fun h49 => ?_) (fun h49 => ?_)
                    · try simp only [decide_eq_true_eq, decide_eq_false_iff_not, Bool.not_eq_true', Bool.not_eq_false', Int.not_lt, Int.not_le, Decidable.not_not, beq_iff_eq, bne_iff_ne, ne_eq, beq_eq_false_iff_ne] at h49
                      refine c_region ?_
                      refine o_T (y_move rfl) rfl ?_
                      refine o_T (y_nilck rfl) rfl ?_
                      refine o_T (y_fa fl_153_1 rfl) rfl ?_
                      refine o_st one_3 rfl rfl rfl (rs (rs (rs (rs r0)))) Ipt.s1 (of_blt rfl) ?_
                      refine o_nil0 rfl ?_
                      refine c_seq ?_
                      refine c_region ?_
                      refine o_T (y_move rfl) rfl ?_
                      refine o_T (y_nilck rfl) rfl ?_
                      refine o_T (y_fa fl_153_2 rfl) rfl ?_
                      refine o_ld one_3 rfl (ms (ms (ms (ms m0)))) Ipt.g2 rfl ?_
                      refine o_T (y_sub rfl rfl (w64 (by omega))) rfl ?_
                      refine o_T (y_nilck rfl) rfl ?_
                      refine o_T (y_fa fl_153_2 rfl) rfl ?_
                      refine o_st one_3 rfl rfl rfl (rs (rs (rs (rs r0)))) Ipt.s2 (of_blt rfl) ?_
                      refine o_nil0 rfl ?_
                      refine c_seq ?_
                      refine c_front (s_get (ks (ks k0)) (s_get k0 (s_get k0 (s_get k0 (s_get k0 s_nil))))) ?_
                      refine c_merge ?_
                      refine c_region ?_
                      refine o_T (y_move rfl) rfl ?_
                      refine o_L (y_assign rfl) rfl rfl ?_
                      refine o_L (y_assign rfl) rfl rfl ?_
                      refine o_nil0 rfl ?_
                      refine c_ret ?_
                      refine fun aX wX heX hsX => ret2 Tryz.results163 heX rfl rfl (s_get (ks (ks k0)) (s_get k0 (s_get (ks k0) (s_get k0 s_nil)))) ?_
                      have e2 : p.sent = { p with nxt_ := 0, credit := p.credit - 1 } := by unfold Ipt.sent; rw [if_pos h49]
                      rw [e2]
                      have e1 : p.out dst 6 l = [ipPkt 6 p.addr dst p.nxt_ 128 ((l.drop 0).take (16 - 0)), ipPkt 6 p.addr dst p.nxt_ ((2 - 1) * 16) ((l.drop 16).take (n - 16))] := by unfold Ipt.out; rw [if_neg (by omega), List.drop_zero, List.take_of_length_le (l := l.drop 16) (by simp only [List.length_drop]; omega)]; rfl
                      rw [e1]
                      exact .inr ⟨by omega, _, _, _, rfl, lst_two (ipPkt_b (by omega) (by omega) (by omega) (by omega) (by omega) (by simp only [List.length_take, List.length_drop]; omega) ((hb.drop _).take _)) (by rw [ipPkt_len]; simp only [List.length_take, List.length_drop]; omega) (ipPkt_b (by omega) (by omega) (by omega) (by omega) (by omega) (by simp only [List.length_take, List.length_drop]; omega) ((hb.drop _).take _)) (by rw [ipPkt_len]; simp only [List.length_take, List.length_drop]; omega), rfl⟩
                    · try simp only [decide_eq_true_eq, decide_eq_false_iff_not, Bool.not_eq_true', Bool.not_eq_false', Int.not_lt, Int.not_le, Decidable.not_not, beq_iff_eq, bne_iff_ne, ne_eq, beq_eq_false_iff_ne] at h49
                      refine c_skip ?_
                      refine c_seq ?_
                      refine c_region ?_
                      refine o_T (y_move rfl) rfl ?_
                      refine o_T (y_nilck rfl) rfl ?_
                      refine o_T (y_fa fl_153_2 rfl) rfl ?_
                      refine o_ld one_3 rfl (ms (ms (ms (ms m0)))) Ipt.g2 rfl ?_
                      refine o_T (y_sub rfl rfl (w64 (by omega))) rfl ?_
                      refine o_T (y_nilck rfl) rfl ?_
                      refine o_T (y_fa fl_153_2 rfl) rfl ?_
                      refine o_st one_3 rfl rfl rfl (rs (rs (rs (rs r0)))) Ipt.s2 (of_blt rfl) ?_
                      refine o_nil0 rfl ?_
                      refine c_seq ?_
                      refine c_front (s_get (ks (ks k0)) (s_get k0 (s_get k0 (s_get k0 (s_get k0 s_nil))))) ?_
                      refine c_merge ?_
                      refine c_region ?_
                      refine o_T (y_move rfl) rfl ?_
                      refine o_L (y_assign rfl) rfl rfl ?_
                      refine o_L (y_assign rfl) rfl rfl ?_
                      refine o_nil0 rfl ?_
                      refine c_ret ?_
                      refine fun aX wX heX hsX => ret2 Tryz.results163 heX rfl rfl (s_get (ks (ks k0)) (s_get k0 (s_get (ks k0) (s_get k0 s_nil)))) ?_
                      have e2 : p.sent = { p with nxt_ := p.nxt_ + 1, credit := p.credit - 1 } := by unfold Ipt.sent; rw [if_neg h49]
                      rw [e2]
                      have e1 : p.out dst 6 l = [ipPkt 6 p.addr dst p.nxt_ 128 ((l.drop 0).take (16 - 0)), ipPkt 6 p.addr dst p.nxt_ ((2 - 1) * 16) ((l.drop 16).take (n - 16))] := by unfold Ipt.out; rw [if_neg (by omega), List.drop_zero, List.take_of_length_le (l := l.drop 16) (by simp only [List.length_drop]; omega)]; rfl
                      rw [e1]
                      exact .inr ⟨by omega, _, _, _, rfl, lst_two (ipPkt_b (by omega) (by omega) (by omega) (by omega) (by omega) (by simp only [List.length_take, List.length_drop]; omega) ((hb.drop _).take _)) (by rw [ipPkt_len]; simp only [List.length_take, List.length_drop]; omega) (ipPkt_b (by omega) (by omega) (by omega) (by omega) (by omega) (by simp only [List.length_take, List.length_drop]; omega) ((hb.drop _).take _)) (by rw [ipPkt_len]; simp only [List.length_take, List.length_drop]; omega), rfl⟩
                · try simp only [decide_eq_true_eq, decide_eq_false_iff_not, Bool.not_eq_true', Bool.not_eq_false', Int.not_lt, Int.not_le, Decidable.not_not, beq_iff_eq, bne_iff_ne, ne_eq, beq_eq_false_iff_ne] at h42
                  exact absurd h42 (by decide)

end Go.Proofs.Qxb6500351aGreat
