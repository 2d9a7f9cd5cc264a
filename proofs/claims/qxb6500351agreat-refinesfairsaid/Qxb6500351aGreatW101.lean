/- MADE BY PROGRAM (tools/gen.py over tools/specs351.py): walks. -/
import Derived.Test.Qxb6500351aGreatFacts
import Derived.Test.Qxb6500351aGreatMd33
import Derived.Test.Qxb6500351aGreatW66
set_option linter.unusedVariables false
set_option linter.unusedSimpArgs false
namespace Go.Proofs.Qxb6500351aGreat
open Go.Eng
set_option maxRecDepth 20000
set_option maxHeartbeats 4000000
/-- (*e2e/hostm.Net).Settled -/
theorem t17 (b : Nat) (v : Value) (l : List Ned) (gv gd : List Chunk) (dl : Nat → Int) (hn : LstN 83 16 edR v l gv gd) (hp : ∀ x ∈ l, x.peer < l.length) (hs : ∀ x ∈ l, x.sent.length ≤ 1000000000000 ∧ x.rcvd.length ≤ 1000000000000) : Trip Tryz.prog 17 #[.pointer (some ⟨b, 0, none⟩)] [[(b, .cells (Nt.mk v dl).enc 80 (0, 0))], gv] (fun u S' => u = .bool (nSettledB l) ∧ S' = [[(b, .cells (Nt.mk v dl).enc 80 (0, 0))], gv]) := by
  have hln := lstN_bnd hn
  obtain ⟨pw, cw, hvw⟩ := hn.slice
  subst hvw
  refine fn_entry (args := [.pointer (some ⟨b, 0, none⟩)]) Tryz.func17 rfl Tryz.ntmps17 rfl (fun w0 => ?_)
  refine c_seq ?_
  refine c_region ?_
  refine o_L (y_assign rfl) rfl rfl ?_
  refine o_nil0 rfl ?_
  refine c_seq ?_
  refine c_seq ?_
  refine c_region ?_
  refine o_L (y_assign rfl) rfl rfl ?_
  refine o_nil0 rfl ?_
  refine c_block ?_
  refine c_loopG (ι := Nat) (fun i => [(3, .int .i64 (i : Int))]) (fun i => []) (fun i => i ≤ l.length ∧ ∀ j, j < i → setOne l j = true) (fun i => l.length - i) 0 (by exact ⟨by omega, by intro j hj; omega⟩) ⟨by first | rfl | exact gteI rfl (by omega), trivial⟩ (s_take (s_take s_nil)) ?_
  rintro k ⟨g3, g4⟩
  try dsimp only [List.cons_append, List.nil_append] at *
  refine c_seq ?_
  refine c_seq ?_
  refine c_region ?_
  refine o_T (y_move rfl) rfl ?_
  refine o_T (y_move rfl) rfl ?_
  refine o_T (y_nilck rfl) rfl ?_
  refine o_T (y_fa fl_80_0 rfl) rfl ?_
  refine o_ld one_78 rfl m0 Nt.g0 rfl ?_
  refine o_T (y_len Tryz.underlying78 rfl) rfl ?_
  refine o_T (y_lss rfl rfl) rfl ?_
  refine o_nil1 12 rfl rfl ?_
  refine c_cond rfl (fun h201 => ?_) (fun h201 => ?_)
  · try simp only [decide_eq_true_eq, decide_eq_false_iff_not, Bool.not_eq_true', Bool.not_eq_false', Int.not_lt, Int.not_le, Decidable.not_not, beq_iff_eq, bne_iff_ne, ne_eq, beq_eq_false_iff_ne] at h201
    refine c_skip ?_
    refine c_seq ?_
    refine c_block ?_
    refine c_seq ?_
    refine c_seq ?_
    obtain ⟨bw, cpw, cur, hv2, hg2, hO⟩ := (hn.lst (by omega)).open
    injection hv2 with e1 e2 e3
    subst e1 e3 hg2
    refine c_region ?_
    refine o_T (y_move rfl) rfl ?_
    refine o_T (y_nilck rfl) rfl ?_
    refine o_T (y_fa fl_80_0 rfl) rfl ?_
    refine o_ld one_78 rfl m0 Nt.g0 rfl ?_
    refine o_T (y_move rfl) rfl ?_
    refine o_T (y_is sl_78 rfl rfl (by omega) (by omega)) rfl ?_
    refine o_T (y_fa fl_83_10 rfl) rfl ?_
    refine o_ld one_3 rfl (ms m0) (Ed.l_state hO k (by omega) (by omega)) rfl ?_
    refine o_T (y_eql rfl rfl) rfl ?_
    refine o_T (y_move rfl) rfl ?_
    refine o_split 24 rfl (fun h202 => ?_) (fun h202 => ?_)
    · try simp only [decide_eq_true_eq, decide_eq_false_iff_not, Bool.not_eq_true', Bool.not_eq_false', Int.not_lt, Int.not_le, Decidable.not_not, beq_iff_eq, bne_iff_ne, ne_eq, beq_eq_false_iff_ne] at h202
      refine o_pass rfl rfl rfl rfl rfl ?_
      refine o_pass rfl rfl rfl rfl rfl ?_
      refine o_pass rfl rfl rfl rfl rfl ?_
      refine o_pass rfl rfl rfl rfl rfl ?_
      refine o_pass rfl rfl rfl rfl rfl ?_
      refine o_pass rfl rfl rfl rfl rfl ?_
      refine o_pass rfl rfl rfl rfl rfl ?_
      refine o_pass rfl rfl rfl rfl rfl ?_
      refine o_pass rfl rfl rfl rfl rfl ?_
      refine o_T (y_pickT rfl rfl) rfl ?_
      refine o_nil1 34 rfl rfl ?_
      refine c_condT rfl ?_
      refine c_seq ?_
      refine c_region ?_
      refine o_L (y_assign rfl) rfl rfl ?_
      refine o_nil0 rfl ?_
      refine c_ret ?_
      refine fun aX wX heX hsX => ret1 Tryz.results17 heX rfl (s_take (s_take s_nil)) ?_
      exact ⟨congrArg Value.bool (nSettledB_no (k := k) (by omega) (setOne_op (by omega) (by first | exact .inl (by assumption) | exact .inr (by assumption)))).symm, rfl⟩
    · try simp only [decide_eq_true_eq, decide_eq_false_iff_not, Bool.not_eq_true', Bool.not_eq_false', Int.not_lt, Int.not_le, Decidable.not_not, beq_iff_eq, bne_iff_ne, ne_eq, beq_eq_false_iff_ne] at h202
      refine o_take rfl rfl rfl ?_
      refine o_T (y_move rfl) rfl ?_
      refine o_take rfl rfl rfl ?_
      refine o_T (y_nilck rfl) rfl ?_
      refine o_take rfl rfl rfl ?_
      refine o_T (y_fa fl_80_0 rfl) rfl ?_
      refine o_take rfl rfl rfl ?_
      refine o_ld one_78 rfl m0 Nt.g0 rfl ?_
      refine o_take rfl rfl rfl ?_
      refine o_T (y_move rfl) rfl ?_
      refine o_take rfl rfl rfl ?_
      refine o_T (y_is sl_78 rfl rfl (by omega) (by omega)) rfl ?_
      refine o_take rfl rfl rfl ?_
      refine o_T (y_fa fl_83_10 rfl) rfl ?_
      refine o_take rfl rfl rfl ?_
      refine o_ld one_3 rfl (ms m0) (Ed.l_state hO k (by omega) (by omega)) rfl ?_
      refine o_take rfl rfl rfl ?_
      refine o_T (y_eql rfl rfl) rfl ?_
      refine o_T (y_pickF rfl rfl) rfl ?_
      refine o_nil1 34 rfl rfl ?_
      refine c_cond rfl (fun h202_1 => ?_) (fun h202_1 => ?_)
      · try simp only [decide_eq_true_eq, decide_eq_false_iff_not, Bool.not_eq_true', Bool.not_eq_false', Int.not_lt, Int.not_le, Decidable.not_not, beq_iff_eq, bne_iff_ne, ne_eq, beq_eq_false_iff_ne] at h202_1
        refine c_seq ?_
        refine c_region ?_
        refine o_L (y_assign rfl) rfl rfl ?_
        refine o_nil0 rfl ?_
        refine c_ret ?_
        refine fun aX wX heX hsX => ret1 Tryz.results17 heX rfl (s_take (s_take s_nil)) ?_
        exact ⟨congrArg Value.bool (nSettledB_no (k := k) (by omega) (setOne_op (by omega) (by first | exact .inl (by assumption) | exact .inr (by assumption)))).symm, rfl⟩
      · try simp only [decide_eq_true_eq, decide_eq_false_iff_not, Bool.not_eq_true', Bool.not_eq_false', Int.not_lt, Int.not_le, Decidable.not_not, beq_iff_eq, bne_iff_ne, ne_eq, beq_eq_false_iff_ne] at h202_1
        refine c_skip ?_
        refine c_seq ?_
        refine c_region ?_
        refine o_T (y_move rfl) rfl ?_
        refine o_T (y_nilck rfl) rfl ?_
        refine o_T (y_fa fl_80_0 rfl) rfl ?_
        refine o_ld one_78 rfl m0 Nt.g0 rfl ?_
        refine o_T (y_move rfl) rfl ?_
        refine o_T (y_is sl_78 rfl rfl (by omega) (by omega)) rfl ?_
        refine o_T (y_fa fl_83_6 rfl) rfl ?_
        refine o_ld one_3 rfl (ms m0) (Ed.l_peer hO k (by omega) (by omega)) rfl ?_
        refine o_L (y_assign rfl) rfl rfl ?_
        refine o_nil0 rfl ?_
        refine c_seq ?_
        refine c_seq ?_
        refine c_region ?_
        refine o_T (y_move rfl) rfl ?_
        refine o_T (y_lss rfl rfl) rfl ?_
        refine o_T (y_move rfl) rfl ?_
        refine o_split 45 rfl (fun h206 => ?_) (fun h206 => ?_)
        · try simp only [decide_eq_true_eq, decide_eq_false_iff_not, Bool.not_eq_true', Bool.not_eq_false', Int.not_lt, Int.not_le, Decidable.not_not, beq_iff_eq, bne_iff_ne, ne_eq, beq_eq_false_iff_ne] at h206
          refine o_pass rfl rfl rfl rfl rfl ?_
          refine o_pass rfl rfl rfl rfl rfl ?_
          refine o_pass rfl rfl rfl rfl rfl ?_
          refine o_T (y_pickT rfl rfl) rfl ?_
          refine o_nil1 49 rfl rfl ?_
          refine c_condT rfl ?_
          refine c_exit ?_
          refine c_region ?_
          refine o_T (y_move rfl) rfl ?_
          refine o_T (y_add rfl rfl (w64 (by omega))) rfl ?_
          refine o_L (y_assign rfl) rfl rfl ?_
          refine o_nil0 rfl ?_
          refine ⟨(k + 1), ⟨⟨by omega, set_step g4 (setOne_skip (by omega) (by omega) (by first | exact .inl (by assumption) | exact .inr (by assumption)))⟩, by first | omega | (dsimp only; omega)⟩, ⟨by first | rfl | exact gteI rfl (by omega), trivial⟩, ⟨rfl, rfl⟩, _, ((s_take (s_take s_nil)))⟩
        · try simp only [decide_eq_true_eq, decide_eq_false_iff_not, Bool.not_eq_true', Bool.not_eq_false', Int.not_lt, Int.not_le, Decidable.not_not, beq_iff_eq, bne_iff_ne, ne_eq, beq_eq_false_iff_ne] at h206
          refine o_take rfl rfl rfl ?_
          refine o_T (y_move rfl) rfl ?_
          refine o_take rfl rfl rfl ?_
          refine o_T (y_move rfl) rfl ?_
          refine o_take rfl rfl rfl ?_
          refine o_callrv en_54 rfl (t54 _ _ _ _ _ _ _ (by assumption) (by omega)) (s_take (s_take s_nil)) rfl ?_
          refine o_T (y_pickF rfl rfl) rfl ?_
          refine o_nil1 49 rfl rfl ?_
          refine c_cond rfl (fun h206_1 => ?_) (fun h206_1 => ?_)
          · try simp only [decide_eq_true_eq, decide_eq_false_iff_not, Bool.not_eq_true', Bool.not_eq_false', Int.not_lt, Int.not_le, Decidable.not_not, beq_iff_eq, bne_iff_ne, ne_eq, beq_eq_false_iff_ne] at h206_1
            refine c_exit ?_
            refine c_region ?_
            refine o_T (y_move rfl) rfl ?_
            refine o_T (y_add rfl rfl (w64 (by omega))) rfl ?_
            refine o_L (y_assign rfl) rfl rfl ?_
            refine o_nil0 rfl ?_
            refine ⟨(k + 1), ⟨⟨by omega, set_step g4 (setOne_skip (by omega) (by omega) (by first | exact .inl (by assumption) | exact .inr (by assumption)))⟩, by first | omega | (dsimp only; omega)⟩, ⟨by first | rfl | exact gteI rfl (by omega), trivial⟩, ⟨rfl, rfl⟩, _, ((s_take (s_take s_nil)))⟩
          · try simp only [decide_eq_true_eq, decide_eq_false_iff_not, Bool.not_eq_true', Bool.not_eq_false', Int.not_lt, Int.not_le, Decidable.not_not, beq_iff_eq, bne_iff_ne, ne_eq, beq_eq_false_iff_ne] at h206_1
            refine c_skip ?_
            refine c_seq ?_
            refine c_seq ?_
            obtain ⟨p, hpe⟩ : ∃ p : Nat, l[k].peer = (p : Int) := ⟨l[k].peer.toNat, by omega⟩
            rw [hpe]
            have hpl : p < l.length := by have := hp l[k] (List.getElem_mem (by omega)); omega
            refine c_region ?_
            refine o_T (y_move rfl) rfl ?_
            refine o_T (y_nilck rfl) rfl ?_
            refine o_T (y_fa fl_80_0 rfl) rfl ?_
            refine o_ld one_78 rfl m0 Nt.g0 rfl ?_
            refine o_T (y_move rfl) rfl ?_
            refine o_T (y_is sl_78 rfl rfl (by omega) (by omega)) rfl ?_
            refine o_T (y_fa fl_83_6 rfl) rfl ?_
            refine o_ld one_3 rfl (ms m0) (Ed.l_peer hO p (by omega) (by omega)) rfl ?_
            refine o_T (y_move rfl) rfl ?_
            refine o_T (y_neq rfl rfl) rfl ?_
            refine o_nil1 59 rfl rfl ?_
            refine c_cond rfl (fun h209 => ?_) (fun h209 => ?_)
            · try simp only [decide_eq_true_eq, decide_eq_false_iff_not, Bool.not_eq_true', Bool.not_eq_false', Int.not_lt, Int.not_le, Decidable.not_not, beq_iff_eq, bne_iff_ne, ne_eq, beq_eq_false_iff_ne] at h209
              refine c_exit ?_
              refine c_region ?_
              refine o_T (y_move rfl) rfl ?_
              refine o_T (y_add rfl rfl (w64 (by omega))) rfl ?_
              refine o_L (y_assign rfl) rfl rfl ?_
              refine o_nil0 rfl ?_
              refine ⟨(k + 1), ⟨⟨by omega, set_step g4 ((setOne_pair (p := p) (by omega) hpl (by omega) hpe (by rw [h206_1]; decide)).trans (by unfold setPair; exact if_pos h209))⟩, by first | omega | (dsimp only; omega)⟩, ⟨by first | rfl | exact gteI rfl (by omega), trivial⟩, ⟨rfl, rfl⟩, _, ((s_take (s_take s_nil)))⟩
            · try simp only [decide_eq_true_eq, decide_eq_false_iff_not, Bool.not_eq_true', Bool.not_eq_false', Int.not_lt, Int.not_le, Decidable.not_not, beq_iff_eq, bne_iff_ne, ne_eq, beq_eq_false_iff_ne] at h209
              refine c_skip ?_
              refine c_seq ?_
              refine c_seq ?_
              refine c_region ?_
              refine o_T (y_move rfl) rfl ?_
              refine o_T (y_move rfl) rfl ?_
              refine o_callrv en_54 rfl (t54 _ _ _ _ _ _ _ (by assumption) (by omega)) (s_take (s_take s_nil)) rfl ?_
              refine o_nil1 62 rfl rfl ?_
              refine c_cond rfl (fun h212 => ?_) (fun h212 => ?_)
              · try simp only [decide_eq_true_eq, decide_eq_false_iff_not, Bool.not_eq_true', Bool.not_eq_false', Int.not_lt, Int.not_le, Decidable.not_not, beq_iff_eq, bne_iff_ne, ne_eq, beq_eq_false_iff_ne] at h212
                refine c_exit ?_
                refine c_region ?_
                refine o_T (y_move rfl) rfl ?_
                refine o_T (y_add rfl rfl (w64 (by omega))) rfl ?_
                refine o_L (y_assign rfl) rfl rfl ?_
                refine o_nil0 rfl ?_
                refine ⟨(k + 1), ⟨⟨by omega, set_step g4 ((setOne_pair (p := p) (by omega) hpl (by omega) hpe (by rw [h206_1]; decide)).trans (by unfold setPair; rw [if_neg (not_not_intro h209)]; exact if_pos h212))⟩, by first | omega | (dsimp only; omega)⟩, ⟨by first | rfl | exact gteI rfl (by omega), trivial⟩, ⟨rfl, rfl⟩, _, ((s_take (s_take s_nil)))⟩
              · try simp only [decide_eq_true_eq, decide_eq_false_iff_not, Bool.not_eq_true', Bool.not_eq_false', Int.not_lt, Int.not_le, Decidable.not_not, beq_iff_eq, bne_iff_ne, ne_eq, beq_eq_false_iff_ne] at h212
                refine c_skip ?_
                refine c_seq ?_
                obtain ⟨phs, chs, hvs⟩ := Ed.v_sent hO p (by omega)
                obtain ⟨phr, chr, hvr⟩ := Ed.v_rcvd hO k (by omega)
                obtain ⟨hs1, hs2⟩ := hs l[k] (List.getElem_mem (by omega))
                obtain ⟨hs3, hs4⟩ := hs l[p] (List.getElem_mem (by omega))
                refine c_region ?_
                refine o_T (y_move rfl) rfl ?_
                refine o_T (y_nilck rfl) rfl ?_
                refine o_T (y_fa fl_80_0 rfl) rfl ?_
                refine o_ld one_78 rfl m0 Nt.g0 rfl ?_
                refine o_T (y_move rfl) rfl ?_
                refine o_T (y_is sl_78 rfl rfl (by omega) (by omega)) rfl ?_
                refine o_T (y_fa fl_83_7 rfl) rfl ?_
                refine o_ld one_81 rfl (ms m0) (hvs _ (by omega)) rfl ?_
                refine o_T (y_len Tryz.underlying81 rfl) rfl ?_
                refine o_L (y_assign rfl) rfl rfl ?_
                refine o_nil0 rfl ?_
                refine c_seq ?_
                refine c_seq ?_
                refine c_region ?_
                refine o_T (y_move rfl) rfl ?_
                refine o_T (y_move rfl) rfl ?_
                refine o_T (y_nilck rfl) rfl ?_
                refine o_T (y_fa fl_80_0 rfl) rfl ?_
                refine o_ld one_78 rfl m0 Nt.g0 rfl ?_
                refine o_T (y_move rfl) rfl ?_
                refine o_T (y_is sl_78 rfl rfl (by omega) (by omega)) rfl ?_
                refine o_T (y_fa fl_83_8 rfl) rfl ?_
                refine o_ld one_81 rfl (ms m0) (hvr _ (by omega)) rfl ?_
                refine o_T (y_len Tryz.underlying81 rfl) rfl ?_
                refine o_T (y_add rfl rfl (w64 (by omega))) rfl ?_
                refine o_T (y_gtr rfl rfl) rfl ?_
                refine o_nil1 83 rfl rfl ?_
                refine c_cond rfl (fun h216 => ?_) (fun h216 => ?_)
                · try simp only [decide_eq_true_eq, decide_eq_false_iff_not, Bool.not_eq_true', Bool.not_eq_false', Int.not_lt, Int.not_le, Decidable.not_not, beq_iff_eq, bne_iff_ne, ne_eq, beq_eq_false_iff_ne] at h216
                  refine c_region ?_
                  refine o_T (y_move rfl) rfl ?_
                  refine o_T (y_nilck rfl) rfl ?_
                  refine o_T (y_fa fl_80_0 rfl) rfl ?_
                  refine o_ld one_78 rfl m0 Nt.g0 rfl ?_
                  refine o_T (y_move rfl) rfl ?_
                  refine o_T (y_is sl_78 rfl rfl (by omega) (by omega)) rfl ?_
                  refine o_T (y_fa fl_83_8 rfl) rfl ?_
                  refine o_ld one_81 rfl (ms m0) (hvr _ (by omega)) rfl ?_
                  refine o_T (y_len Tryz.underlying81 rfl) rfl ?_
                  refine o_T (y_add rfl rfl (w64 (by omega))) rfl ?_
                  refine o_L (y_assign rfl) rfl rfl ?_
                  refine o_nil0 rfl ?_
                  refine c_seq ?_
                  refine c_seq ?_
                  refine c_region ?_
                  refine o_T (y_move rfl) rfl ?_
                  refine o_T (y_nilck rfl) rfl ?_
                  refine o_T (y_fa fl_80_0 rfl) rfl ?_
                  refine o_ld one_78 rfl m0 Nt.g0 rfl ?_
                  refine o_T (y_move rfl) rfl ?_
                  refine o_T (y_is sl_78 rfl rfl (by omega) (by omega)) rfl ?_
                  refine o_T (y_fa fl_83_9 rfl) rfl ?_
                  refine o_ld one_3 rfl (ms m0) (Ed.l_offered hO k (by omega) (by omega)) rfl ?_
                  refine o_T (y_move rfl) rfl ?_
                  refine o_T (y_lss rfl rfl) rfl ?_
                  refine o_nil1 103 rfl rfl ?_
                  refine c_cond rfl (fun h219 => ?_) (fun h219 => ?_)
                  · try simp only [decide_eq_true_eq, decide_eq_false_iff_not, Bool.not_eq_true', Bool.not_eq_false', Int.not_lt, Int.not_le, Decidable.not_not, beq_iff_eq, bne_iff_ne, ne_eq, beq_eq_false_iff_ne] at h219
                    refine c_seq ?_
                    refine c_region ?_
                    refine o_L (y_assign rfl) rfl rfl ?_
                    refine o_nil0 rfl ?_
                    refine c_ret ?_
                    refine fun aX wX heX hsX => ret1 Tryz.results17 heX rfl (s_take (s_take s_nil)) ?_
                    exact ⟨congrArg Value.bool (nSettledB_no (k := k) (by omega) ((setOne_pair (p := p) (by omega) hpl (by omega) hpe (by rw [h206_1]; decide)).trans (by unfold setPair; rw [if_neg (not_not_intro h209)]; rw [if_neg (by rw [h212]; decide)]; exact if_pos (by unfold setWant; split <;> omega)))).symm, rfl⟩
                  · try simp only [decide_eq_true_eq, decide_eq_false_iff_not, Bool.not_eq_true', Bool.not_eq_false', Int.not_lt, Int.not_le, Decidable.not_not, beq_iff_eq, bne_iff_ne, ne_eq, beq_eq_false_iff_ne] at h219
                    refine c_skip ?_
                    refine c_seq ?_
                    refine c_seq ?_
                    refine c_draw #[true, true, true, true, true, true, true, true, true, true, true, true, true, true, true, true, true, true, true, true, true, true, true, true, true, true, true, true, true, true, true, true, true, true, true, true, true, true, true] rfl (n := 39) rfl ?_
                    refine d_T 0 rfl (by kernel_rfl) rfl (y_move rfl) rfl ?_
                    refine d_T 1 rfl (by kernel_rfl) rfl (y_nilck rfl) rfl ?_
                    refine d_T 2 rfl (by kernel_rfl) rfl (y_fa fl_80_0 rfl) rfl ?_
                    refine d_ld 3 rfl (by kernel_rfl) one_78 rfl (fun x hx => hx) m0 Nt.g0 rfl ?_
                    refine d_T 4 rfl (by kernel_rfl) rfl (y_move rfl) rfl ?_
                    refine d_T 5 rfl (by kernel_rfl) rfl (y_is sl_78 rfl rfl (by omega) (by omega)) rfl ?_
                    refine d_T 6 rfl (by kernel_rfl) rfl (y_fa fl_83_12 rfl) rfl ?_
                    refine d_ld 7 rfl (by kernel_rfl) one_4 rfl (fun x hx => hx) (ms m0) (Ed.l_closed hO p (by omega) (by omega)) rfl ?_
                    refine d_T 8 rfl (by kernel_rfl) rfl (y_move rfl) rfl ?_
                    refine d_split 112 rfl (fun h222 => ?_) (fun h222 => ?_)
                    · try simp only [decide_eq_true_eq, decide_eq_false_iff_not, Bool.not_eq_true', Bool.not_eq_false', Int.not_lt, Int.not_le, Decidable.not_not, beq_iff_eq, bne_iff_ne, ne_eq, beq_eq_false_iff_ne] at h222
                      refine d_Tg 9 rfl rfl rfl rfl (by kernel_rfl) rfl (y_move rfl) rfl ?_
                      refine d_Tg 10 rfl rfl rfl rfl (by kernel_rfl) rfl (y_nilck rfl) rfl ?_
                      refine d_Tg 11 rfl rfl rfl rfl (by kernel_rfl) rfl (y_fa fl_80_0 rfl) rfl ?_
                      refine d_ldt 12 rfl rfl rfl rfl (by kernel_rfl) one_78 rfl (fun x hx => hx) m0 Nt.g0 rfl ?_
                      refine d_Tg 13 rfl rfl rfl rfl (by kernel_rfl) rfl (y_move rfl) rfl ?_
                      refine d_Tg 14 rfl rfl rfl rfl (by kernel_rfl) rfl (y_is sl_78 rfl rfl (by omega) (by omega)) rfl ?_
                      refine d_Tg 15 rfl rfl rfl rfl (by kernel_rfl) rfl (y_fa fl_83_9 rfl) rfl ?_
                      refine d_ldt 16 rfl rfl rfl rfl (by kernel_rfl) one_3 rfl (fun x hx => hx) (ms m0) (Ed.l_offered hO k (by omega) (by omega)) rfl ?_
                      refine d_Tg 17 rfl rfl rfl rfl (by kernel_rfl) rfl (y_move rfl) rfl ?_
                      refine d_Tg 18 rfl rfl rfl rfl (by kernel_rfl) rfl (y_nilck rfl) rfl ?_
                      refine d_Tg 19 rfl rfl rfl rfl (by kernel_rfl) rfl (y_fa fl_80_0 rfl) rfl ?_
                      refine d_ldt 20 rfl rfl rfl rfl (by kernel_rfl) one_78 rfl (fun x hx => hx) m0 Nt.g0 rfl ?_
                      refine d_Tg 21 rfl rfl rfl rfl (by kernel_rfl) rfl (y_move rfl) rfl ?_
                      refine d_Tg 22 rfl rfl rfl rfl (by kernel_rfl) rfl (y_is sl_78 rfl rfl (by omega) (by omega)) rfl ?_
                      refine d_Tg 23 rfl rfl rfl rfl (by kernel_rfl) rfl (y_fa fl_83_7 rfl) rfl ?_
                      refine d_ldt 24 rfl rfl rfl rfl (by kernel_rfl) one_81 rfl (fun x hx => hx) (ms m0) (hvs _ (by omega)) rfl ?_
                      refine d_Tg 25 rfl rfl rfl rfl (by kernel_rfl) rfl (y_len Tryz.underlying81 rfl) rfl ?_
                      refine d_Tg 26 rfl rfl rfl rfl (by kernel_rfl) rfl (y_eql rfl rfl) rfl ?_
                      refine d_T 27 rfl (by kernel_rfl) rfl (y_pickT rfl rfl) rfl ?_
                      refine d_T 28 rfl (by kernel_rfl) rfl (y_move rfl) rfl ?_
                      refine d_split 132 rfl (fun h222_1 => ?_) (fun h222_1 => ?_)
                      · try simp only [decide_eq_true_eq, decide_eq_false_iff_not, Bool.not_eq_true', Bool.not_eq_false', Int.not_lt, Int.not_le, Decidable.not_not, beq_iff_eq, bne_iff_ne, ne_eq, beq_eq_false_iff_ne] at h222_1
                        refine d_Tg 29 rfl rfl rfl rfl (by kernel_rfl) rfl (y_move rfl) rfl ?_
                        refine d_Tg 30 rfl rfl rfl rfl (by kernel_rfl) rfl (y_nilck rfl) rfl ?_
                        refine d_Tg 31 rfl rfl rfl rfl (by kernel_rfl) rfl (y_fa fl_80_0 rfl) rfl ?_
                        refine d_ldt 32 rfl rfl rfl rfl (by kernel_rfl) one_78 rfl (fun x hx => hx) m0 Nt.g0 rfl ?_
                        refine d_Tg 33 rfl rfl rfl rfl (by kernel_rfl) rfl (y_move rfl) rfl ?_
                        refine d_Tg 34 rfl rfl rfl rfl (by kernel_rfl) rfl (y_is sl_78 rfl rfl (by omega) (by omega)) rfl ?_
                        refine d_Tg 35 rfl rfl rfl rfl (by kernel_rfl) rfl (y_fa fl_83_13 rfl) rfl ?_
                        refine d_ldt 36 rfl rfl rfl rfl (by kernel_rfl) one_4 rfl (fun x hx => hx) (ms m0) (Ed.l_peerFin hO k (by omega) (by omega)) rfl ?_
                        refine d_Tg 37 rfl rfl rfl rfl (by kernel_rfl) rfl (y_not rfl) rfl ?_
                        refine d_T 38 rfl (by kernel_rfl) rfl (y_pickT rfl rfl) rfl ?_
                        refine d_nil1 142 (by kernel_rfl) rfl rfl ?_
                        refine c_cond rfl (fun h222_2 => ?_) (fun h222_2 => ?_)
                        · try simp only [decide_eq_true_eq, decide_eq_false_iff_not, Bool.not_eq_true', Bool.not_eq_false', Int.not_lt, Int.not_le, Decidable.not_not, beq_iff_eq, bne_iff_ne, ne_eq, beq_eq_false_iff_ne] at h222_2
                          refine c_seq ?_
                          refine c_region ?_
                          refine o_L (y_assign rfl) rfl rfl ?_
                          refine o_nil0 rfl ?_
                          refine c_ret ?_
                          refine fun aX wX heX hsX => ret1 Tryz.results17 heX rfl (s_take (s_take s_nil)) ?_
                          exact ⟨congrArg Value.bool (nSettledB_no (k := k) (by omega) ((setOne_pair (p := p) (by omega) hpl (by omega) hpe (by rw [h206_1]; decide)).trans (by unfold setPair; rw [if_neg (not_not_intro h209)]; rw [if_neg (by rw [h212]; decide)]; rw [if_neg (by unfold setWant; split <;> omega)]; exact if_pos ⟨h222, h222_1, h222_2⟩))).symm, rfl⟩
                        · try simp only [decide_eq_true_eq, decide_eq_false_iff_not, Bool.not_eq_true', Bool.not_eq_false', Int.not_lt, Int.not_le, Decidable.not_not, beq_iff_eq, bne_iff_ne, ne_eq, beq_eq_false_iff_ne] at h222_2
                          refine c_skip ?_
                          refine c_seq ?_
                          refine c_region ?_
                          refine o_T (y_move rfl) rfl ?_
                          refine o_T (y_nilck rfl) rfl ?_
                          refine o_T (y_fa fl_80_0 rfl) rfl ?_
                          refine o_ld one_78 rfl m0 Nt.g0 rfl ?_
                          refine o_T (y_move rfl) rfl ?_
                          refine o_T (y_is sl_78 rfl rfl (by omega) (by omega)) rfl ?_
                          refine o_T (y_fa fl_83_13 rfl) rfl ?_
                          refine o_ld one_4 rfl (ms m0) (Ed.l_peerFin hO k (by omega) (by omega)) rfl ?_
                          refine o_T (y_move rfl) rfl ?_
                          refine o_split 151 rfl (fun h225 => ?_) (fun h225 => ?_)
                          · try simp only [decide_eq_true_eq, decide_eq_false_iff_not, Bool.not_eq_true', Bool.not_eq_false', Int.not_lt, Int.not_le, Decidable.not_not, beq_iff_eq, bne_iff_ne, ne_eq, beq_eq_false_iff_ne] at h225
                            refine o_take rfl rfl rfl ?_
                            refine o_T (y_move rfl) rfl ?_
                            refine o_take rfl rfl rfl ?_
                            refine o_T (y_nilck rfl) rfl ?_
                            refine o_take rfl rfl rfl ?_
                            refine o_T (y_fa fl_80_0 rfl) rfl ?_
                            refine o_take rfl rfl rfl ?_
                            refine o_ld one_78 rfl m0 Nt.g0 rfl ?_
                            refine o_take rfl rfl rfl ?_
                            refine o_T (y_move rfl) rfl ?_
                            refine o_take rfl rfl rfl ?_
                            refine o_T (y_is sl_78 rfl rfl (by omega) (by omega)) rfl ?_
                            refine o_take rfl rfl rfl ?_
                            refine o_T (y_fa fl_83_13 rfl) rfl ?_
                            refine o_take rfl rfl rfl ?_
                            refine o_ld one_4 rfl (ms m0) (Ed.l_peerFin hO p (by omega) (by omega)) rfl ?_
                            refine o_T (y_pickT rfl rfl) rfl ?_
                            refine o_T (y_move rfl) rfl ?_
                            refine o_split 161 rfl (fun h225_1 => ?_) (fun h225_1 => ?_)
                            · try simp only [decide_eq_true_eq, decide_eq_false_iff_not, Bool.not_eq_true', Bool.not_eq_false', Int.not_lt, Int.not_le, Decidable.not_not, beq_iff_eq, bne_iff_ne, ne_eq, beq_eq_false_iff_ne] at h225_1
                              refine o_take rfl rfl rfl ?_
                              refine o_T (y_move rfl) rfl ?_
                              refine o_take rfl rfl rfl ?_
                              refine o_T (y_nilck rfl) rfl ?_
                              refine o_take rfl rfl rfl ?_
                              refine o_T (y_fa fl_80_0 rfl) rfl ?_
                              refine o_take rfl rfl rfl ?_
                              refine o_ld one_78 rfl m0 Nt.g0 rfl ?_
                              refine o_take rfl rfl rfl ?_
                              refine o_T (y_move rfl) rfl ?_
                              refine o_take rfl rfl rfl ?_
                              refine o_T (y_is sl_78 rfl rfl (by omega) (by omega)) rfl ?_
                              refine o_take rfl rfl rfl ?_
                              refine o_T (y_fa fl_83_10 rfl) rfl ?_
                              refine o_take rfl rfl rfl ?_
                              refine o_ld one_3 rfl (ms m0) (Ed.l_state hO k (by omega) (by omega)) rfl ?_
                              refine o_take rfl rfl rfl ?_
                              refine o_T (y_neq rfl rfl) rfl ?_
                              refine o_T (y_pickT rfl rfl) rfl ?_
                              refine o_nil1 171 rfl rfl ?_
                              refine c_cond rfl (fun h225_2 => ?_) (fun h225_2 => ?_)
                              · try simp only [decide_eq_true_eq, decide_eq_false_iff_not, Bool.not_eq_true', Bool.not_eq_false', Int.not_lt, Int.not_le, Decidable.not_not, beq_iff_eq, bne_iff_ne, ne_eq, beq_eq_false_iff_ne] at h225_2
                                refine c_seq ?_
                                refine c_region ?_
                                refine o_L (y_assign rfl) rfl rfl ?_
                                refine o_nil0 rfl ?_
                                refine c_ret ?_
                                refine fun aX wX heX hsX => ret1 Tryz.results17 heX rfl (s_take (s_take s_nil)) ?_
                                exact ⟨congrArg Value.bool (nSettledB_no (k := k) (by omega) ((setOne_pair (p := p) (by omega) hpl (by omega) hpe (by rw [h206_1]; decide)).trans (by unfold setPair; rw [if_neg (not_not_intro h209)]; rw [if_neg (by rw [h212]; decide)]; rw [if_neg (by unfold setWant; split <;> omega)]; rw [if_neg (by rintro ⟨a, b, c⟩; first | (rw [h222] at a; cases a; done) | (exact h222_1 b; done) | (rw [h222_2] at c; cases c; done))]; first | exact if_pos ⟨h225, h225_1, h225_2⟩ | exact if_neg (by rintro ⟨a, b, c⟩; first | (rw [h225] at a; cases a; done) | (rw [h225_1] at b; cases b; done) | (exact c h225_2; done))))).symm, rfl⟩
                              · try simp only [decide_eq_true_eq, decide_eq_false_iff_not, Bool.not_eq_true', Bool.not_eq_false', Int.not_lt, Int.not_le, Decidable.not_not, beq_iff_eq, bne_iff_ne, ne_eq, beq_eq_false_iff_ne] at h225_2
                                refine c_skip ?_
                                refine c_region ?_
                                refine o_T (y_move rfl) rfl ?_
                                refine o_T (y_add rfl rfl (w64 (by omega))) rfl ?_
                                refine o_L (y_assign rfl) rfl rfl ?_
                                refine o_nil0 rfl ?_
                                refine ⟨(k + 1), ⟨⟨by omega, set_step g4 ((setOne_pair (p := p) (by omega) hpl (by omega) hpe (by rw [h206_1]; decide)).trans (by unfold setPair; rw [if_neg (not_not_intro h209)]; rw [if_neg (by rw [h212]; decide)]; rw [if_neg (by unfold setWant; split <;> omega)]; rw [if_neg (by rintro ⟨a, b, c⟩; first | (rw [h222] at a; cases a; done) | (exact h222_1 b; done) | (rw [h222_2] at c; cases c; done))]; first | exact if_pos ⟨h225, h225_1, h225_2⟩ | exact if_neg (by rintro ⟨a, b, c⟩; first | (rw [h225] at a; cases a; done) | (rw [h225_1] at b; cases b; done) | (exact c h225_2; done))))⟩, by first | omega | (dsimp only; omega)⟩, ⟨by first | rfl | exact gteI rfl (by omega), trivial⟩, ⟨rfl, rfl⟩, _, ((s_take (s_take s_nil)))⟩
                            · try simp only [decide_eq_true_eq, decide_eq_false_iff_not, Bool.not_eq_true', Bool.not_eq_false', Int.not_lt, Int.not_le, Decidable.not_not, beq_iff_eq, bne_iff_ne, ne_eq, beq_eq_false_iff_ne] at h225_1
                              refine o_pass rfl rfl rfl rfl rfl ?_
                              refine o_pass rfl rfl rfl rfl rfl ?_
                              refine o_pass rfl rfl rfl rfl rfl ?_
                              refine o_pass rfl rfl rfl rfl rfl ?_
                              refine o_pass rfl rfl rfl rfl rfl ?_
                              refine o_pass rfl rfl rfl rfl rfl ?_
                              refine o_pass rfl rfl rfl rfl rfl ?_
                              refine o_pass rfl rfl rfl rfl rfl ?_
                              refine o_pass rfl rfl rfl rfl rfl ?_
                              refine o_T (y_pickF rfl rfl) rfl ?_
                              refine o_nil1 171 rfl rfl ?_
                              refine c_condF rfl ?_
                              refine c_skip ?_
                              refine c_region ?_
                              refine o_T (y_move rfl) rfl ?_
                              refine o_T (y_add rfl rfl (w64 (by omega))) rfl ?_
                              refine o_L (y_assign rfl) rfl rfl ?_
                              refine o_nil0 rfl ?_
                              refine ⟨(k + 1), ⟨⟨by omega, set_step g4 ((setOne_pair (p := p) (by omega) hpl (by omega) hpe (by rw [h206_1]; decide)).trans (by unfold setPair; rw [if_neg (not_not_intro h209)]; rw [if_neg (by rw [h212]; decide)]; rw [if_neg (by unfold setWant; split <;> omega)]; rw [if_neg (by rintro ⟨a, b, c⟩; first | (rw [h222] at a; cases a; done) | (exact h222_1 b; done) | (rw [h222_2] at c; cases c; done))]; first | exact if_pos ⟨h225, h225_1, h225_2⟩ | exact if_neg (by rintro ⟨a, b, c⟩; first | (rw [h225] at a; cases a; done) | (rw [h225_1] at b; cases b; done) | (exact c h225_2; done))))⟩, by first | omega | (dsimp only; omega)⟩, ⟨by first | rfl | exact gteI rfl (by omega), trivial⟩, ⟨rfl, rfl⟩, _, ((s_take (s_take s_nil)))⟩
                          · try simp only [decide_eq_true_eq, decide_eq_false_iff_not, Bool.not_eq_true', Bool.not_eq_false', Int.not_lt, Int.not_le, Decidable.not_not, beq_iff_eq, bne_iff_ne, ne_eq, beq_eq_false_iff_ne] at h225
                            refine o_pass rfl rfl rfl rfl rfl ?_
                            refine o_pass rfl rfl rfl rfl rfl ?_
                            refine o_pass rfl rfl rfl rfl rfl ?_
                            refine o_pass rfl rfl rfl rfl rfl ?_
                            refine o_pass rfl rfl rfl rfl rfl ?_
                            refine o_pass rfl rfl rfl rfl rfl ?_
                            refine o_pass rfl rfl rfl rfl rfl ?_
                            refine o_pass rfl rfl rfl rfl rfl ?_
                            refine o_T (y_pickF rfl rfl) rfl ?_
                            refine o_T (y_move rfl) rfl ?_
                            refine o_pass rfl rfl rfl rfl rfl ?_
                            refine o_pass rfl rfl rfl rfl rfl ?_
                            refine o_pass rfl rfl rfl rfl rfl ?_
                            refine o_pass rfl rfl rfl rfl rfl ?_
                            refine o_pass rfl rfl rfl rfl rfl ?_
                            refine o_pass rfl rfl rfl rfl rfl ?_
                            refine o_pass rfl rfl rfl rfl rfl ?_
                            refine o_pass rfl rfl rfl rfl rfl ?_
                            refine o_pass rfl rfl rfl rfl rfl ?_
                            refine o_T (y_pickF rfl rfl) rfl ?_
                            refine o_nil1 171 rfl rfl ?_
                            refine c_condF rfl ?_
                            refine c_skip ?_
                            refine c_region ?_
                            refine o_T (y_move rfl) rfl ?_
                            refine o_T (y_add rfl rfl (w64 (by omega))) rfl ?_
                            refine o_L (y_assign rfl) rfl rfl ?_
                            refine o_nil0 rfl ?_
                            refine ⟨(k + 1), ⟨⟨by omega, set_step g4 ((setOne_pair (p := p) (by omega) hpl (by omega) hpe (by rw [h206_1]; decide)).trans (by unfold setPair; rw [if_neg (not_not_intro h209)]; rw [if_neg (by rw [h212]; decide)]; rw [if_neg (by unfold setWant; split <;> omega)]; rw [if_neg (by rintro ⟨a, b, c⟩; first | (rw [h222] at a; cases a; done) | (exact h222_1 b; done) | (rw [h222_2] at c; cases c; done))]; first | exact if_pos ⟨h225, h225_1, h225_2⟩ | exact if_neg (by rintro ⟨a, b, c⟩; first | (rw [h225] at a; cases a; done) | (rw [h225_1] at b; cases b; done) | (exact c h225_2; done))))⟩, by first | omega | (dsimp only; omega)⟩, ⟨by first | rfl | exact gteI rfl (by omega), trivial⟩, ⟨rfl, rfl⟩, _, ((s_take (s_take s_nil)))⟩
                      · try simp only [decide_eq_true_eq, decide_eq_false_iff_not, Bool.not_eq_true', Bool.not_eq_false', Int.not_lt, Int.not_le, Decidable.not_not, beq_iff_eq, bne_iff_ne, ne_eq, beq_eq_false_iff_ne] at h222_1
                        refine d_pass 29 rfl rfl rfl rfl rfl (by kernel_rfl) (fun x hx => hx) rfl ?_
                        refine d_pass 30 rfl rfl rfl rfl rfl (by kernel_rfl) (fun x hx => hx) rfl ?_
                        refine d_pass 31 rfl rfl rfl rfl rfl (by kernel_rfl) (fun x hx => hx) rfl ?_
                        refine d_pass 32 rfl rfl rfl rfl rfl (by kernel_rfl) (fun x hx => hx) rfl ?_
                        refine d_pass 33 rfl rfl rfl rfl rfl (by kernel_rfl) (fun x hx => hx) rfl ?_
                        refine d_pass 34 rfl rfl rfl rfl rfl (by kernel_rfl) (fun x hx => hx) rfl ?_
                        refine d_pass 35 rfl rfl rfl rfl rfl (by kernel_rfl) (fun x hx => hx) rfl ?_
                        refine d_pass 36 rfl rfl rfl rfl rfl (by kernel_rfl) (fun x hx => hx) rfl ?_
                        refine d_pass 37 rfl rfl rfl rfl rfl (by kernel_rfl) (fun x hx => hx) rfl ?_
                        refine d_T 38 rfl (by kernel_rfl) rfl (y_pickF rfl rfl) rfl ?_
                        refine d_nil1 142 (by kernel_rfl) rfl rfl ?_
                        refine c_condF rfl ?_
                        refine c_skip ?_
                        refine c_seq ?_
                        refine c_region ?_
                        refine o_T (y_move rfl) rfl ?_
                        refine o_T (y_nilck rfl) rfl ?_
                        refine o_T (y_fa fl_80_0 rfl) rfl ?_
                        refine o_ld one_78 rfl m0 Nt.g0 rfl ?_
                        refine o_T (y_move rfl) rfl ?_
                        refine o_T (y_is sl_78 rfl rfl (by omega) (by omega)) rfl ?_
                        refine o_T (y_fa fl_83_13 rfl) rfl ?_
                        refine o_ld one_4 rfl (ms m0) (Ed.l_peerFin hO k (by omega) (by omega)) rfl ?_
                        refine o_T (y_move rfl) rfl ?_
                        refine o_split 151 rfl (fun h225 => ?_) (fun h225 => ?_)
                        · try simp only [decide_eq_true_eq, decide_eq_false_iff_not, Bool.not_eq_true', Bool.not_eq_false', Int.not_lt, Int.not_le, Decidable.not_not, beq_iff_eq, bne_iff_ne, ne_eq, beq_eq_false_iff_ne] at h225
                          refine o_take rfl rfl rfl ?_
                          refine o_T (y_move rfl) rfl ?_
                          refine o_take rfl rfl rfl ?_
                          refine o_T (y_nilck rfl) rfl ?_
                          refine o_take rfl rfl rfl ?_
                          refine o_T (y_fa fl_80_0 rfl) rfl ?_
                          refine o_take rfl rfl rfl ?_
                          refine o_ld one_78 rfl m0 Nt.g0 rfl ?_
                          refine o_take rfl rfl rfl ?_
                          refine o_T (y_move rfl) rfl ?_
                          refine o_take rfl rfl rfl ?_
                          refine o_T (y_is sl_78 rfl rfl (by omega) (by omega)) rfl ?_
                          refine o_take rfl rfl rfl ?_
                          refine o_T (y_fa fl_83_13 rfl) rfl ?_
                          refine o_take rfl rfl rfl ?_
                          refine o_ld one_4 rfl (ms m0) (Ed.l_peerFin hO p (by omega) (by omega)) rfl ?_
                          refine o_T (y_pickT rfl rfl) rfl ?_
                          refine o_T (y_move rfl) rfl ?_
                          refine o_split 161 rfl (fun h225_1 => ?_) (fun h225_1 => ?_)
                          · try simp only [decide_eq_true_eq, decide_eq_false_iff_not, Bool.not_eq_true', Bool.not_eq_false', Int.not_lt, Int.not_le, Decidable.not_not, beq_iff_eq, bne_iff_ne, ne_eq, beq_eq_false_iff_ne] at h225_1
                            refine o_take rfl rfl rfl ?_
                            refine o_T (y_move rfl) rfl ?_
                            refine o_take rfl rfl rfl ?_
                            refine o_T (y_nilck rfl) rfl ?_
                            refine o_take rfl rfl rfl ?_
                            refine o_T (y_fa fl_80_0 rfl) rfl ?_
                            refine o_take rfl rfl rfl ?_
                            refine o_ld one_78 rfl m0 Nt.g0 rfl ?_
                            refine o_take rfl rfl rfl ?_
                            refine o_T (y_move rfl) rfl ?_
                            refine o_take rfl rfl rfl ?_
                            refine o_T (y_is sl_78 rfl rfl (by omega) (by omega)) rfl ?_
                            refine o_take rfl rfl rfl ?_
                            refine o_T (y_fa fl_83_10 rfl) rfl ?_
                            refine o_take rfl rfl rfl ?_
                            refine o_ld one_3 rfl (ms m0) (Ed.l_state hO k (by omega) (by omega)) rfl ?_
                            refine o_take rfl rfl rfl ?_
                            refine o_T (y_neq rfl rfl) rfl ?_
                            refine o_T (y_pickT rfl rfl) rfl ?_
                            refine o_nil1 171 rfl rfl ?_
                            refine c_cond rfl (fun h225_2 => ?_) (fun h225_2 => ?_)
                            · try simp only [decide_eq_true_eq, decide_eq_false_iff_not, Bool.not_eq_true', Bool.not_eq_false', Int.not_lt, Int.not_le, Decidable.not_not, beq_iff_eq, bne_iff_ne, ne_eq, beq_eq_false_iff_ne] at h225_2
                              refine c_seq ?_
                              refine c_region ?_
                              refine o_L (y_assign rfl) rfl rfl ?_
                              refine o_nil0 rfl ?_
                              refine c_ret ?_
                              refine fun aX wX heX hsX => ret1 Tryz.results17 heX rfl (s_take (s_take s_nil)) ?_
                              exact ⟨congrArg Value.bool (nSettledB_no (k := k) (by omega) ((setOne_pair (p := p) (by omega) hpl (by omega) hpe (by rw [h206_1]; decide)).trans (by unfold setPair; rw [if_neg (not_not_intro h209)]; rw [if_neg (by rw [h212]; decide)]; rw [if_neg (by unfold setWant; split <;> omega)]; rw [if_neg (by rintro ⟨a, b, c⟩; first | (rw [h222] at a; cases a; done) | (exact h222_1 b; done) | (rw [h222_2] at c; cases c; done))]; first | exact if_pos ⟨h225, h225_1, h225_2⟩ | exact if_neg (by rintro ⟨a, b, c⟩; first | (rw [h225] at a; cases a; done) | (rw [h225_1] at b; cases b; done) | (exact c h225_2; done))))).symm, rfl⟩
                            · try simp only [decide_eq_true_eq, decide_eq_false_iff_not, Bool.not_eq_true', Bool.not_eq_false', Int.not_lt, Int.not_le, Decidable.not_not, beq_iff_eq, bne_iff_ne, ne_eq, beq_eq_false_iff_ne] at h225_2
                              refine c_skip ?_
                              refine c_region ?_
                              refine o_T (y_move rfl) rfl ?_
                              refine o_T (y_add rfl rfl (w64 (by omega))) rfl ?_
                              refine o_L (y_assign rfl) rfl rfl ?_
                              refine o_nil0 rfl ?_
                              refine ⟨(k + 1), ⟨⟨by omega, set_step g4 ((setOne_pair (p := p) (by omega) hpl (by omega) hpe (by rw [h206_1]; decide)).trans (by unfold setPair; rw [if_neg (not_not_intro h209)]; rw [if_neg (by rw [h212]; decide)]; rw [if_neg (by unfold setWant; split <;> omega)]; rw [if_neg (by rintro ⟨a, b, c⟩; first | (rw [h222] at a; cases a; done) | (exact h222_1 b; done) | (rw [h222_2] at c; cases c; done))]; first | exact if_pos ⟨h225, h225_1, h225_2⟩ | exact if_neg (by rintro ⟨a, b, c⟩; first | (rw [h225] at a; cases a; done) | (rw [h225_1] at b; cases b; done) | (exact c h225_2; done))))⟩, by first | omega | (dsimp only; omega)⟩, ⟨by first | rfl | exact gteI rfl (by omega), trivial⟩, ⟨rfl, rfl⟩, _, ((s_take (s_take s_nil)))⟩
                          · try simp only [decide_eq_true_eq, decide_eq_false_iff_not, Bool.not_eq_true', Bool.not_eq_false', Int.not_lt, Int.not_le, Decidable.not_not, beq_iff_eq, bne_iff_ne, ne_eq, beq_eq_false_iff_ne] at h225_1
                            refine o_pass rfl rfl rfl rfl rfl ?_
                            refine o_pass rfl rfl rfl rfl rfl ?_
                            refine o_pass rfl rfl rfl rfl rfl ?_
                            refine o_pass rfl rfl rfl rfl rfl ?_
                            refine o_pass rfl rfl rfl rfl rfl ?_
                            refine o_pass rfl rfl rfl rfl rfl ?_
                            refine o_pass rfl rfl rfl rfl rfl ?_
                            refine o_pass rfl rfl rfl rfl rfl ?_
                            refine o_pass rfl rfl rfl rfl rfl ?_
                            refine o_T (y_pickF rfl rfl) rfl ?_
                            refine o_nil1 171 rfl rfl ?_
                            refine c_condF rfl ?_
                            refine c_skip ?_
                            refine c_region ?_
                            refine o_T (y_move rfl) rfl ?_
                            refine o_T (y_add rfl rfl (w64 (by omega))) rfl ?_
                            refine o_L (y_assign rfl) rfl rfl ?_
                            refine o_nil0 rfl ?_
                            refine ⟨(k + 1), ⟨⟨by omega, set_step g4 ((setOne_pair (p := p) (by omega) hpl (by omega) hpe (by rw [h206_1]; decide)).trans (by unfold setPair; rw [if_neg (not_not_intro h209)]; rw [if_neg (by rw [h212]; decide)]; rw [if_neg (by unfold setWant; split <;> omega)]; rw [if_neg (by rintro ⟨a, b, c⟩; first | (rw [h222] at a; cases a; done) | (exact h222_1 b; done) | (rw [h222_2] at c; cases c; done))]; first | exact if_pos ⟨h225, h225_1, h225_2⟩ | exact if_neg (by rintro ⟨a, b, c⟩; first | (rw [h225] at a; cases a; done) | (rw [h225_1] at b; cases b; done) | (exact c h225_2; done))))⟩, by first | omega | (dsimp only; omega)⟩, ⟨by first | rfl | exact gteI rfl (by omega), trivial⟩, ⟨rfl, rfl⟩, _, ((s_take (s_take s_nil)))⟩
                        · try simp only [decide_eq_true_eq, decide_eq_false_iff_not, Bool.not_eq_true', Bool.not_eq_false', Int.not_lt, Int.not_le, Decidable.not_not, beq_iff_eq, bne_iff_ne, ne_eq, beq_eq_false_iff_ne] at h225
                          refine o_pass rfl rfl rfl rfl rfl ?_
                          refine o_pass rfl rfl rfl rfl rfl ?_
                          refine o_pass rfl rfl rfl rfl rfl ?_
                          refine o_pass rfl rfl rfl rfl rfl ?_
                          refine o_pass rfl rfl rfl rfl rfl ?_
                          refine o_pass rfl rfl rfl rfl rfl ?_
                          refine o_pass rfl rfl rfl rfl rfl ?_
                          refine o_pass rfl rfl rfl rfl rfl ?_
                          refine o_T (y_pickF rfl rfl) rfl ?_
                          refine o_T (y_move rfl) rfl ?_
                          refine o_pass rfl rfl rfl rfl rfl ?_
                          refine o_pass rfl rfl rfl rfl rfl ?_
                          refine o_pass rfl rfl rfl rfl rfl ?_
                          refine o_pass rfl rfl rfl rfl rfl ?_
                          refine o_pass rfl rfl rfl rfl rfl ?_
                          refine o_pass rfl rfl rfl rfl rfl ?_
                          refine o_pass rfl rfl rfl rfl rfl ?_
                          refine o_pass rfl rfl rfl rfl rfl ?_
                          refine o_pass rfl rfl rfl rfl rfl ?_
                          refine o_T (y_pickF rfl rfl) rfl ?_
                          refine o_nil1 171 rfl rfl ?_
                          refine c_condF rfl ?_
                          refine c_skip ?_
                          refine c_region ?_
                          refine o_T (y_move rfl) rfl ?_
                          refine o_T (y_add rfl rfl (w64 (by omega))) rfl ?_
                          refine o_L (y_assign rfl) rfl rfl ?_
                          refine o_nil0 rfl ?_
                          refine ⟨(k + 1), ⟨⟨by omega, set_step g4 ((setOne_pair (p := p) (by omega) hpl (by omega) hpe (by rw [h206_1]; decide)).trans (by unfold setPair; rw [if_neg (not_not_intro h209)]; rw [if_neg (by rw [h212]; decide)]; rw [if_neg (by unfold setWant; split <;> omega)]; rw [if_neg (by rintro ⟨a, b, c⟩; first | (rw [h222] at a; cases a; done) | (exact h222_1 b; done) | (rw [h222_2] at c; cases c; done))]; first | exact if_pos ⟨h225, h225_1, h225_2⟩ | exact if_neg (by rintro ⟨a, b, c⟩; first | (rw [h225] at a; cases a; done) | (rw [h225_1] at b; cases b; done) | (exact c h225_2; done))))⟩, by first | omega | (dsimp only; omega)⟩, ⟨by first | rfl | exact gteI rfl (by omega), trivial⟩, ⟨rfl, rfl⟩, _, ((s_take (s_take s_nil)))⟩
                    · try simp only [decide_eq_true_eq, decide_eq_false_iff_not, Bool.not_eq_true', Bool.not_eq_false', Int.not_lt, Int.not_le, Decidable.not_not, beq_iff_eq, bne_iff_ne, ne_eq, beq_eq_false_iff_ne] at h222
                      refine d_pass 9 rfl rfl rfl rfl rfl (by kernel_rfl) (fun x hx => hx) rfl ?_
                      refine d_pass 10 rfl rfl rfl rfl rfl (by kernel_rfl) (fun x hx => hx) rfl ?_
                      refine d_pass 11 rfl rfl rfl rfl rfl (by kernel_rfl) (fun x hx => hx) rfl ?_
                      refine d_pass 12 rfl rfl rfl rfl rfl (by kernel_rfl) (fun x hx => hx) rfl ?_
                      refine d_pass 13 rfl rfl rfl rfl rfl (by kernel_rfl) (fun x hx => hx) rfl ?_
                      refine d_pass 14 rfl rfl rfl rfl rfl (by kernel_rfl) (fun x hx => hx) rfl ?_
                      refine d_pass 15 rfl rfl rfl rfl rfl (by kernel_rfl) (fun x hx => hx) rfl ?_
                      refine d_pass 16 rfl rfl rfl rfl rfl (by kernel_rfl) (fun x hx => hx) rfl ?_
                      refine d_pass 17 rfl rfl rfl rfl rfl (by kernel_rfl) (fun x hx => hx) rfl ?_
                      refine d_pass 18 rfl rfl rfl rfl rfl (by kernel_rfl) (fun x hx => hx) rfl ?_
                      refine d_pass 19 rfl rfl rfl rfl rfl (by kernel_rfl) (fun x hx => hx) rfl ?_
                      refine d_pass 20 rfl rfl rfl rfl rfl (by kernel_rfl) (fun x hx => hx) rfl ?_
                      refine d_pass 21 rfl rfl rfl rfl rfl (by kernel_rfl) (fun x hx => hx) rfl ?_
                      refine d_pass 22 rfl rfl rfl rfl rfl (by kernel_rfl) (fun x hx => hx) rfl ?_
                      refine d_pass 23 rfl rfl rfl rfl rfl (by kernel_rfl) (fun x hx => hx) rfl ?_
                      refine d_pass 24 rfl rfl rfl rfl rfl (by kernel_rfl) (fun x hx => hx) rfl ?_
                      refine d_pass 25 rfl rfl rfl rfl rfl (by kernel_rfl) (fun x hx => hx) rfl ?_
                      refine d_pass 26 rfl rfl rfl rfl rfl (by kernel_rfl) (fun x hx => hx) rfl ?_
                      refine d_T 27 rfl (by kernel_rfl) rfl (y_pickF rfl rfl) rfl ?_
                      refine d_T 28 rfl (by kernel_rfl) rfl (y_move rfl) rfl ?_
                      refine d_pass 29 rfl rfl rfl rfl rfl (by kernel_rfl) (fun x hx => hx) rfl ?_
                      refine d_pass 30 rfl rfl rfl rfl rfl (by kernel_rfl) (fun x hx => hx) rfl ?_
                      refine d_pass 31 rfl rfl rfl rfl rfl (by kernel_rfl) (fun x hx => hx) rfl ?_
                      refine d_pass 32 rfl rfl rfl rfl rfl (by kernel_rfl) (fun x hx => hx) rfl ?_
                      refine d_pass 33 rfl rfl rfl rfl rfl (by kernel_rfl) (fun x hx => hx) rfl ?_
                      refine d_pass 34 rfl rfl rfl rfl rfl (by kernel_rfl) (fun x hx => hx) rfl ?_
                      refine d_pass 35 rfl rfl rfl rfl rfl (by kernel_rfl) (fun x hx => hx) rfl ?_
                      refine d_pass 36 rfl rfl rfl rfl rfl (by kernel_rfl) (fun x hx => hx) rfl ?_
                      refine d_pass 37 rfl rfl rfl rfl rfl (by kernel_rfl) (fun x hx => hx) rfl ?_
                      refine d_T 38 rfl (by kernel_rfl) rfl (y_pickF rfl rfl) rfl ?_
                      refine d_nil1 142 (by kernel_rfl) rfl rfl ?_
                      refine c_condF rfl ?_
                      refine c_skip ?_
                      refine c_seq ?_
                      refine c_region ?_
                      refine o_T (y_move rfl) rfl ?_
                      refine o_T (y_nilck rfl) rfl ?_
                      refine o_T (y_fa fl_80_0 rfl) rfl ?_
                      refine o_ld one_78 rfl m0 Nt.g0 rfl ?_
                      refine o_T (y_move rfl) rfl ?_
                      refine o_T (y_is sl_78 rfl rfl (by omega) (by omega)) rfl ?_
                      refine o_T (y_fa fl_83_13 rfl) rfl ?_
                      refine o_ld one_4 rfl (ms m0) (Ed.l_peerFin hO k (by omega) (by omega)) rfl ?_
                      refine o_T (y_move rfl) rfl ?_
                      refine o_split 151 rfl (fun h225 => ?_) (fun h225 => ?_)
                      · try simp only [decide_eq_true_eq, decide_eq_false_iff_not, Bool.not_eq_true', Bool.not_eq_false', Int.not_lt, Int.not_le, Decidable.not_not, beq_iff_eq, bne_iff_ne, ne_eq, beq_eq_false_iff_ne] at h225
                        refine o_take rfl rfl rfl ?_
                        refine o_T (y_move rfl) rfl ?_
                        refine o_take rfl rfl rfl ?_
                        refine o_T (y_nilck rfl) rfl ?_
                        refine o_take rfl rfl rfl ?_
                        refine o_T (y_fa fl_80_0 rfl) rfl ?_
                        refine o_take rfl rfl rfl ?_
                        refine o_ld one_78 rfl m0 Nt.g0 rfl ?_
                        refine o_take rfl rfl rfl ?_
                        refine o_T (y_move rfl) rfl ?_
                        refine o_take rfl rfl rfl ?_
                        refine o_T (y_is sl_78 rfl rfl (by omega) (by omega)) rfl ?_
                        refine o_take rfl rfl rfl ?_
                        refine o_T (y_fa fl_83_13 rfl) rfl ?_
                        refine o_take rfl rfl rfl ?_
                        refine o_ld one_4 rfl (ms m0) (Ed.l_peerFin hO p (by omega) (by omega)) rfl ?_
                        refine o_T (y_pickT rfl rfl) rfl ?_
                        refine o_T (y_move rfl) rfl ?_
                        refine o_split 161 rfl (fun h225_1 => ?_) (fun h225_1 => ?_)
                        · try simp only [decide_eq_true_eq, decide_eq_false_iff_not, Bool.not_eq_true', Bool.not_eq_false', Int.not_lt, Int.not_le, Decidable.not_not, beq_iff_eq, bne_iff_ne, ne_eq, beq_eq_false_iff_ne] at h225_1
                          refine o_take rfl rfl rfl ?_
                          refine o_T (y_move rfl) rfl ?_
                          refine o_take rfl rfl rfl ?_
                          refine o_T (y_nilck rfl) rfl ?_
                          refine o_take rfl rfl rfl ?_
                          refine o_T (y_fa fl_80_0 rfl) rfl ?_
                          refine o_take rfl rfl rfl ?_
                          refine o_ld one_78 rfl m0 Nt.g0 rfl ?_
                          refine o_take rfl rfl rfl ?_
                          refine o_T (y_move rfl) rfl ?_
                          refine o_take rfl rfl rfl ?_
                          refine o_T (y_is sl_78 rfl rfl (by omega) (by omega)) rfl ?_
                          refine o_take rfl rfl rfl ?_
                          refine o_T (y_fa fl_83_10 rfl) rfl ?_
                          refine o_take rfl rfl rfl ?_
                          refine o_ld one_3 rfl (ms m0) (Ed.l_state hO k (by omega) (by omega)) rfl ?_
                          refine o_take rfl rfl rfl ?_
                          refine o_T (y_neq rfl rfl) rfl ?_
                          refine o_T (y_pickT rfl rfl) rfl ?_
                          refine o_nil1 171 rfl rfl ?_
                          refine c_cond rfl (fun h225_2 => ?_) (fun h225_2 => ?_)
                          · try simp only [decide_eq_true_eq, decide_eq_false_iff_not, Bool.not_eq_true', Bool.not_eq_false', Int.not_lt, Int.not_le, Decidable.not_not, beq_iff_eq, bne_iff_ne, ne_eq, beq_eq_false_iff_ne] at h225_2
                            refine c_seq ?_
                            refine c_region ?_
                            refine o_L (y_assign rfl) rfl rfl ?_
                            refine o_nil0 rfl ?_
                            refine c_ret ?_
                            refine fun aX wX heX hsX => ret1 Tryz.results17 heX rfl (s_take (s_take s_nil)) ?_
                            exact ⟨congrArg Value.bool (nSettledB_no (k := k) (by omega) ((setOne_pair (p := p) (by omega) hpl (by omega) hpe (by rw [h206_1]; decide)).trans (by unfold setPair; rw [if_neg (not_not_intro h209)]; rw [if_neg (by rw [h212]; decide)]; rw [if_neg (by unfold setWant; split <;> omega)]; rw [if_neg (by rintro ⟨a, b, c⟩; first | (rw [h222] at a; cases a; done) | (exact h222_1 b; done) | (rw [h222_2] at c; cases c; done))]; first | exact if_pos ⟨h225, h225_1, h225_2⟩ | exact if_neg (by rintro ⟨a, b, c⟩; first | (rw [h225] at a; cases a; done) | (rw [h225_1] at b; cases b; done) | (exact c h225_2; done))))).symm, rfl⟩
                          · try simp only [decide_eq_true_eq, decide_eq_false_iff_not, Bool.not_eq_true', Bool.not_eq_false', Int.not_lt, Int.not_le, Decidable.not_not, beq_iff_eq, bne_iff_ne, ne_eq, beq_eq_false_iff_ne] at h225_2
                            refine c_skip ?_
                            refine c_region ?_
                            refine o_T (y_move rfl) rfl ?_
                            refine o_T (y_add rfl rfl (w64 (by omega))) rfl ?_
                            refine o_L (y_assign rfl) rfl rfl ?_
                            refine o_nil0 rfl ?_
                            refine ⟨(k + 1), ⟨⟨by omega, set_step g4 ((setOne_pair (p := p) (by omega) hpl (by omega) hpe (by rw [h206_1]; decide)).trans (by unfold setPair; rw [if_neg (not_not_intro h209)]; rw [if_neg (by rw [h212]; decide)]; rw [if_neg (by unfold setWant; split <;> omega)]; rw [if_neg (by rintro ⟨a, b, c⟩; first | (rw [h222] at a; cases a; done) | (exact h222_1 b; done) | (rw [h222_2] at c; cases c; done))]; first | exact if_pos ⟨h225, h225_1, h225_2⟩ | exact if_neg (by rintro ⟨a, b, c⟩; first | (rw [h225] at a; cases a; done) | (rw [h225_1] at b; cases b; done) | (exact c h225_2; done))))⟩, by first | omega | (dsimp only; omega)⟩, ⟨by first | rfl | exact gteI rfl (by omega), trivial⟩, ⟨rfl, rfl⟩, _, ((s_take (s_take s_nil)))⟩
                        · try simp only [decide_eq_true_eq, decide_eq_false_iff_not, Bool.not_eq_true', Bool.not_eq_false', Int.not_lt, Int.not_le, Decidable.not_not, beq_iff_eq, bne_iff_ne, ne_eq, beq_eq_false_iff_ne] at h225_1
                          refine o_pass rfl rfl rfl rfl rfl ?_
                          refine o_pass rfl rfl rfl rfl rfl ?_
                          refine o_pass rfl rfl rfl rfl rfl ?_
                          refine o_pass rfl rfl rfl rfl rfl ?_
                          refine o_pass rfl rfl rfl rfl rfl ?_
                          refine o_pass rfl rfl rfl rfl rfl ?_
                          refine o_pass rfl rfl rfl rfl rfl ?_
                          refine o_pass rfl rfl rfl rfl rfl ?_
                          refine o_pass rfl rfl rfl rfl rfl ?_
                          refine o_T (y_pickF rfl rfl) rfl ?_
                          refine o_nil1 171 rfl rfl ?_
                          refine c_condF rfl ?_
                          refine c_skip ?_
                          refine c_region ?_
                          refine o_T (y_move rfl) rfl ?_
                          refine o_T (y_add rfl rfl (w64 (by omega))) rfl ?_
                          refine o_L (y_assign rfl) rfl rfl ?_
                          refine o_nil0 rfl ?_
                          refine ⟨(k + 1), ⟨⟨by omega, set_step g4 ((setOne_pair (p := p) (by omega) hpl (by omega) hpe (by rw [h206_1]; decide)).trans (by unfold setPair; rw [if_neg (not_not_intro h209)]; rw [if_neg (by rw [h212]; decide)]; rw [if_neg (by unfold setWant; split <;> omega)]; rw [if_neg (by rintro ⟨a, b, c⟩; first | (rw [h222] at a; cases a; done) | (exact h222_1 b; done) | (rw [h222_2] at c; cases c; done))]; first | exact if_pos ⟨h225, h225_1, h225_2⟩ | exact if_neg (by rintro ⟨a, b, c⟩; first | (rw [h225] at a; cases a; done) | (rw [h225_1] at b; cases b; done) | (exact c h225_2; done))))⟩, by first | omega | (dsimp only; omega)⟩, ⟨by first | rfl | exact gteI rfl (by omega), trivial⟩, ⟨rfl, rfl⟩, _, ((s_take (s_take s_nil)))⟩
                      · try simp only [decide_eq_true_eq, decide_eq_false_iff_not, Bool.not_eq_true', Bool.not_eq_false', Int.not_lt, Int.not_le, Decidable.not_not, beq_iff_eq, bne_iff_ne, ne_eq, beq_eq_false_iff_ne] at h225
                        refine o_pass rfl rfl rfl rfl rfl ?_
                        refine o_pass rfl rfl rfl rfl rfl ?_
                        refine o_pass rfl rfl rfl rfl rfl ?_
                        refine o_pass rfl rfl rfl rfl rfl ?_
                        refine o_pass rfl rfl rfl rfl rfl ?_
                        refine o_pass rfl rfl rfl rfl rfl ?_
                        refine o_pass rfl rfl rfl rfl rfl ?_
                        refine o_pass rfl rfl rfl rfl rfl ?_
                        refine o_T (y_pickF rfl rfl) rfl ?_
                        refine o_T (y_move rfl) rfl ?_
                        refine o_pass rfl rfl rfl rfl rfl ?_
                        refine o_pass rfl rfl rfl rfl rfl ?_
                        refine o_pass rfl rfl rfl rfl rfl ?_
                        refine o_pass rfl rfl rfl rfl rfl ?_
                        refine o_pass rfl rfl rfl rfl rfl ?_
                        refine o_pass rfl rfl rfl rfl rfl ?_
                        refine o_pass rfl rfl rfl rfl rfl ?_
                        refine o_pass rfl rfl rfl rfl rfl ?_
                        refine o_pass rfl rfl rfl rfl rfl ?_
                        refine o_T (y_pickF rfl rfl) rfl ?_
                        refine o_nil1 171 rfl rfl ?_
                        refine c_condF rfl ?_
                        refine c_skip ?_
                        refine c_region ?_
                        refine o_T (y_move rfl) rfl ?_
                        refine o_T (y_add rfl rfl (w64 (by omega))) rfl ?_
                        refine o_L (y_assign rfl) rfl rfl ?_
                        refine o_nil0 rfl ?_
                        refine ⟨(k + 1), ⟨⟨by omega, set_step g4 ((setOne_pair (p := p) (by omega) hpl (by omega) hpe (by rw [h206_1]; decide)).trans (by unfold setPair; rw [if_neg (not_not_intro h209)]; rw [if_neg (by rw [h212]; decide)]; rw [if_neg (by unfold setWant; split <;> omega)]; rw [if_neg (by rintro ⟨a, b, c⟩; first | (rw [h222] at a; cases a; done) | (exact h222_1 b; done) | (rw [h222_2] at c; cases c; done))]; first | exact if_pos ⟨h225, h225_1, h225_2⟩ | exact if_neg (by rintro ⟨a, b, c⟩; first | (rw [h225] at a; cases a; done) | (rw [h225_1] at b; cases b; done) | (exact c h225_2; done))))⟩, by first | omega | (dsimp only; omega)⟩, ⟨by first | rfl | exact gteI rfl (by omega), trivial⟩, ⟨rfl, rfl⟩, _, ((s_take (s_take s_nil)))⟩
                · try simp only [decide_eq_true_eq, decide_eq_false_iff_not, Bool.not_eq_true', Bool.not_eq_false', Int.not_lt, Int.not_le, Decidable.not_not, beq_iff_eq, bne_iff_ne, ne_eq, beq_eq_false_iff_ne] at h216
                  refine c_skip ?_
                  refine c_seq ?_
                  refine c_seq ?_
                  refine c_region ?_
                  refine o_T (y_move rfl) rfl ?_
                  refine o_T (y_nilck rfl) rfl ?_
                  refine o_T (y_fa fl_80_0 rfl) rfl ?_
                  refine o_ld one_78 rfl m0 Nt.g0 rfl ?_
                  refine o_T (y_move rfl) rfl ?_
                  refine o_T (y_is sl_78 rfl rfl (by omega) (by omega)) rfl ?_
                  refine o_T (y_fa fl_83_9 rfl) rfl ?_
                  refine o_ld one_3 rfl (ms m0) (Ed.l_offered hO k (by omega) (by omega)) rfl ?_
                  refine o_T (y_move rfl) rfl ?_
                  refine o_T (y_lss rfl rfl) rfl ?_
                  refine o_nil1 103 rfl rfl ?_
                  refine c_cond rfl (fun h219 => ?_) (fun h219 => ?_)
                  · try simp only [decide_eq_true_eq, decide_eq_false_iff_not, Bool.not_eq_true', Bool.not_eq_false', Int.not_lt, Int.not_le, Decidable.not_not, beq_iff_eq, bne_iff_ne, ne_eq, beq_eq_false_iff_ne] at h219
                    refine c_seq ?_
                    refine c_region ?_
                    refine o_L (y_assign rfl) rfl rfl ?_
                    refine o_nil0 rfl ?_
                    refine c_ret ?_
                    refine fun aX wX heX hsX => ret1 Tryz.results17 heX rfl (s_take (s_take s_nil)) ?_
                    exact ⟨congrArg Value.bool (nSettledB_no (k := k) (by omega) ((setOne_pair (p := p) (by omega) hpl (by omega) hpe (by rw [h206_1]; decide)).trans (by unfold setPair; rw [if_neg (not_not_intro h209)]; rw [if_neg (by rw [h212]; decide)]; exact if_pos (by unfold setWant; split <;> omega)))).symm, rfl⟩
                  · try simp only [decide_eq_true_eq, decide_eq_false_iff_not, Bool.not_eq_true', Bool.not_eq_false', Int.not_lt, Int.not_le, Decidable.not_not, beq_iff_eq, bne_iff_ne, ne_eq, beq_eq_false_iff_ne] at h219
                    refine c_skip ?_
                    refine c_seq ?_
                    refine c_seq ?_
                    refine c_draw #[true, true, true, true, true, true, true, true, true, true, true, true, true, true, true, true, true, true, true, true, true, true, true, true, true, true, true, true, true, true, true, true, true, true, true, true, true, true, true] rfl (n := 39) rfl ?_
                    refine d_T 0 rfl (by kernel_rfl) rfl (y_move rfl) rfl ?_
                    refine d_T 1 rfl (by kernel_rfl) rfl (y_nilck rfl) rfl ?_
                    refine d_T 2 rfl (by kernel_rfl) rfl (y_fa fl_80_0 rfl) rfl ?_
                    refine d_ld 3 rfl (by kernel_rfl) one_78 rfl (fun x hx => hx) m0 Nt.g0 rfl ?_
                    refine d_T 4 rfl (by kernel_rfl) rfl (y_move rfl) rfl ?_
                    refine d_T 5 rfl (by kernel_rfl) rfl (y_is sl_78 rfl rfl (by omega) (by omega)) rfl ?_
                    refine d_T 6 rfl (by kernel_rfl) rfl (y_fa fl_83_12 rfl) rfl ?_
                    refine d_ld 7 rfl (by kernel_rfl) one_4 rfl (fun x hx => hx) (ms m0) (Ed.l_closed hO p (by omega) (by omega)) rfl ?_
                    refine d_T 8 rfl (by kernel_rfl) rfl (y_move rfl) rfl ?_
                    refine d_split 112 rfl (fun h222 => ?_) (fun h222 => ?_)
                    · try simp only [decide_eq_true_eq, decide_eq_false_iff_not, Bool.not_eq_true', Bool.not_eq_false', Int.not_lt, Int.not_le, Decidable.not_not, beq_iff_eq, bne_iff_ne, ne_eq, beq_eq_false_iff_ne] at h222
                      refine d_Tg 9 rfl rfl rfl rfl (by kernel_rfl) rfl (y_move rfl) rfl ?_
                      refine d_Tg 10 rfl rfl rfl rfl (by kernel_rfl) rfl (y_nilck rfl) rfl ?_
                      refine d_Tg 11 rfl rfl rfl rfl (by kernel_rfl) rfl (y_fa fl_80_0 rfl) rfl ?_
                      refine d_ldt 12 rfl rfl rfl rfl (by kernel_rfl) one_78 rfl (fun x hx => hx) m0 Nt.g0 rfl ?_
                      refine d_Tg 13 rfl rfl rfl rfl (by kernel_rfl) rfl (y_move rfl) rfl ?_
                      refine d_Tg 14 rfl rfl rfl rfl (by kernel_rfl) rfl (y_is sl_78 rfl rfl (by omega) (by omega)) rfl ?_
                      refine d_Tg 15 rfl rfl rfl rfl (by kernel_rfl) rfl (y_fa fl_83_9 rfl) rfl ?_
                      refine d_ldt 16 rfl rfl rfl rfl (by kernel_rfl) one_3 rfl (fun x hx => hx) (ms m0) (Ed.l_offered hO k (by omega) (by omega)) rfl ?_
                      refine d_Tg 17 rfl rfl rfl rfl (by kernel_rfl) rfl (y_move rfl) rfl ?_
                      refine d_Tg 18 rfl rfl rfl rfl (by kernel_rfl) rfl (y_nilck rfl) rfl ?_
                      refine d_Tg 19 rfl rfl rfl rfl (by kernel_rfl) rfl (y_fa fl_80_0 rfl) rfl ?_
                      refine d_ldt 20 rfl rfl rfl rfl (by kernel_rfl) one_78 rfl (fun x hx => hx) m0 Nt.g0 rfl ?_
                      refine d_Tg 21 rfl rfl rfl rfl (by kernel_rfl) rfl (y_move rfl) rfl ?_
                      refine d_Tg 22 rfl rfl rfl rfl (by kernel_rfl) rfl (y_is sl_78 rfl rfl (by omega) (by omega)) rfl ?_
                      refine d_Tg 23 rfl rfl rfl rfl (by kernel_rfl) rfl (y_fa fl_83_7 rfl) rfl ?_
                      refine d_ldt 24 rfl rfl rfl rfl (by kernel_rfl) one_81 rfl (fun x hx => hx) (ms m0) (hvs _ (by omega)) rfl ?_
                      refine d_Tg 25 rfl rfl rfl rfl (by kernel_rfl) rfl (y_len Tryz.underlying81 rfl) rfl ?_
                      refine d_Tg 26 rfl rfl rfl rfl (by kernel_rfl) rfl (y_eql rfl rfl) rfl ?_
                      refine d_T 27 rfl (by kernel_rfl) rfl (y_pickT rfl rfl) rfl ?_
                      refine d_T 28 rfl (by kernel_rfl) rfl (y_move rfl) rfl ?_
                      refine d_split 132 rfl (fun h222_1 => ?_) (fun h222_1 => ?_)
                      · try simp only [decide_eq_true_eq, decide_eq_false_iff_not, Bool.not_eq_true', Bool.not_eq_false', Int.not_lt, Int.not_le, Decidable.not_not, beq_iff_eq, bne_iff_ne, ne_eq, beq_eq_false_iff_ne] at h222_1
                        refine d_Tg 29 rfl rfl rfl rfl (by kernel_rfl) rfl (y_move rfl) rfl ?_
                        refine d_Tg 30 rfl rfl rfl rfl (by kernel_rfl) rfl (y_nilck rfl) rfl ?_
                        refine d_Tg 31 rfl rfl rfl rfl (by kernel_rfl) rfl (y_fa fl_80_0 rfl) rfl ?_
                        refine d_ldt 32 rfl rfl rfl rfl (by kernel_rfl) one_78 rfl (fun x hx => hx) m0 Nt.g0 rfl ?_
                        refine d_Tg 33 rfl rfl rfl rfl (by kernel_rfl) rfl (y_move rfl) rfl ?_
                        refine d_Tg 34 rfl rfl rfl rfl (by kernel_rfl) rfl (y_is sl_78 rfl rfl (by omega) (by omega)) rfl ?_
                        refine d_Tg 35 rfl rfl rfl rfl (by kernel_rfl) rfl (y_fa fl_83_13 rfl) rfl ?_
                        refine d_ldt 36 rfl rfl rfl rfl (by kernel_rfl) one_4 rfl (fun x hx => hx) (ms m0) (Ed.l_peerFin hO k (by omega) (by omega)) rfl ?_
                        refine d_Tg 37 rfl rfl rfl rfl (by kernel_rfl) rfl (y_not rfl) rfl ?_
                        refine d_T 38 rfl (by kernel_rfl) rfl (y_pickT rfl rfl) rfl ?_
                        refine d_nil1 142 (by kernel_rfl) rfl rfl ?_
                        refine c_cond rfl (fun h222_2 => ?_) (fun h222_2 => ?_)
                        · try simp only [decide_eq_true_eq, decide_eq_false_iff_not, Bool.not_eq_true', Bool.not_eq_false', Int.not_lt, Int.not_le, Decidable.not_not, beq_iff_eq, bne_iff_ne, ne_eq, beq_eq_false_iff_ne] at h222_2
                          refine c_seq ?_
                          refine c_region ?_
                          refine o_L (y_assign rfl) rfl rfl ?_
                          refine o_nil0 rfl ?_
                          refine c_ret ?_
                          refine fun aX wX heX hsX => ret1 Tryz.results17 heX rfl (s_take (s_take s_nil)) ?_
                          exact ⟨congrArg Value.bool (nSettledB_no (k := k) (by omega) ((setOne_pair (p := p) (by omega) hpl (by omega) hpe (by rw [h206_1]; decide)).trans (by unfold setPair; rw [if_neg (not_not_intro h209)]; rw [if_neg (by rw [h212]; decide)]; rw [if_neg (by unfold setWant; split <;> omega)]; exact if_pos ⟨h222, h222_1, h222_2⟩))).symm, rfl⟩
                        · try simp only [decide_eq_true_eq, decide_eq_false_iff_not, Bool.not_eq_true', Bool.not_eq_false', Int.not_lt, Int.not_le, Decidable.not_not, beq_iff_eq, bne_iff_ne, ne_eq, beq_eq_false_iff_ne] at h222_2
                          refine c_skip ?_
                          refine c_seq ?_
                          refine c_region ?_
                          refine o_T (y_move rfl) rfl ?_
                          refine o_T (y_nilck rfl) rfl ?_
                          refine o_T (y_fa fl_80_0 rfl) rfl ?_
                          refine o_ld one_78 rfl m0 Nt.g0 rfl ?_
                          refine o_T (y_move rfl) rfl ?_
                          refine o_T (y_is sl_78 rfl rfl (by omega) (by omega)) rfl ?_
                          refine o_T (y_fa fl_83_13 rfl) rfl ?_
                          refine o_ld one_4 rfl (ms m0) (Ed.l_peerFin hO k (by omega) (by omega)) rfl ?_
                          refine o_T (y_move rfl) rfl ?_
                          refine o_split 151 rfl (fun h225 => ?_) (fun h225 => ?_)
                          · try simp only [decide_eq_true_eq, decide_eq_false_iff_not, Bool.not_eq_true', Bool.not_eq_false', Int.not_lt, Int.not_le, Decidable.not_not, beq_iff_eq, bne_iff_ne, ne_eq, beq_eq_false_iff_ne] at h225
                            refine o_take rfl rfl rfl ?_
                            refine o_T (y_move rfl) rfl ?_
                            refine o_take rfl rfl rfl ?_
                            refine o_T (y_nilck rfl) rfl ?_
                            refine o_take rfl rfl rfl ?_
                            refine o_T (y_fa fl_80_0 rfl) rfl ?_
                            refine o_take rfl rfl rfl ?_
                            refine o_ld one_78 rfl m0 Nt.g0 rfl ?_
                            refine o_take rfl rfl rfl ?_
                            refine o_T (y_move rfl) rfl ?_
                            refine o_take rfl rfl rfl ?_
                            refine o_T (y_is sl_78 rfl rfl (by omega) (by omega)) rfl ?_
                            refine o_take rfl rfl rfl ?_
                            refine o_T (y_fa fl_83_13 rfl) rfl ?_
                            refine o_take rfl rfl rfl ?_
                            refine o_ld one_4 rfl (ms m0) (Ed.l_peerFin hO p (by omega) (by omega)) rfl ?_
                            refine o_T (y_pickT rfl rfl) rfl ?_
                            refine o_T (y_move rfl) rfl ?_
                            refine o_split 161 rfl (fun h225_1 => ?_) (fun h225_1 => ?_)
                            · try simp only [decide_eq_true_eq, decide_eq_false_iff_not, Bool.not_eq_true', Bool.not_eq_false', Int.not_lt, Int.not_le, Decidable.not_not, beq_iff_eq, bne_iff_ne, ne_eq, beq_eq_false_iff_ne] at h225_1
                              refine o_take rfl rfl rfl ?_
                              refine o_T (y_move rfl) rfl ?_
                              refine o_take rfl rfl rfl ?_
                              refine o_T (y_nilck rfl) rfl ?_
                              refine o_take rfl rfl rfl ?_
                              refine o_T (y_fa fl_80_0 rfl) rfl ?_
                              refine o_take rfl rfl rfl ?_
                              refine o_ld one_78 rfl m0 Nt.g0 rfl ?_
                              refine o_take rfl rfl rfl ?_
                              refine o_T (y_move rfl) rfl ?_
                              refine o_take rfl rfl rfl ?_
                              refine o_T (y_is sl_78 rfl rfl (by omega) (by omega)) rfl ?_
                              refine o_take rfl rfl rfl ?_
                              refine o_T (y_fa fl_83_10 rfl) rfl ?_
                              refine o_take rfl rfl rfl ?_
                              refine o_ld one_3 rfl (ms m0) (Ed.l_state hO k (by omega) (by omega)) rfl ?_
                              refine o_take rfl rfl rfl ?_
                              refine o_T (y_neq rfl rfl) rfl ?_
                              refine o_T (y_pickT rfl rfl) rfl ?_
                              refine o_nil1 171 rfl rfl ?_
                              refine c_cond rfl (fun h225_2 => ?_) (fun h225_2 => ?_)
                              · try simp only [decide_eq_true_eq, decide_eq_false_iff_not, Bool.not_eq_true', Bool.not_eq_false', Int.not_lt, Int.not_le, Decidable.not_not, beq_iff_eq, bne_iff_ne, ne_eq, beq_eq_false_iff_ne] at h225_2
                                refine c_seq ?_
                                refine c_region ?_
                                refine o_L (y_assign rfl) rfl rfl ?_
                                refine o_nil0 rfl ?_
                                refine c_ret ?_
                                refine fun aX wX heX hsX => ret1 Tryz.results17 heX rfl (s_take (s_take s_nil)) ?_
                                exact ⟨congrArg Value.bool (nSettledB_no (k := k) (by omega) ((setOne_pair (p := p) (by omega) hpl (by omega) hpe (by rw [h206_1]; decide)).trans (by unfold setPair; rw [if_neg (not_not_intro h209)]; rw [if_neg (by rw [h212]; decide)]; rw [if_neg (by unfold setWant; split <;> omega)]; rw [if_neg (by rintro ⟨a, b, c⟩; first | (rw [h222] at a; cases a; done) | (exact h222_1 b; done) | (rw [h222_2] at c; cases c; done))]; first | exact if_pos ⟨h225, h225_1, h225_2⟩ | exact if_neg (by rintro ⟨a, b, c⟩; first | (rw [h225] at a; cases a; done) | (rw [h225_1] at b; cases b; done) | (exact c h225_2; done))))).symm, rfl⟩
                              · try simp only [decide_eq_true_eq, decide_eq_false_iff_not, Bool.not_eq_true', Bool.not_eq_false', Int.not_lt, Int.not_le, Decidable.not_not, beq_iff_eq, bne_iff_ne, ne_eq, beq_eq_false_iff_ne] at h225_2
                                refine c_skip ?_
                                refine c_region ?_
                                refine o_T (y_move rfl) rfl ?_
                                refine o_T (y_add rfl rfl (w64 (by omega))) rfl ?_
                                refine o_L (y_assign rfl) rfl rfl ?_
                                refine o_nil0 rfl ?_
                                refine ⟨(k + 1), ⟨⟨by omega, set_step g4 ((setOne_pair (p := p) (by omega) hpl (by omega) hpe (by rw [h206_1]; decide)).trans (by unfold setPair; rw [if_neg (not_not_intro h209)]; rw [if_neg (by rw [h212]; decide)]; rw [if_neg (by unfold setWant; split <;> omega)]; rw [if_neg (by rintro ⟨a, b, c⟩; first | (rw [h222] at a; cases a; done) | (exact h222_1 b; done) | (rw [h222_2] at c; cases c; done))]; first | exact if_pos ⟨h225, h225_1, h225_2⟩ | exact if_neg (by rintro ⟨a, b, c⟩; first | (rw [h225] at a; cases a; done) | (rw [h225_1] at b; cases b; done) | (exact c h225_2; done))))⟩, by first | omega | (dsimp only; omega)⟩, ⟨by first | rfl | exact gteI rfl (by omega), trivial⟩, ⟨rfl, rfl⟩, _, ((s_take (s_take s_nil)))⟩
                            · try simp only [decide_eq_true_eq, decide_eq_false_iff_not, Bool.not_eq_true', Bool.not_eq_false', Int.not_lt, Int.not_le, Decidable.not_not, beq_iff_eq, bne_iff_ne, ne_eq, beq_eq_false_iff_ne] at h225_1
                              refine o_pass rfl rfl rfl rfl rfl ?_
                              refine o_pass rfl rfl rfl rfl rfl ?_
                              refine o_pass rfl rfl rfl rfl rfl ?_
                              refine o_pass rfl rfl rfl rfl rfl ?_
                              refine o_pass rfl rfl rfl rfl rfl ?_
                              refine o_pass rfl rfl rfl rfl rfl ?_
                              refine o_pass rfl rfl rfl rfl rfl ?_
                              refine o_pass rfl rfl rfl rfl rfl ?_
                              refine o_pass rfl rfl rfl rfl rfl ?_
                              refine o_T (y_pickF rfl rfl) rfl ?_
                              refine o_nil1 171 rfl rfl ?_
                              refine c_condF rfl ?_
                              refine c_skip ?_
                              refine c_region ?_
                              refine o_T (y_move rfl) rfl ?_
                              refine o_T (y_add rfl rfl (w64 (by omega))) rfl ?_
                              refine o_L (y_assign rfl) rfl rfl ?_
                              refine o_nil0 rfl ?_
                              refine ⟨(k + 1), ⟨⟨by omega, set_step g4 ((setOne_pair (p := p) (by omega) hpl (by omega) hpe (by rw [h206_1]; decide)).trans (by unfold setPair; rw [if_neg (not_not_intro h209)]; rw [if_neg (by rw [h212]; decide)]; rw [if_neg (by unfold setWant; split <;> omega)]; rw [if_neg (by rintro ⟨a, b, c⟩; first | (rw [h222] at a; cases a; done) | (exact h222_1 b; done) | (rw [h222_2] at c; cases c; done))]; first | exact if_pos ⟨h225, h225_1, h225_2⟩ | exact if_neg (by rintro ⟨a, b, c⟩; first | (rw [h225] at a; cases a; done) | (rw [h225_1] at b; cases b; done) | (exact c h225_2; done))))⟩, by first | omega | (dsimp only; omega)⟩, ⟨by first | rfl | exact gteI rfl (by omega), trivial⟩, ⟨rfl, rfl⟩, _, ((s_take (s_take s_nil)))⟩
                          · try simp only [decide_eq_true_eq, decide_eq_false_iff_not, Bool.not_eq_true', Bool.not_eq_false', Int.not_lt, Int.not_le, Decidable.not_not, beq_iff_eq, bne_iff_ne, ne_eq, beq_eq_false_iff_ne] at h225
                            refine o_pass rfl rfl rfl rfl rfl ?_
                            refine o_pass rfl rfl rfl rfl rfl ?_
                            refine o_pass rfl rfl rfl rfl rfl ?_
                            refine o_pass rfl rfl rfl rfl rfl ?_
                            refine o_pass rfl rfl rfl rfl rfl ?_
                            refine o_pass rfl rfl rfl rfl rfl ?_
                            refine o_pass rfl rfl rfl rfl rfl ?_
                            refine o_pass rfl rfl rfl rfl rfl ?_
                            refine o_T (y_pickF rfl rfl) rfl ?_
                            refine o_T (y_move rfl) rfl ?_
                            refine o_pass rfl rfl rfl rfl rfl ?_
                            refine o_pass rfl rfl rfl rfl rfl ?_
                            refine o_pass rfl rfl rfl rfl rfl ?_
                            refine o_pass rfl rfl rfl rfl rfl ?_
                            refine o_pass rfl rfl rfl rfl rfl ?_
                            refine o_pass rfl rfl rfl rfl rfl ?_
                            refine o_pass rfl rfl rfl rfl rfl ?_
                            refine o_pass rfl rfl rfl rfl rfl ?_
                            refine o_pass rfl rfl rfl rfl rfl ?_
                            refine o_T (y_pickF rfl rfl) rfl ?_
                            refine o_nil1 171 rfl rfl ?_
                            refine c_condF rfl ?_
                            refine c_skip ?_
                            refine c_region ?_
                            refine o_T (y_move rfl) rfl ?_
                            refine o_T (y_add rfl rfl (w64 (by omega))) rfl ?_
                            refine o_L (y_assign rfl) rfl rfl ?_
                            refine o_nil0 rfl ?_
                            refine ⟨(k + 1), ⟨⟨by omega, set_step g4 ((setOne_pair (p := p) (by omega) hpl (by omega) hpe (by rw [h206_1]; decide)).trans (by unfold setPair; rw [if_neg (not_not_intro h209)]; rw [if_neg (by rw [h212]; decide)]; rw [if_neg (by unfold setWant; split <;> omega)]; rw [if_neg (by rintro ⟨a, b, c⟩; first | (rw [h222] at a; cases a; done) | (exact h222_1 b; done) | (rw [h222_2] at c; cases c; done))]; first | exact if_pos ⟨h225, h225_1, h225_2⟩ | exact if_neg (by rintro ⟨a, b, c⟩; first | (rw [h225] at a; cases a; done) | (rw [h225_1] at b; cases b; done) | (exact c h225_2; done))))⟩, by first | omega | (dsimp only; omega)⟩, ⟨by first | rfl | exact gteI rfl (by omega), trivial⟩, ⟨rfl, rfl⟩, _, ((s_take (s_take s_nil)))⟩
                      · try simp only [decide_eq_true_eq, decide_eq_false_iff_not, Bool.not_eq_true', Bool.not_eq_false', Int.not_lt, Int.not_le, Decidable.not_not, beq_iff_eq, bne_iff_ne, ne_eq, beq_eq_false_iff_ne] at h222_1
                        refine d_pass 29 rfl rfl rfl rfl rfl (by kernel_rfl) (fun x hx => hx) rfl ?_
                        refine d_pass 30 rfl rfl rfl rfl rfl (by kernel_rfl) (fun x hx => hx) rfl ?_
                        refine d_pass 31 rfl rfl rfl rfl rfl (by kernel_rfl) (fun x hx => hx) rfl ?_
                        refine d_pass 32 rfl rfl rfl rfl rfl (by kernel_rfl) (fun x hx => hx) rfl ?_
                        refine d_pass 33 rfl rfl rfl rfl rfl (by kernel_rfl) (fun x hx => hx) rfl ?_
                        refine d_pass 34 rfl rfl rfl rfl rfl (by kernel_rfl) (fun x hx => hx) rfl ?_
                        refine d_pass 35 rfl rfl rfl rfl rfl (by kernel_rfl) (fun x hx => hx) rfl ?_
                        refine d_pass 36 rfl rfl rfl rfl rfl (by kernel_rfl) (fun x hx => hx) rfl ?_
                        refine d_pass 37 rfl rfl rfl rfl rfl (by kernel_rfl) (fun x hx => hx) rfl ?_
                        refine d_T 38 rfl (by kernel_rfl) rfl (y_pickF rfl rfl) rfl ?_
                        refine d_nil1 142 (by kernel_rfl) rfl rfl ?_
                        refine c_condF rfl ?_
                        refine c_skip ?_
                        refine c_seq ?_
                        refine c_region ?_
                        refine o_T (y_move rfl) rfl ?_
                        refine o_T (y_nilck rfl) rfl ?_
                        refine o_T (y_fa fl_80_0 rfl) rfl ?_
                        refine o_ld one_78 rfl m0 Nt.g0 rfl ?_
                        refine o_T (y_move rfl) rfl ?_
                        refine o_T (y_is sl_78 rfl rfl (by omega) (by omega)) rfl ?_
                        refine o_T (y_fa fl_83_13 rfl) rfl ?_
                        refine o_ld one_4 rfl (ms m0) (Ed.l_peerFin hO k (by omega) (by omega)) rfl ?_
                        refine o_T (y_move rfl) rfl ?_
                        refine o_split 151 rfl (fun h225 => ?_) (fun h225 => ?_)
                        · try simp only [decide_eq_true_eq, decide_eq_false_iff_not, Bool.not_eq_true', Bool.not_eq_false', Int.not_lt, Int.not_le, Decidable.not_not, beq_iff_eq, bne_iff_ne, ne_eq, beq_eq_false_iff_ne] at h225
                          refine o_take rfl rfl rfl ?_
                          refine o_T (y_move rfl) rfl ?_
                          refine o_take rfl rfl rfl ?_
                          refine o_T (y_nilck rfl) rfl ?_
                          refine o_take rfl rfl rfl ?_
                          refine o_T (y_fa fl_80_0 rfl) rfl ?_
                          refine o_take rfl rfl rfl ?_
                          refine o_ld one_78 rfl m0 Nt.g0 rfl ?_
                          refine o_take rfl rfl rfl ?_
                          refine o_T (y_move rfl) rfl ?_
                          refine o_take rfl rfl rfl ?_
                          refine o_T (y_is sl_78 rfl rfl (by omega) (by omega)) rfl ?_
                          refine o_take rfl rfl rfl ?_
                          refine o_T (y_fa fl_83_13 rfl) rfl ?_
                          refine o_take rfl rfl rfl ?_
                          refine o_ld one_4 rfl (ms m0) (Ed.l_peerFin hO p (by omega) (by omega)) rfl ?_
                          refine o_T (y_pickT rfl rfl) rfl ?_
                          refine o_T (y_move rfl) rfl ?_
                          refine o_split 161 rfl (fun h225_1 => ?_) (fun h225_1 => ?_)
                          · try simp only [decide_eq_true_eq, decide_eq_false_iff_not, Bool.not_eq_true', Bool.not_eq_false', Int.not_lt, Int.not_le, Decidable.not_not, beq_iff_eq, bne_iff_ne, ne_eq, beq_eq_false_iff_ne] at h225_1
                            refine o_take rfl rfl rfl ?_
                            refine o_T (y_move rfl) rfl ?_
                            refine o_take rfl rfl rfl ?_
                            refine o_T (y_nilck rfl) rfl ?_
                            refine o_take rfl rfl rfl ?_
                            refine o_T (y_fa fl_80_0 rfl) rfl ?_
                            refine o_take rfl rfl rfl ?_
                            refine o_ld one_78 rfl m0 Nt.g0 rfl ?_
                            refine o_take rfl rfl rfl ?_
                            refine o_T (y_move rfl) rfl ?_
                            refine o_take rfl rfl rfl ?_
                            refine o_T (y_is sl_78 rfl rfl (by omega) (by omega)) rfl ?_
                            refine o_take rfl rfl rfl ?_
                            refine o_T (y_fa fl_83_10 rfl) rfl ?_
                            refine o_take rfl rfl rfl ?_
                            refine o_ld one_3 rfl (ms m0) (Ed.l_state hO k (by omega) (by omega)) rfl ?_
                            refine o_take rfl rfl rfl ?_
                            refine o_T (y_neq rfl rfl) rfl ?_
                            refine o_T (y_pickT rfl rfl) rfl ?_
                            refine o_nil1 171 rfl rfl ?_
                            refine c_cond rfl (fun h225_2 => ?_) (fun h225_2 => ?_)
                            · try simp only [decide_eq_true_eq, decide_eq_false_iff_not, Bool.not_eq_true', Bool.not_eq_false', Int.not_lt, Int.not_le, Decidable.not_not, beq_iff_eq, bne_iff_ne, ne_eq, beq_eq_false_iff_ne] at h225_2
                              refine c_seq ?_
                              refine c_region ?_
                              refine o_L (y_assign rfl) rfl rfl ?_
                              refine o_nil0 rfl ?_
                              refine c_ret ?_
                              refine fun aX wX heX hsX => ret1 Tryz.results17 heX rfl (s_take (s_take s_nil)) ?_
                              exact ⟨congrArg Value.bool (nSettledB_no (k := k) (by omega) ((setOne_pair (p := p) (by omega) hpl (by omega) hpe (by rw [h206_1]; decide)).trans (by unfold setPair; rw [if_neg (not_not_intro h209)]; rw [if_neg (by rw [h212]; decide)]; rw [if_neg (by unfold setWant; split <;> omega)]; rw [if_neg (by rintro ⟨a, b, c⟩; first | (rw [h222] at a; cases a; done) | (exact h222_1 b; done) | (rw [h222_2] at c; cases c; done))]; first | exact if_pos ⟨h225, h225_1, h225_2⟩ | exact if_neg (by rintro ⟨a, b, c⟩; first | (rw [h225] at a; cases a; done) | (rw [h225_1] at b; cases b; done) | (exact c h225_2; done))))).symm, rfl⟩
                            · try simp only [decide_eq_true_eq, decide_eq_false_iff_not, Bool.not_eq_true', Bool.not_eq_false', Int.not_lt, Int.not_le, Decidable.not_not, beq_iff_eq, bne_iff_ne, ne_eq, beq_eq_false_iff_ne] at h225_2
                              refine c_skip ?_
                              refine c_region ?_
                              refine o_T (y_move rfl) rfl ?_
                              refine o_T (y_add rfl rfl (w64 (by omega))) rfl ?_
                              refine o_L (y_assign rfl) rfl rfl ?_
                              refine o_nil0 rfl ?_
                              refine ⟨(k + 1), ⟨⟨by omega, set_step g4 ((setOne_pair (p := p) (by omega) hpl (by omega) hpe (by rw [h206_1]; decide)).trans (by unfold setPair; rw [if_neg (not_not_intro h209)]; rw [if_neg (by rw [h212]; decide)]; rw [if_neg (by unfold setWant; split <;> omega)]; rw [if_neg (by rintro ⟨a, b, c⟩; first | (rw [h222] at a; cases a; done) | (exact h222_1 b; done) | (rw [h222_2] at c; cases c; done))]; first | exact if_pos ⟨h225, h225_1, h225_2⟩ | exact if_neg (by rintro ⟨a, b, c⟩; first | (rw [h225] at a; cases a; done) | (rw [h225_1] at b; cases b; done) | (exact c h225_2; done))))⟩, by first | omega | (dsimp only; omega)⟩, ⟨by first | rfl | exact gteI rfl (by omega), trivial⟩, ⟨rfl, rfl⟩, _, ((s_take (s_take s_nil)))⟩
                          · try simp only [decide_eq_true_eq, decide_eq_false_iff_not, Bool.not_eq_true', Bool.not_eq_false', Int.not_lt, Int.not_le, Decidable.not_not, beq_iff_eq, bne_iff_ne, ne_eq, beq_eq_false_iff_ne] at h225_1
                            refine o_pass rfl rfl rfl rfl rfl ?_
                            refine o_pass rfl rfl rfl rfl rfl ?_
                            refine o_pass rfl rfl rfl rfl rfl ?_
                            refine o_pass rfl rfl rfl rfl rfl ?_
                            refine o_pass rfl rfl rfl rfl rfl ?_
                            refine o_pass rfl rfl rfl rfl rfl ?_
                            refine o_pass rfl rfl rfl rfl rfl ?_
                            refine o_pass rfl rfl rfl rfl rfl ?_
                            refine o_pass rfl rfl rfl rfl rfl ?_
                            refine o_T (y_pickF rfl rfl) rfl ?_
                            refine o_nil1 171 rfl rfl ?_
                            refine c_condF rfl ?_
                            refine c_skip ?_
                            refine c_region ?_
                            refine o_T (y_move rfl) rfl ?_
                            refine o_T (y_add rfl rfl (w64 (by omega))) rfl ?_
                            refine o_L (y_assign rfl) rfl rfl ?_
                            refine o_nil0 rfl ?_
                            refine ⟨(k + 1), ⟨⟨by omega, set_step g4 ((setOne_pair (p := p) (by omega) hpl (by omega) hpe (by rw [h206_1]; decide)).trans (by unfold setPair; rw [if_neg (not_not_intro h209)]; rw [if_neg (by rw [h212]; decide)]; rw [if_neg (by unfold setWant; split <;> omega)]; rw [if_neg (by rintro ⟨a, b, c⟩; first | (rw [h222] at a; cases a; done) | (exact h222_1 b; done) | (rw [h222_2] at c; cases c; done))]; first | exact if_pos ⟨h225, h225_1, h225_2⟩ | exact if_neg (by rintro ⟨a, b, c⟩; first | (rw [h225] at a; cases a; done) | (rw [h225_1] at b; cases b; done) | (exact c h225_2; done))))⟩, by first | omega | (dsimp only; omega)⟩, ⟨by first | rfl | exact gteI rfl (by omega), trivial⟩, ⟨rfl, rfl⟩, _, ((s_take (s_take s_nil)))⟩
                        · try simp only [decide_eq_true_eq, decide_eq_false_iff_not, Bool.not_eq_true', Bool.not_eq_false', Int.not_lt, Int.not_le, Decidable.not_not, beq_iff_eq, bne_iff_ne, ne_eq, beq_eq_false_iff_ne] at h225
                          refine o_pass rfl rfl rfl rfl rfl ?_
                          refine o_pass rfl rfl rfl rfl rfl ?_
                          refine o_pass rfl rfl rfl rfl rfl ?_
                          refine o_pass rfl rfl rfl rfl rfl ?_
                          refine o_pass rfl rfl rfl rfl rfl ?_
                          refine o_pass rfl rfl rfl rfl rfl ?_
                          refine o_pass rfl rfl rfl rfl rfl ?_
                          refine o_pass rfl rfl rfl rfl rfl ?_
                          refine o_T (y_pickF rfl rfl) rfl ?_
                          refine o_T (y_move rfl) rfl ?_
                          refine o_pass rfl rfl rfl rfl rfl ?_
                          refine o_pass rfl rfl rfl rfl rfl ?_
                          refine o_pass rfl rfl rfl rfl rfl ?_
                          refine o_pass rfl rfl rfl rfl rfl ?_
                          refine o_pass rfl rfl rfl rfl rfl ?_
                          refine o_pass rfl rfl rfl rfl rfl ?_
                          refine o_pass rfl rfl rfl rfl rfl ?_
                          refine o_pass rfl rfl rfl rfl rfl ?_
                          refine o_pass rfl rfl rfl rfl rfl ?_
                          refine o_T (y_pickF rfl rfl) rfl ?_
                          refine o_nil1 171 rfl rfl ?_
                          refine c_condF rfl ?_
                          refine c_skip ?_
                          refine c_region ?_
                          refine o_T (y_move rfl) rfl ?_
                          refine o_T (y_add rfl rfl (w64 (by omega))) rfl ?_
                          refine o_L (y_assign rfl) rfl rfl ?_
                          refine o_nil0 rfl ?_
                          refine ⟨(k + 1), ⟨⟨by omega, set_step g4 ((setOne_pair (p := p) (by omega) hpl (by omega) hpe (by rw [h206_1]; decide)).trans (by unfold setPair; rw [if_neg (not_not_intro h209)]; rw [if_neg (by rw [h212]; decide)]; rw [if_neg (by unfold setWant; split <;> omega)]; rw [if_neg (by rintro ⟨a, b, c⟩; first | (rw [h222] at a; cases a; done) | (exact h222_1 b; done) | (rw [h222_2] at c; cases c; done))]; first | exact if_pos ⟨h225, h225_1, h225_2⟩ | exact if_neg (by rintro ⟨a, b, c⟩; first | (rw [h225] at a; cases a; done) | (rw [h225_1] at b; cases b; done) | (exact c h225_2; done))))⟩, by first | omega | (dsimp only; omega)⟩, ⟨by first | rfl | exact gteI rfl (by omega), trivial⟩, ⟨rfl, rfl⟩, _, ((s_take (s_take s_nil)))⟩
                    · try simp only [decide_eq_true_eq, decide_eq_false_iff_not, Bool.not_eq_true', Bool.not_eq_false', Int.not_lt, Int.not_le, Decidable.not_not, beq_iff_eq, bne_iff_ne, ne_eq, beq_eq_false_iff_ne] at h222
                      refine d_pass 9 rfl rfl rfl rfl rfl (by kernel_rfl) (fun x hx => hx) rfl ?_
                      refine d_pass 10 rfl rfl rfl rfl rfl (by kernel_rfl) (fun x hx => hx) rfl ?_
                      refine d_pass 11 rfl rfl rfl rfl rfl (by kernel_rfl) (fun x hx => hx) rfl ?_
                      refine d_pass 12 rfl rfl rfl rfl rfl (by kernel_rfl) (fun x hx => hx) rfl ?_
                      refine d_pass 13 rfl rfl rfl rfl rfl (by kernel_rfl) (fun x hx => hx) rfl ?_
                      refine d_pass 14 rfl rfl rfl rfl rfl (by kernel_rfl) (fun x hx => hx) rfl ?_
                      refine d_pass 15 rfl rfl rfl rfl rfl (by kernel_rfl) (fun x hx => hx) rfl ?_
                      refine d_pass 16 rfl rfl rfl rfl rfl (by kernel_rfl) (fun x hx => hx) rfl ?_
                      refine d_pass 17 rfl rfl rfl rfl rfl (by kernel_rfl) (fun x hx => hx) rfl ?_
                      refine d_pass 18 rfl rfl rfl rfl rfl (by kernel_rfl) (fun x hx => hx) rfl ?_
                      refine d_pass 19 rfl rfl rfl rfl rfl (by kernel_rfl) (fun x hx => hx) rfl ?_
                      refine d_pass 20 rfl rfl rfl rfl rfl (by kernel_rfl) (fun x hx => hx) rfl ?_
                      refine d_pass 21 rfl rfl rfl rfl rfl (by kernel_rfl) (fun x hx => hx) rfl ?_
                      refine d_pass 22 rfl rfl rfl rfl rfl (by kernel_rfl) (fun x hx => hx) rfl ?_
                      refine d_pass 23 rfl rfl rfl rfl rfl (by kernel_rfl) (fun x hx => hx) rfl ?_
                      refine d_pass 24 rfl rfl rfl rfl rfl (by kernel_rfl) (fun x hx => hx) rfl ?_
                      refine d_pass 25 rfl rfl rfl rfl rfl (by kernel_rfl) (fun x hx => hx) rfl ?_
                      refine d_pass 26 rfl rfl rfl rfl rfl (by kernel_rfl) (fun x hx => hx) rfl ?_
                      refine d_T 27 rfl (by kernel_rfl) rfl (y_pickF rfl rfl) rfl ?_
                      refine d_T 28 rfl (by kernel_rfl) rfl (y_move rfl) rfl ?_
                      refine d_pass 29 rfl rfl rfl rfl rfl (by kernel_rfl) (fun x hx => hx) rfl ?_
                      refine d_pass 30 rfl rfl rfl rfl rfl (by kernel_rfl) (fun x hx => hx) rfl ?_
                      refine d_pass 31 rfl rfl rfl rfl rfl (by kernel_rfl) (fun x hx => hx) rfl ?_
                      refine d_pass 32 rfl rfl rfl rfl rfl (by kernel_rfl) (fun x hx => hx) rfl ?_
                      refine d_pass 33 rfl rfl rfl rfl rfl (by kernel_rfl) (fun x hx => hx) rfl ?_
                      refine d_pass 34 rfl rfl rfl rfl rfl (by kernel_rfl) (fun x hx => hx) rfl ?_
                      refine d_pass 35 rfl rfl rfl rfl rfl (by kernel_rfl) (fun x hx => hx) rfl ?_
                      refine d_pass 36 rfl rfl rfl rfl rfl (by kernel_rfl) (fun x hx => hx) rfl ?_
                      refine d_pass 37 rfl rfl rfl rfl rfl (by kernel_rfl) (fun x hx => hx) rfl ?_
                      refine d_T 38 rfl (by kernel_rfl) rfl (y_pickF rfl rfl) rfl ?_
                      refine d_nil1 142 (by kernel_rfl) rfl rfl ?_
                      refine c_condF rfl ?_
                      refine c_skip ?_
                      refine c_seq ?_
                      refine c_region ?_
                      refine o_T (y_move rfl) rfl ?_
                      refine o_T (y_nilck rfl) rfl ?_
                      refine o_T (y_fa fl_80_0 rfl) rfl ?_
                      refine o_ld one_78 rfl m0 Nt.g0 rfl ?_
                      refine o_T (y_move rfl) rfl ?_
                      refine o_T (y_is sl_78 rfl rfl (by omega) (by omega)) rfl ?_
                      refine o_T (y_fa fl_83_13 rfl) rfl ?_
                      refine o_ld one_4 rfl (ms m0) (Ed.l_peerFin hO k (by omega) (by omega)) rfl ?_
                      refine o_T (y_move rfl) rfl ?_
                      refine o_split 151 rfl (fun h225 => ?_) (fun h225 => ?_)
                      · try simp only [decide_eq_true_eq, decide_eq_false_iff_not, Bool.not_eq_true', Bool.not_eq_false', Int.not_lt, Int.not_le, Decidable.not_not, beq_iff_eq, bne_iff_ne, ne_eq, beq_eq_false_iff_ne] at h225
                        refine o_take rfl rfl rfl ?_
                        refine o_T (y_move rfl) rfl ?_
                        refine o_take rfl rfl rfl ?_
                        refine o_T (y_nilck rfl) rfl ?_
                        refine o_take rfl rfl rfl ?_
                        refine o_T (y_fa fl_80_0 rfl) rfl ?_
                        refine o_take rfl rfl rfl ?_
                        refine o_ld one_78 rfl m0 Nt.g0 rfl ?_
                        refine o_take rfl rfl rfl ?_
                        refine o_T (y_move rfl) rfl ?_
                        refine o_take rfl rfl rfl ?_
                        refine o_T (y_is sl_78 rfl rfl (by omega) (by omega)) rfl ?_
                        refine o_take rfl rfl rfl ?_
                        refine o_T (y_fa fl_83_13 rfl) rfl ?_
                        refine o_take rfl rfl rfl ?_
                        refine o_ld one_4 rfl (ms m0) (Ed.l_peerFin hO p (by omega) (by omega)) rfl ?_
                        refine o_T (y_pickT rfl rfl) rfl ?_
                        refine o_T (y_move rfl) rfl ?_
                        refine o_split 161 rfl (fun h225_1 => ?_) (fun h225_1 => ?_)
                        · try simp only [decide_eq_true_eq, decide_eq_false_iff_not, Bool.not_eq_true', Bool.not_eq_false', Int.not_lt, Int.not_le, Decidable.not_not, beq_iff_eq, bne_iff_ne, ne_eq, beq_eq_false_iff_ne] at h225_1
                          refine o_take rfl rfl rfl ?_
                          refine o_T (y_move rfl) rfl ?_
                          refine o_take rfl rfl rfl ?_
                          refine o_T (y_nilck rfl) rfl ?_
                          refine o_take rfl rfl rfl ?_
                          refine o_T (y_fa fl_80_0 rfl) rfl ?_
                          refine o_take rfl rfl rfl ?_
                          refine o_ld one_78 rfl m0 Nt.g0 rfl ?_
                          refine o_take rfl rfl rfl ?_
                          refine o_T (y_move rfl) rfl ?_
                          refine o_take rfl rfl rfl ?_
                          refine o_T (y_is sl_78 rfl rfl (by omega) (by omega)) rfl ?_
                          refine o_take rfl rfl rfl ?_
                          refine o_T (y_fa fl_83_10 rfl) rfl ?_
                          refine o_take rfl rfl rfl ?_
                          refine o_ld one_3 rfl (ms m0) (Ed.l_state hO k (by omega) (by omega)) rfl ?_
                          refine o_take rfl rfl rfl ?_
                          refine o_T (y_neq rfl rfl) rfl ?_
                          refine o_T (y_pickT rfl rfl) rfl ?_
                          refine o_nil1 171 rfl rfl ?_
                          refine c_cond rfl (fun h225_2 => ?_) (fun h225_2 => ?_)
                          · try simp only [decide_eq_true_eq, decide_eq_false_iff_not, Bool.not_eq_true', Bool.not_eq_false', Int.not_lt, Int.not_le, Decidable.not_not, beq_iff_eq, bne_iff_ne, ne_eq, beq_eq_false_iff_ne] at h225_2
                            refine c_seq ?_
                            refine c_region ?_
                            refine o_L (y_assign rfl) rfl rfl ?_
                            refine o_nil0 rfl ?_
                            refine c_ret ?_
                            refine fun aX wX heX hsX => ret1 Tryz.results17 heX rfl (s_take (s_take s_nil)) ?_
                            exact ⟨congrArg Value.bool (nSettledB_no (k := k) (by omega) ((setOne_pair (p := p) (by omega) hpl (by omega) hpe (by rw [h206_1]; decide)).trans (by unfold setPair; rw [if_neg (not_not_intro h209)]; rw [if_neg (by rw [h212]; decide)]; rw [if_neg (by unfold setWant; split <;> omega)]; rw [if_neg (by rintro ⟨a, b, c⟩; first | (rw [h222] at a; cases a; done) | (exact h222_1 b; done) | (rw [h222_2] at c; cases c; done))]; first | exact if_pos ⟨h225, h225_1, h225_2⟩ | exact if_neg (by rintro ⟨a, b, c⟩; first | (rw [h225] at a; cases a; done) | (rw [h225_1] at b; cases b; done) | (exact c h225_2; done))))).symm, rfl⟩
                          · try simp only [decide_eq_true_eq, decide_eq_false_iff_not, Bool.not_eq_true', Bool.not_eq_false', Int.not_lt, Int.not_le, Decidable.not_not, beq_iff_eq, bne_iff_ne, ne_eq, beq_eq_false_iff_ne] at h225_2
                            refine c_skip ?_
                            refine c_region ?_
                            refine o_T (y_move rfl) rfl ?_
                            refine o_T (y_add rfl rfl (w64 (by omega))) rfl ?_
                            refine o_L (y_assign rfl) rfl rfl ?_
                            refine o_nil0 rfl ?_
                            refine ⟨(k + 1), ⟨⟨by omega, set_step g4 ((setOne_pair (p := p) (by omega) hpl (by omega) hpe (by rw [h206_1]; decide)).trans (by unfold setPair; rw [if_neg (not_not_intro h209)]; rw [if_neg (by rw [h212]; decide)]; rw [if_neg (by unfold setWant; split <;> omega)]; rw [if_neg (by rintro ⟨a, b, c⟩; first | (rw [h222] at a; cases a; done) | (exact h222_1 b; done) | (rw [h222_2] at c; cases c; done))]; first | exact if_pos ⟨h225, h225_1, h225_2⟩ | exact if_neg (by rintro ⟨a, b, c⟩; first | (rw [h225] at a; cases a; done) | (rw [h225_1] at b; cases b; done) | (exact c h225_2; done))))⟩, by first | omega | (dsimp only; omega)⟩, ⟨by first | rfl | exact gteI rfl (by omega), trivial⟩, ⟨rfl, rfl⟩, _, ((s_take (s_take s_nil)))⟩
                        · try simp only [decide_eq_true_eq, decide_eq_false_iff_not, Bool.not_eq_true', Bool.not_eq_false', Int.not_lt, Int.not_le, Decidable.not_not, beq_iff_eq, bne_iff_ne, ne_eq, beq_eq_false_iff_ne] at h225_1
                          refine o_pass rfl rfl rfl rfl rfl ?_
                          refine o_pass rfl rfl rfl rfl rfl ?_
                          refine o_pass rfl rfl rfl rfl rfl ?_
                          refine o_pass rfl rfl rfl rfl rfl ?_
                          refine o_pass rfl rfl rfl rfl rfl ?_
                          refine o_pass rfl rfl rfl rfl rfl ?_
                          refine o_pass rfl rfl rfl rfl rfl ?_
                          refine o_pass rfl rfl rfl rfl rfl ?_
                          refine o_pass rfl rfl rfl rfl rfl ?_
                          refine o_T (y_pickF rfl rfl) rfl ?_
                          refine o_nil1 171 rfl rfl ?_
                          refine c_condF rfl ?_
                          refine c_skip ?_
                          refine c_region ?_
                          refine o_T (y_move rfl) rfl ?_
                          refine o_T (y_add rfl rfl (w64 (by omega))) rfl ?_
                          refine o_L (y_assign rfl) rfl rfl ?_
                          refine o_nil0 rfl ?_
                          refine ⟨(k + 1), ⟨⟨by omega, set_step g4 ((setOne_pair (p := p) (by omega) hpl (by omega) hpe (by rw [h206_1]; decide)).trans (by unfold setPair; rw [if_neg (not_not_intro h209)]; rw [if_neg (by rw [h212]; decide)]; rw [if_neg (by unfold setWant; split <;> omega)]; rw [if_neg (by rintro ⟨a, b, c⟩; first | (rw [h222] at a; cases a; done) | (exact h222_1 b; done) | (rw [h222_2] at c; cases c; done))]; first | exact if_pos ⟨h225, h225_1, h225_2⟩ | exact if_neg (by rintro ⟨a, b, c⟩; first | (rw [h225] at a; cases a; done) | (rw [h225_1] at b; cases b; done) | (exact c h225_2; done))))⟩, by first | omega | (dsimp only; omega)⟩, ⟨by first | rfl | exact gteI rfl (by omega), trivial⟩, ⟨rfl, rfl⟩, _, ((s_take (s_take s_nil)))⟩
                      · try simp only [decide_eq_true_eq, decide_eq_false_iff_not, Bool.not_eq_true', Bool.not_eq_false', Int.not_lt, Int.not_le, Decidable.not_not, beq_iff_eq, bne_iff_ne, ne_eq, beq_eq_false_iff_ne] at h225
                        refine o_pass rfl rfl rfl rfl rfl ?_
                        refine o_pass rfl rfl rfl rfl rfl ?_
                        refine o_pass rfl rfl rfl rfl rfl ?_
                        refine o_pass rfl rfl rfl rfl rfl ?_
                        refine o_pass rfl rfl rfl rfl rfl ?_
                        refine o_pass rfl rfl rfl rfl rfl ?_
                        refine o_pass rfl rfl rfl rfl rfl ?_
                        refine o_pass rfl rfl rfl rfl rfl ?_
                        refine o_T (y_pickF rfl rfl) rfl ?_
                        refine o_T (y_move rfl) rfl ?_
                        refine o_pass rfl rfl rfl rfl rfl ?_
                        refine o_pass rfl rfl rfl rfl rfl ?_
                        refine o_pass rfl rfl rfl rfl rfl ?_
                        refine o_pass rfl rfl rfl rfl rfl ?_
                        refine o_pass rfl rfl rfl rfl rfl ?_
                        refine o_pass rfl rfl rfl rfl rfl ?_
                        refine o_pass rfl rfl rfl rfl rfl ?_
                        refine o_pass rfl rfl rfl rfl rfl ?_
                        refine o_pass rfl rfl rfl rfl rfl ?_
                        refine o_T (y_pickF rfl rfl) rfl ?_
                        refine o_nil1 171 rfl rfl ?_
                        refine c_condF rfl ?_
                        refine c_skip ?_
                        refine c_region ?_
                        refine o_T (y_move rfl) rfl ?_
                        refine o_T (y_add rfl rfl (w64 (by omega))) rfl ?_
                        refine o_L (y_assign rfl) rfl rfl ?_
                        refine o_nil0 rfl ?_
                        refine ⟨(k + 1), ⟨⟨by omega, set_step g4 ((setOne_pair (p := p) (by omega) hpl (by omega) hpe (by rw [h206_1]; decide)).trans (by unfold setPair; rw [if_neg (not_not_intro h209)]; rw [if_neg (by rw [h212]; decide)]; rw [if_neg (by unfold setWant; split <;> omega)]; rw [if_neg (by rintro ⟨a, b, c⟩; first | (rw [h222] at a; cases a; done) | (exact h222_1 b; done) | (rw [h222_2] at c; cases c; done))]; first | exact if_pos ⟨h225, h225_1, h225_2⟩ | exact if_neg (by rintro ⟨a, b, c⟩; first | (rw [h225] at a; cases a; done) | (rw [h225_1] at b; cases b; done) | (exact c h225_2; done))))⟩, by first | omega | (dsimp only; omega)⟩, ⟨by first | rfl | exact gteI rfl (by omega), trivial⟩, ⟨rfl, rfl⟩, _, ((s_take (s_take s_nil)))⟩
  · try simp only [decide_eq_true_eq, decide_eq_false_iff_not, Bool.not_eq_true', Bool.not_eq_false', Int.not_lt, Int.not_le, Decidable.not_not, beq_iff_eq, bne_iff_ne, ne_eq, beq_eq_false_iff_ne] at h201
    refine c_exit ?_
    refine c_seq ?_
    refine c_region ?_
    refine o_L (y_assign rfl) rfl rfl ?_
    refine o_nil0 rfl ?_
    refine c_ret ?_
    refine fun aX wX heX hsX => ret1 Tryz.results17 heX rfl (s_take (s_take s_nil)) ?_
    exact ⟨congrArg Value.bool (nSettledB_yes (k := k) (by omega) g4).symm, rfl⟩

end Go.Proofs.Qxb6500351aGreat
