/- MADE BY PROGRAM (tools/gen.py over tools/specs351.py): walks. -/
import Derived.Test.Qxb6500351aGreatFacts
import Derived.Test.Qxb6500351aGreatW52
set_option linter.unusedVariables false
set_option linter.unusedSimpArgs false
namespace Go.Proofs.Qxb6500351aGreat
open Go.Eng
set_option maxRecDepth 20000
set_option maxHeartbeats 4000000
/-- (*e2e/hostm.Net).Find -/
theorem t70 (b : Nat) (v : Value) (l : List Ned) (gv gd : List Chunk) (dl : Nat → Int) (hs sd : Int) (hn : LstN 83 16 edR v l gv gd) : Trip Tryz.prog 70 #[.pointer (some ⟨b, 0, none⟩), .int .i64 hs, .int .i64 sd] [[(b, .cells (Nt.mk v dl).enc 80 (0, 0))], gv] (fun u S' => u = .int .i64 (nFind l hs sd) ∧ S' = [[(b, .cells (Nt.mk v dl).enc 80 (0, 0))], gv]) := by
  have hln := lstN_bnd hn
  obtain ⟨pw, cw, hvw⟩ := hn.slice
  subst hvw
  refine fn_entry (args := [.pointer (some ⟨b, 0, none⟩), .int .i64 hs, .int .i64 sd]) Tryz.func70 rfl Tryz.ntmps70 rfl (fun w0 => ?_)
  refine c_seq ?_
  refine c_region ?_
  refine o_L (y_assign rfl) rfl rfl ?_
  refine o_nil0 rfl ?_
  refine c_seq ?_
  refine c_seq ?_
  refine c_region ?_
  refine o_L (y_assign rfl) rfl rfl ?_
  refine o_nil0 rfl ?_
  refine c_block ?_
  refine c_loopG (ι := Nat) (fun i => [(7, .int .i64 (i : Int))]) (fun i => []) (fun i => i ≤ l.length ∧ ∀ x ∈ l.take i, ¬ (x.host = hs ∧ x.sd = sd)) (fun i => l.length - i) 0 (by exact ⟨by omega, by simp⟩) ⟨by first | rfl | exact gteI rfl (by omega), trivial⟩ (s_take (s_take s_nil)) ?_
  rintro k ⟨g3, g4⟩
  try dsimp only [List.cons_append, List.nil_append] at *
  refine c_seq ?_
  refine c_seq ?_
  refine c_region ?_
  refine o_T (y_move rfl) rfl ?_
  refine o_T (y_move rfl) rfl ?_
  refine o_T (y_nilck rfl) rfl ?_
  refine o_T (y_fa fl_80_0 rfl) rfl ?_
  refine o_ld one_78 rfl m0 Nt.g0 rfl ?_
  refine o_T (y_len Tryz.underlying78 rfl) rfl ?_
  refine o_T (y_lss rfl rfl) rfl ?_
  refine o_nil1 14 rfl rfl ?_
  refine c_cond rfl (fun h31 => ?_) (fun h31 => ?_)
  · try simp only [decide_eq_true_eq, decide_eq_false_iff_not, Bool.not_eq_true', Bool.not_eq_false', Int.not_lt, Int.not_le, Decidable.not_not, beq_iff_eq, bne_iff_ne, ne_eq, beq_eq_false_iff_ne] at h31
    refine c_skip ?_
    refine c_seq ?_
    refine c_block ?_
    refine c_seq ?_
    obtain ⟨bw, cpw, cur, hv2, hg2, hO⟩ := (hn.lst (by omega)).open
    injection hv2 with e1 e2 e3
    subst e1 e3 hg2
    refine c_region ?_
    refine o_T (y_move rfl) rfl ?_
    refine o_T (y_nilck rfl) rfl ?_
    refine o_T (y_fa fl_80_0 rfl) rfl ?_
    refine o_ld one_78 rfl m0 Nt.g0 rfl ?_
    refine o_T (y_move rfl) rfl ?_
    refine o_T (y_is sl_78 rfl rfl (by omega) (by omega)) rfl ?_
    refine o_T (y_fa fl_83_0 rfl) rfl ?_
    refine o_ld one_3 rfl (ms m0) (Ed.l_host hO k (by omega) (by omega)) rfl ?_
    refine o_T (y_move rfl) rfl ?_
    refine o_T (y_eql rfl rfl) rfl ?_
    refine o_T (y_move rfl) rfl ?_
    refine o_split 27 rfl (fun h32 => ?_) (fun h32 => ?_)
    · try simp only [decide_eq_true_eq, decide_eq_false_iff_not, Bool.not_eq_true', Bool.not_eq_false', Int.not_lt, Int.not_le, Decidable.not_not, beq_iff_eq, bne_iff_ne, ne_eq, beq_eq_false_iff_ne] at h32
      refine o_take rfl rfl rfl ?_
      refine o_T (y_move rfl) rfl ?_
      refine o_take rfl rfl rfl ?_
      refine o_T (y_nilck rfl) rfl ?_
      refine o_take rfl rfl rfl ?_
      refine o_T (y_fa fl_80_0 rfl) rfl ?_
      refine o_take rfl rfl rfl ?_
      refine o_ld one_78 rfl m0 Nt.g0 rfl ?_
      refine o_take rfl rfl rfl ?_
      refine o_T (y_move rfl) rfl ?_
      refine o_take rfl rfl rfl ?_
      refine o_T (y_is sl_78 rfl rfl (by omega) (by omega)) rfl ?_
      refine o_take rfl rfl rfl ?_
      refine o_T (y_fa fl_83_1 rfl) rfl ?_
      refine o_take rfl rfl rfl ?_
      refine o_ld one_3 rfl (ms m0) (Ed.l_sd hO k (by omega) (by omega)) rfl ?_
      refine o_take rfl rfl rfl ?_
      refine o_T (y_move rfl) rfl ?_
      refine o_take rfl rfl rfl ?_
      refine o_T (y_eql rfl rfl) rfl ?_
      refine o_T (y_pickT rfl rfl) rfl ?_
      refine o_nil1 38 rfl rfl ?_
      refine c_cond rfl (fun h32_1 => ?_) (fun h32_1 => ?_)
      · try simp only [decide_eq_true_eq, decide_eq_false_iff_not, Bool.not_eq_true', Bool.not_eq_false', Int.not_lt, Int.not_le, Decidable.not_not, beq_iff_eq, bne_iff_ne, ne_eq, beq_eq_false_iff_ne] at h32_1
        refine c_seq ?_
        refine c_region ?_
        refine o_T (y_move rfl) rfl ?_
        refine o_L (y_assign rfl) rfl rfl ?_
        refine o_nil0 rfl ?_
        refine c_ret ?_
        refine fun aX wX heX hsX => ret1 Tryz.results70 heX rfl (s_take (s_take s_nil)) ?_
        exact ⟨congrArg (Value.int .i64) (nFind_at g4 (by omega) ⟨by assumption, by assumption⟩).symm, rfl⟩
      · try simp only [decide_eq_true_eq, decide_eq_false_iff_not, Bool.not_eq_true', Bool.not_eq_false', Int.not_lt, Int.not_le, Decidable.not_not, beq_iff_eq, bne_iff_ne, ne_eq, beq_eq_false_iff_ne] at h32_1
        refine c_skip ?_
        refine c_region ?_
        refine o_T (y_move rfl) rfl ?_
        refine o_T (y_add rfl rfl (w64 (by omega))) rfl ?_
        refine o_L (y_assign rfl) rfl rfl ?_
        refine o_nil0 rfl ?_
        refine ⟨(k + 1), ⟨⟨by omega, take_step (P := (fun x : Ned => ¬ (x.host = hs ∧ x.sd = sd))) g4 (by omega) (by omega)⟩, by first | omega | (dsimp only; omega)⟩, ⟨by first | rfl | exact gteI rfl (by omega), trivial⟩, ⟨rfl, rfl⟩, _, ((s_take (s_take s_nil)))⟩
    · try simp only [decide_eq_true_eq, decide_eq_false_iff_not, Bool.not_eq_true', Bool.not_eq_false', Int.not_lt, Int.not_le, Decidable.not_not, beq_iff_eq, bne_iff_ne, ne_eq, beq_eq_false_iff_ne] at h32
      refine o_pass rfl rfl rfl rfl rfl ?_
      refine o_pass rfl rfl rfl rfl rfl ?_
      refine o_pass rfl rfl rfl rfl rfl ?_
      refine o_pass rfl rfl rfl rfl rfl ?_
      refine o_pass rfl rfl rfl rfl rfl ?_
      refine o_pass rfl rfl rfl rfl rfl ?_
      refine o_pass rfl rfl rfl rfl rfl ?_
      refine o_pass rfl rfl rfl rfl rfl ?_
      refine o_pass rfl rfl rfl rfl rfl ?_
      refine o_pass rfl rfl rfl rfl rfl ?_
      refine o_T (y_pickF rfl rfl) rfl ?_
      refine o_nil1 38 rfl rfl ?_
      refine c_condF rfl ?_
      refine c_skip ?_
      refine c_region ?_
      refine o_T (y_move rfl) rfl ?_
      refine o_T (y_add rfl rfl (w64 (by omega))) rfl ?_
      refine o_L (y_assign rfl) rfl rfl ?_
      refine o_nil0 rfl ?_
      refine ⟨(k + 1), ⟨⟨by omega, take_step (P := (fun x : Ned => ¬ (x.host = hs ∧ x.sd = sd))) g4 (by omega) (by omega)⟩, by first | omega | (dsimp only; omega)⟩, ⟨by first | rfl | exact gteI rfl (by omega), trivial⟩, ⟨rfl, rfl⟩, _, ((s_take (s_take s_nil)))⟩
  · try simp only [decide_eq_true_eq, decide_eq_false_iff_not, Bool.not_eq_true', Bool.not_eq_false', Int.not_lt, Int.not_le, Decidable.not_not, beq_iff_eq, bne_iff_ne, ne_eq, beq_eq_false_iff_ne] at h31
    refine c_exit ?_
    refine c_seq ?_
    refine c_region ?_
    refine o_L (y_assign rfl) rfl rfl ?_
    refine o_nil0 rfl ?_
    refine c_ret ?_
    refine fun aX wX heX hsX => ret1 Tryz.results70 heX rfl (s_take (s_take s_nil)) ?_
    exact ⟨congrArg (Value.int .i64) (nFind_none (take_all g4 (by omega))).symm, rfl⟩

/-- (*e2e/hostm.Net).AllGone -/
theorem t57 (b : Nat) (v : Value) (l : List Ned) (gv gd : List Chunk) (dl : Nat → Int) (hn : LstN 83 16 edR v l gv gd) : Trip Tryz.prog 57 #[.pointer (some ⟨b, 0, none⟩)] [[(b, .cells (Nt.mk v dl).enc 80 (0, 0))], gv] (fun u S' => u = .bool (nAllGone l) ∧ S' = [[(b, .cells (Nt.mk v dl).enc 80 (0, 0))], gv]) := by
  have hln := lstN_bnd hn
  obtain ⟨pw, cw, hvw⟩ := hn.slice
  subst hvw
  refine fn_entry (args := [.pointer (some ⟨b, 0, none⟩)]) Tryz.func57 rfl Tryz.ntmps57 rfl (fun w0 => ?_)
  refine c_seq ?_
  refine c_region ?_
  refine o_L (y_assign rfl) rfl rfl ?_
  refine o_nil0 rfl ?_
  refine c_seq ?_
  refine c_seq ?_
  refine c_region ?_
  refine o_L (y_assign rfl) rfl rfl ?_
  refine o_nil0 rfl ?_
  refine c_block ?_
  refine c_loopG (ι := Nat) (fun i => [(3, .int .i64 (i : Int))]) (fun i => []) (fun i => i ≤ l.length ∧ ∀ x ∈ l.take i, (fun x : Ned => x.gone) x = true) (fun i => l.length - i) 0 (by exact ⟨by omega, by simp⟩) ⟨by first | rfl | exact gteI rfl (by omega), trivial⟩ (s_take (s_take s_nil)) ?_
  rintro k ⟨g3, g4⟩
  try dsimp only [List.cons_append, List.nil_append] at *
  refine c_seq ?_
  refine c_seq ?_
  refine c_region ?_
  refine o_T (y_move rfl) rfl ?_
  refine o_T (y_move rfl) rfl ?_
  refine o_T (y_nilck rfl) rfl ?_
  refine o_T (y_fa fl_80_0 rfl) rfl ?_
  refine o_ld one_78 rfl m0 Nt.g0 rfl ?_
  refine o_T (y_len Tryz.underlying78 rfl) rfl ?_
  refine o_T (y_lss rfl rfl) rfl ?_
  refine o_nil1 10 rfl rfl ?_
  refine c_cond rfl (fun h191 => ?_) (fun h191 => ?_)
  · try simp only [decide_eq_true_eq, decide_eq_false_iff_not, Bool.not_eq_true', Bool.not_eq_false', Int.not_lt, Int.not_le, Decidable.not_not, beq_iff_eq, bne_iff_ne, ne_eq, beq_eq_false_iff_ne] at h191
    refine c_skip ?_
    refine c_seq ?_
    refine c_block ?_
    refine c_seq ?_
    obtain ⟨bw, cpw, cur, hv2, hg2, hO⟩ := (hn.lst (by omega)).open
    injection hv2 with e1 e2 e3
    subst e1 e3 hg2
    refine c_region ?_
    refine o_T (y_move rfl) rfl ?_
    refine o_T (y_nilck rfl) rfl ?_
    refine o_T (y_fa fl_80_0 rfl) rfl ?_
    refine o_ld one_78 rfl m0 Nt.g0 rfl ?_
    refine o_T (y_move rfl) rfl ?_
    refine o_T (y_is sl_78 rfl rfl (by omega) (by omega)) rfl ?_
    refine o_T (y_fa fl_83_15 rfl) rfl ?_
    refine o_ld one_4 rfl (ms m0) (Ed.l_gone hO k (by omega) (by omega)) rfl ?_
    refine o_T (y_not rfl) rfl ?_
    refine o_nil1 21 rfl rfl ?_
    refine c_cond rfl (fun h192 => ?_) (fun h192 => ?_)
    · try simp only [decide_eq_true_eq, decide_eq_false_iff_not, Bool.not_eq_true', Bool.not_eq_false', Int.not_lt, Int.not_le, Decidable.not_not, beq_iff_eq, bne_iff_ne, ne_eq, beq_eq_false_iff_ne] at h192
      refine c_seq ?_
      refine c_region ?_
      refine o_L (y_assign rfl) rfl rfl ?_
      refine o_nil0 rfl ?_
      refine c_ret ?_
      refine fun aX wX heX hsX => ret1 Tryz.results57 heX rfl (s_take (s_take s_nil)) ?_
      exact ⟨congrArg Value.bool (all_not (k := k) (by omega) (by simpa using h192)).symm, rfl⟩
    · try simp only [decide_eq_true_eq, decide_eq_false_iff_not, Bool.not_eq_true', Bool.not_eq_false', Int.not_lt, Int.not_le, Decidable.not_not, beq_iff_eq, bne_iff_ne, ne_eq, beq_eq_false_iff_ne] at h192
      refine c_skip ?_
      refine c_region ?_
      refine o_T (y_move rfl) rfl ?_
      refine o_T (y_add rfl rfl (w64 (by omega))) rfl ?_
      refine o_L (y_assign rfl) rfl rfl ?_
      refine o_nil0 rfl ?_
      refine ⟨(k + 1), ⟨⟨by omega, take_step (P := fun x : Ned => x.gone = true) g4 (by omega) (by simpa using h192)⟩, by first | omega | (dsimp only; omega)⟩, ⟨by first | rfl | exact gteI rfl (by omega), trivial⟩, ⟨rfl, rfl⟩, _, ((s_take (s_take s_nil)))⟩
  · try simp only [decide_eq_true_eq, decide_eq_false_iff_not, Bool.not_eq_true', Bool.not_eq_false', Int.not_lt, Int.not_le, Decidable.not_not, beq_iff_eq, bne_iff_ne, ne_eq, beq_eq_false_iff_ne] at h191
    refine c_exit ?_
    refine c_seq ?_
    refine c_region ?_
    refine o_L (y_assign rfl) rfl rfl ?_
    refine o_nil0 rfl ?_
    refine c_ret ?_
    refine fun aX wX heX hsX => ret1 Tryz.results57 heX rfl (s_take (s_take s_nil)) ?_
    exact ⟨congrArg Value.bool (all_yes (take_all g4 (by omega))).symm, rfl⟩

/-- (*e2e/hostm.Net).NoneFailed -/
theorem t19 (b : Nat) (v : Value) (l : List Ned) (gv gd : List Chunk) (dl : Nat → Int) (hn : LstN 83 16 edR v l gv gd) : Trip Tryz.prog 19 #[.pointer (some ⟨b, 0, none⟩)] [[(b, .cells (Nt.mk v dl).enc 80 (0, 0))], gv] (fun u S' => u = .bool (nNoneFailed l) ∧ S' = [[(b, .cells (Nt.mk v dl).enc 80 (0, 0))], gv]) := by
  have hln := lstN_bnd hn
  obtain ⟨pw, cw, hvw⟩ := hn.slice
  subst hvw
  refine fn_entry (args := [.pointer (some ⟨b, 0, none⟩)]) Tryz.func19 rfl Tryz.ntmps19 rfl (fun w0 => ?_)
  refine c_seq ?_
  refine c_region ?_
  refine o_L (y_assign rfl) rfl rfl ?_
  refine o_nil0 rfl ?_
  refine c_seq ?_
  refine c_seq ?_
  refine c_region ?_
  refine o_L (y_assign rfl) rfl rfl ?_
  refine o_nil0 rfl ?_
  refine c_block ?_
  refine c_loopG (ι := Nat) (fun i => [(3, .int .i64 (i : Int))]) (fun i => []) (fun i => i ≤ l.length ∧ ∀ x ∈ l.take i, (fun x : Ned => !x.failed) x = true) (fun i => l.length - i) 0 (by exact ⟨by omega, by simp⟩) ⟨by first | rfl | exact gteI rfl (by omega), trivial⟩ (s_take (s_take s_nil)) ?_
  rintro k ⟨g3, g4⟩
  try dsimp only [List.cons_append, List.nil_append] at *
  refine c_seq ?_
  refine c_seq ?_
  refine c_region ?_
  refine o_T (y_move rfl) rfl ?_
  refine o_T (y_move rfl) rfl ?_
  refine o_T (y_nilck rfl) rfl ?_
  refine o_T (y_fa fl_80_0 rfl) rfl ?_
  refine o_ld one_78 rfl m0 Nt.g0 rfl ?_
  refine o_T (y_len Tryz.underlying78 rfl) rfl ?_
  refine o_T (y_lss rfl rfl) rfl ?_
  refine o_nil1 10 rfl rfl ?_
  refine c_cond rfl (fun h182 => ?_) (fun h182 => ?_)
  · try simp only [decide_eq_true_eq, decide_eq_false_iff_not, Bool.not_eq_true', Bool.not_eq_false', Int.not_lt, Int.not_le, Decidable.not_not, beq_iff_eq, bne_iff_ne, ne_eq, beq_eq_false_iff_ne] at h182
    refine c_skip ?_
    refine c_seq ?_
    refine c_block ?_
    refine c_seq ?_
    refine c_region ?_
    refine o_T (y_move rfl) rfl ?_
    refine o_T (y_move rfl) rfl ?_
    refine o_callrv en_54 rfl (t54 _ _ _ _ _ _ _ (by assumption) (by omega)) (s_take (s_take s_nil)) rfl ?_
    refine o_nil1 15 rfl rfl ?_
    refine c_cond rfl (fun h183 => ?_) (fun h183 => ?_)
    · try simp only [decide_eq_true_eq, decide_eq_false_iff_not, Bool.not_eq_true', Bool.not_eq_false', Int.not_lt, Int.not_le, Decidable.not_not, beq_iff_eq, bne_iff_ne, ne_eq, beq_eq_false_iff_ne] at h183
      refine c_seq ?_
      refine c_region ?_
      refine o_L (y_assign rfl) rfl rfl ?_
      refine o_nil0 rfl ?_
      refine c_ret ?_
      refine fun aX wX heX hsX => ret1 Tryz.results19 heX rfl (s_take (s_take s_nil)) ?_
      exact ⟨congrArg Value.bool (all_not (k := k) (by omega) (by simpa using h183)).symm, rfl⟩
    · try simp only [decide_eq_true_eq, decide_eq_false_iff_not, Bool.not_eq_true', Bool.not_eq_false', Int.not_lt, Int.not_le, Decidable.not_not, beq_iff_eq, bne_iff_ne, ne_eq, beq_eq_false_iff_ne] at h183
      refine c_skip ?_
      refine c_region ?_
      refine o_T (y_move rfl) rfl ?_
      refine o_T (y_add rfl rfl (w64 (by omega))) rfl ?_
      refine o_L (y_assign rfl) rfl rfl ?_
      refine o_nil0 rfl ?_
      refine ⟨(k + 1), ⟨⟨by omega, take_step (P := fun x : Ned => (!x.failed) = true) g4 (by omega) (by simpa using h183)⟩, by first | omega | (dsimp only; omega)⟩, ⟨by first | rfl | exact gteI rfl (by omega), trivial⟩, ⟨rfl, rfl⟩, _, ((s_take (s_take s_nil)))⟩
  · try simp only [decide_eq_true_eq, decide_eq_false_iff_not, Bool.not_eq_true', Bool.not_eq_false', Int.not_lt, Int.not_le, Decidable.not_not, beq_iff_eq, bne_iff_ne, ne_eq, beq_eq_false_iff_ne] at h182
    refine c_exit ?_
    refine c_seq ?_
    refine c_region ?_
    refine o_L (y_assign rfl) rfl rfl ?_
    refine o_nil0 rfl ?_
    refine c_ret ?_
    refine fun aX wX heX hsX => ret1 Tryz.results19 heX rfl (s_take (s_take s_nil)) ?_
    exact ⟨congrArg Value.bool (all_yes (take_all g4 (by omega))).symm, rfl⟩

end Go.Proofs.Qxb6500351aGreat
