/- MADE BY PROGRAM (tools/gen.py over tools/specs351.py): walks. -/
import Derived.Test.Qxb6500351aGreatFacts
import Derived.Test.Qxb6500351aGreatMd17
import Derived.Test.Qxb6500351aGreatW50
set_option linter.unusedVariables false
set_option linter.unusedSimpArgs false
namespace Go.Proofs.Qxb6500351aGreat
open Go.Eng
set_option maxRecDepth 20000
set_option maxHeartbeats 4000000
/-- (*e2e/hostm.Net).has -/
theorem t76 (b : Nat) (v : Value) (l : List Ned) (gv gd : List Chunk) (dl : Nat → Int) (i : Int) (hn : LstN 83 16 edR v l gv gd) : Trip Tryz.prog 76 #[.pointer (some ⟨b, 0, none⟩), .int .i64 i] [[(b, .cells (Nt.mk v dl).enc 80 (0, 0))]] (fun u S' => u = .bool (nHas l i) ∧ S' = [[(b, .cells (Nt.mk v dl).enc 80 (0, 0))]]) := by
  obtain ⟨pw, cw, hvw⟩ := hn.slice
  subst hvw
  refine fn_entry (args := [.pointer (some ⟨b, 0, none⟩), .int .i64 i]) Tryz.func76 rfl Tryz.ntmps76 rfl (fun w0 => ?_)
  refine c_seq ?_
  refine c_region ?_
  refine o_L (y_assign rfl) rfl rfl ?_
  refine o_nil0 rfl ?_
  refine c_seq ?_
  refine c_region ?_
  refine o_T (y_move rfl) rfl ?_
  refine o_T (y_geq rfl rfl) rfl ?_
  refine o_T (y_move rfl) rfl ?_
  refine o_split 7 rfl (fun h40 => ?_) (fun h40 => ?_)
  · try simp only [decide_eq_true_eq, decide_eq_false_iff_not, Bool.not_eq_true', Bool.not_eq_false', Int.not_lt, Int.not_le, Decidable.not_not, beq_iff_eq, bne_iff_ne, ne_eq, beq_eq_false_iff_ne] at h40
    refine o_take rfl rfl rfl ?_
    refine o_T (y_move rfl) rfl ?_
    refine o_take rfl rfl rfl ?_
    refine o_T (y_move rfl) rfl ?_
    refine o_take rfl rfl rfl ?_
    refine o_T (y_nilck rfl) rfl ?_
    refine o_take rfl rfl rfl ?_
    refine o_T (y_fa fl_80_0 rfl) rfl ?_
    refine o_take rfl rfl rfl ?_
    refine o_ld one_78 rfl m0 Nt.g0 rfl ?_
    refine o_take rfl rfl rfl ?_
    refine o_T (y_len Tryz.underlying78 rfl) rfl ?_
    refine o_take rfl rfl rfl ?_
    refine o_T (y_lss rfl rfl) rfl ?_
    refine o_T (y_pickT rfl rfl) rfl ?_
    refine o_L (y_assign rfl) rfl rfl ?_
    refine o_nil0 rfl ?_
    refine c_ret ?_
    refine fun aX wX heX hsX => ret1 Tryz.results76 heX rfl (s_take s_nil) ?_
    exact ⟨congrArg Value.bool (by unfold nHas; (repeat' split) <;> rw [Bool.eq_iff_iff] <;> (try simp only [decide_eq_true_eq, Bool.and_eq_true, Bool.or_eq_true, Bool.false_eq_true, false_iff, true_iff, or_false, and_false, decide_eq_false_iff_not]) <;> omega), rfl⟩
  · try simp only [decide_eq_true_eq, decide_eq_false_iff_not, Bool.not_eq_true', Bool.not_eq_false', Int.not_lt, Int.not_le, Decidable.not_not, beq_iff_eq, bne_iff_ne, ne_eq, beq_eq_false_iff_ne] at h40
    refine o_pass rfl rfl rfl rfl rfl ?_
    refine o_pass rfl rfl rfl rfl rfl ?_
    refine o_pass rfl rfl rfl rfl rfl ?_
    refine o_pass rfl rfl rfl rfl rfl ?_
    refine o_pass rfl rfl rfl rfl rfl ?_
    refine o_pass rfl rfl rfl rfl rfl ?_
    refine o_pass rfl rfl rfl rfl rfl ?_
    refine o_T (y_pickF rfl rfl) rfl ?_
    refine o_L (y_assign rfl) rfl rfl ?_
    refine o_nil0 rfl ?_
    refine c_ret ?_
    refine fun aX wX heX hsX => ret1 Tryz.results76 heX rfl (s_take s_nil) ?_
    exact ⟨congrArg Value.bool (by unfold nHas; (repeat' split) <;> rw [Bool.eq_iff_iff] <;> (try simp only [decide_eq_true_eq, Bool.and_eq_true, Bool.or_eq_true, Bool.false_eq_true, false_iff, true_iff, or_false, and_false, decide_eq_false_iff_not]) <;> omega), rfl⟩

/-- e2e/hostm.MayStep -/
theorem t72 (x y : Int) : Trip Tryz.prog 72 #[.int .i64 x, .int .i64 y] [] (fun u S' => S' = [] ∧ u = .bool (mayStep x y)) := by
  refine fn_entry (args := [.int .i64 x, .int .i64 y]) Tryz.func72 rfl Tryz.ntmps72 rfl (fun w0 => ?_)
  refine c_seq ?_
  refine c_region ?_
  refine o_L (y_assign rfl) rfl rfl ?_
  refine o_nil0 rfl ?_
  refine c_seq ?_
  refine c_seq ?_
  refine c_region ?_
  refine o_T (y_move rfl) rfl ?_
  refine o_T (y_move rfl) rfl ?_
  refine o_T (y_eql rfl rfl) rfl ?_
  refine o_nil1 7 rfl rfl ?_
  refine c_cond rfl (fun h44 => ?_) (fun h44 => ?_)
  · try simp only [decide_eq_true_eq, decide_eq_false_iff_not, Bool.not_eq_true', Bool.not_eq_false', Int.not_lt, Int.not_le, Decidable.not_not, beq_iff_eq, bne_iff_ne, ne_eq, beq_eq_false_iff_ne] at h44
    refine c_seq ?_
    refine c_region ?_
    refine o_L (y_assign rfl) rfl rfl ?_
    refine o_nil0 rfl ?_
    refine c_ret ?_
    refine fun aX wX heX hsX => ret1 Tryz.results72 heX rfl s_nil ?_
    exact ⟨rfl, congrArg Value.bool (by unfold mayStep; (repeat' split) <;> rw [Bool.eq_iff_iff] <;> (try simp only [decide_eq_true_eq, Bool.and_eq_true, Bool.or_eq_true, Bool.false_eq_true, false_iff, true_iff, or_false, and_false, decide_eq_false_iff_not]) <;> omega)⟩
  · try simp only [decide_eq_true_eq, decide_eq_false_iff_not, Bool.not_eq_true', Bool.not_eq_false', Int.not_lt, Int.not_le, Decidable.not_not, beq_iff_eq, bne_iff_ne, ne_eq, beq_eq_false_iff_ne] at h44
    refine c_skip ?_
    refine c_seq ?_
    refine c_seq ?_
    refine c_region ?_
    refine o_T (y_move rfl) rfl ?_
    refine o_nil1 8 rfl rfl ?_
    refine c_block ?_
    refine c_seq ?_
    refine c_seq ?_
    refine c_region ?_
    refine o_T (y_eql rfl rfl) rfl ?_
    refine o_L (y_assign rfl) rfl rfl ?_
    refine o_nil0 rfl ?_
    refine c_cond rfl (fun h48 => ?_) (fun h48 => ?_)
    · try simp only [decide_eq_true_eq, decide_eq_false_iff_not, Bool.not_eq_true', Bool.not_eq_false', Int.not_lt, Int.not_le, Decidable.not_not, beq_iff_eq, bne_iff_ne, ne_eq, beq_eq_false_iff_ne] at h48
      refine c_skip ?_
      refine c_cond rfl (fun h48_1 => ?_) (fun h48_1 => ?_)
      · try simp only [decide_eq_true_eq, decide_eq_false_iff_not, Bool.not_eq_true', Bool.not_eq_false', Int.not_lt, Int.not_le, Decidable.not_not, beq_iff_eq, bne_iff_ne, ne_eq, beq_eq_false_iff_ne] at h48_1
        refine c_seq ?_
        refine c_region ?_
        refine o_T (y_move rfl) rfl ?_
        refine o_T (y_eql rfl rfl) rfl ?_
        refine o_T (y_move rfl) rfl ?_
        refine o_split 14 rfl (fun h49 => ?_) (fun h49 => ?_)
        · try simp only [decide_eq_true_eq, decide_eq_false_iff_not, Bool.not_eq_true', Bool.not_eq_false', Int.not_lt, Int.not_le, Decidable.not_not, beq_iff_eq, bne_iff_ne, ne_eq, beq_eq_false_iff_ne] at h49
          refine o_pass rfl rfl rfl rfl rfl ?_
          refine o_pass rfl rfl rfl rfl rfl ?_
          refine o_T (y_pickT rfl rfl) rfl ?_
          refine o_L (y_assign rfl) rfl rfl ?_
          refine o_nil0 rfl ?_
          refine c_ret ?_
          refine fun aX wX heX hsX => ret1 Tryz.results72 heX rfl s_nil ?_
          exact ⟨rfl, congrArg Value.bool (by unfold mayStep; (repeat' split) <;> rw [Bool.eq_iff_iff] <;> (try simp only [decide_eq_true_eq, Bool.and_eq_true, Bool.or_eq_true, Bool.false_eq_true, false_iff, true_iff, or_false, and_false, decide_eq_false_iff_not]) <;> omega)⟩
        · try simp only [decide_eq_true_eq, decide_eq_false_iff_not, Bool.not_eq_true', Bool.not_eq_false', Int.not_lt, Int.not_le, Decidable.not_not, beq_iff_eq, bne_iff_ne, ne_eq, beq_eq_false_iff_ne] at h49
          refine o_take rfl rfl rfl ?_
          refine o_T (y_move rfl) rfl ?_
          refine o_take rfl rfl rfl ?_
          refine o_T (y_eql rfl rfl) rfl ?_
          refine o_T (y_pickF rfl rfl) rfl ?_
          refine o_L (y_assign rfl) rfl rfl ?_
          refine o_nil0 rfl ?_
          refine c_ret ?_
          refine fun aX wX heX hsX => ret1 Tryz.results72 heX rfl s_nil ?_
          exact ⟨rfl, congrArg Value.bool (by unfold mayStep; (repeat' split) <;> rw [Bool.eq_iff_iff] <;> (try simp only [decide_eq_true_eq, Bool.and_eq_true, Bool.or_eq_true, Bool.false_eq_true, false_iff, true_iff, or_false, and_false, decide_eq_false_iff_not]) <;> omega)⟩
      · try simp only [decide_eq_true_eq, decide_eq_false_iff_not, Bool.not_eq_true', Bool.not_eq_false', Int.not_lt, Int.not_le, Decidable.not_not, beq_iff_eq, bne_iff_ne, ne_eq, beq_eq_false_iff_ne] at h48_1
        refine c_seq ?_
        refine c_region ?_
        refine o_T (y_eql rfl rfl) rfl ?_
        refine o_L (y_assign rfl) rfl rfl ?_
        refine o_nil0 rfl ?_
        refine c_cond rfl (fun h50 => ?_) (fun h50 => ?_)
        · try simp only [decide_eq_true_eq, decide_eq_false_iff_not, Bool.not_eq_true', Bool.not_eq_false', Int.not_lt, Int.not_le, Decidable.not_not, beq_iff_eq, bne_iff_ne, ne_eq, beq_eq_false_iff_ne] at h50
          refine c_seq ?_
          refine c_region ?_
          refine o_T (y_move rfl) rfl ?_
          refine o_T (y_eql rfl rfl) rfl ?_
          refine o_L (y_assign rfl) rfl rfl ?_
          refine o_nil0 rfl ?_
          refine c_ret ?_
          refine fun aX wX heX hsX => ret1 Tryz.results72 heX rfl s_nil ?_
          exact ⟨rfl, congrArg Value.bool (by unfold mayStep; (repeat' split) <;> rw [Bool.eq_iff_iff] <;> (try simp only [decide_eq_true_eq, Bool.and_eq_true, Bool.or_eq_true, Bool.false_eq_true, false_iff, true_iff, or_false, and_false, decide_eq_false_iff_not]) <;> omega)⟩
        · try simp only [decide_eq_true_eq, decide_eq_false_iff_not, Bool.not_eq_true', Bool.not_eq_false', Int.not_lt, Int.not_le, Decidable.not_not, beq_iff_eq, bne_iff_ne, ne_eq, beq_eq_false_iff_ne] at h50
          refine c_skip ?_
          refine c_seq ?_
          refine c_region ?_
          refine o_L (y_assign rfl) rfl rfl ?_
          refine o_nil0 rfl ?_
          refine c_ret ?_
          refine fun aX wX heX hsX => ret1 Tryz.results72 heX rfl s_nil ?_
          exact ⟨rfl, congrArg Value.bool (by unfold mayStep; (repeat' split) <;> rw [Bool.eq_iff_iff] <;> (try simp only [decide_eq_true_eq, Bool.and_eq_true, Bool.or_eq_true, Bool.false_eq_true, false_iff, true_iff, or_false, and_false, decide_eq_false_iff_not]) <;> omega)⟩
    · try simp only [decide_eq_true_eq, decide_eq_false_iff_not, Bool.not_eq_true', Bool.not_eq_false', Int.not_lt, Int.not_le, Decidable.not_not, beq_iff_eq, bne_iff_ne, ne_eq, beq_eq_false_iff_ne] at h48
      refine c_region ?_
      refine o_T (y_eql rfl rfl) rfl ?_
      refine o_L (y_assign rfl) rfl rfl ?_
      refine o_nil0 rfl ?_
      refine c_cond rfl (fun h48_1 => ?_) (fun h48_1 => ?_)
      · try simp only [decide_eq_true_eq, decide_eq_false_iff_not, Bool.not_eq_true', Bool.not_eq_false', Int.not_lt, Int.not_le, Decidable.not_not, beq_iff_eq, bne_iff_ne, ne_eq, beq_eq_false_iff_ne] at h48_1
        refine c_seq ?_
        refine c_region ?_
        refine o_T (y_move rfl) rfl ?_
        refine o_T (y_eql rfl rfl) rfl ?_
        refine o_T (y_move rfl) rfl ?_
        refine o_split 14 rfl (fun h49 => ?_) (fun h49 => ?_)
        · try simp only [decide_eq_true_eq, decide_eq_false_iff_not, Bool.not_eq_true', Bool.not_eq_false', Int.not_lt, Int.not_le, Decidable.not_not, beq_iff_eq, bne_iff_ne, ne_eq, beq_eq_false_iff_ne] at h49
          refine o_pass rfl rfl rfl rfl rfl ?_
          refine o_pass rfl rfl rfl rfl rfl ?_
          refine o_T (y_pickT rfl rfl) rfl ?_
          refine o_L (y_assign rfl) rfl rfl ?_
          refine o_nil0 rfl ?_
          refine c_ret ?_
          refine fun aX wX heX hsX => ret1 Tryz.results72 heX rfl s_nil ?_
          exact ⟨rfl, congrArg Value.bool (by unfold mayStep; (repeat' split) <;> rw [Bool.eq_iff_iff] <;> (try simp only [decide_eq_true_eq, Bool.and_eq_true, Bool.or_eq_true, Bool.false_eq_true, false_iff, true_iff, or_false, and_false, decide_eq_false_iff_not]) <;> omega)⟩
        · try simp only [decide_eq_true_eq, decide_eq_false_iff_not, Bool.not_eq_true', Bool.not_eq_false', Int.not_lt, Int.not_le, Decidable.not_not, beq_iff_eq, bne_iff_ne, ne_eq, beq_eq_false_iff_ne] at h49
          refine o_take rfl rfl rfl ?_
          refine o_T (y_move rfl) rfl ?_
          refine o_take rfl rfl rfl ?_
          refine o_T (y_eql rfl rfl) rfl ?_
          refine o_T (y_pickF rfl rfl) rfl ?_
          refine o_L (y_assign rfl) rfl rfl ?_
          refine o_nil0 rfl ?_
          refine c_ret ?_
          refine fun aX wX heX hsX => ret1 Tryz.results72 heX rfl s_nil ?_
          exact ⟨rfl, congrArg Value.bool (by unfold mayStep; (repeat' split) <;> rw [Bool.eq_iff_iff] <;> (try simp only [decide_eq_true_eq, Bool.and_eq_true, Bool.or_eq_true, Bool.false_eq_true, false_iff, true_iff, or_false, and_false, decide_eq_false_iff_not]) <;> omega)⟩
      · try simp only [decide_eq_true_eq, decide_eq_false_iff_not, Bool.not_eq_true', Bool.not_eq_false', Int.not_lt, Int.not_le, Decidable.not_not, beq_iff_eq, bne_iff_ne, ne_eq, beq_eq_false_iff_ne] at h48_1
        refine c_seq ?_
        refine c_region ?_
        refine o_T (y_eql rfl rfl) rfl ?_
        refine o_L (y_assign rfl) rfl rfl ?_
        refine o_nil0 rfl ?_
        refine c_cond rfl (fun h50 => ?_) (fun h50 => ?_)
        · try simp only [decide_eq_true_eq, decide_eq_false_iff_not, Bool.not_eq_true', Bool.not_eq_false', Int.not_lt, Int.not_le, Decidable.not_not, beq_iff_eq, bne_iff_ne, ne_eq, beq_eq_false_iff_ne] at h50
          refine c_seq ?_
          refine c_region ?_
          refine o_T (y_move rfl) rfl ?_
          refine o_T (y_eql rfl rfl) rfl ?_
          refine o_L (y_assign rfl) rfl rfl ?_
          refine o_nil0 rfl ?_
          refine c_ret ?_
          refine fun aX wX heX hsX => ret1 Tryz.results72 heX rfl s_nil ?_
          exact ⟨rfl, congrArg Value.bool (by unfold mayStep; (repeat' split) <;> rw [Bool.eq_iff_iff] <;> (try simp only [decide_eq_true_eq, Bool.and_eq_true, Bool.or_eq_true, Bool.false_eq_true, false_iff, true_iff, or_false, and_false, decide_eq_false_iff_not]) <;> omega)⟩
        · try simp only [decide_eq_true_eq, decide_eq_false_iff_not, Bool.not_eq_true', Bool.not_eq_false', Int.not_lt, Int.not_le, Decidable.not_not, beq_iff_eq, bne_iff_ne, ne_eq, beq_eq_false_iff_ne] at h50
          refine c_skip ?_
          refine c_seq ?_
          refine c_region ?_
          refine o_L (y_assign rfl) rfl rfl ?_
          refine o_nil0 rfl ?_
          refine c_ret ?_
          refine fun aX wX heX hsX => ret1 Tryz.results72 heX rfl s_nil ?_
          exact ⟨rfl, congrArg Value.bool (by unfold mayStep; (repeat' split) <;> rw [Bool.eq_iff_iff] <;> (try simp only [decide_eq_true_eq, Bool.and_eq_true, Bool.or_eq_true, Bool.false_eq_true, false_iff, true_iff, or_false, and_false, decide_eq_false_iff_not]) <;> omega)⟩

/-- e2e/hostm.New -/
theorem t21  : Trip Tryz.prog 21 #[] [] (fun u S' => ∃ b, u = .pointer (some ⟨b, 0, none⟩) ∧ S' = [[(b, .cells (Nt.mk (.slice none 0 0) (fun _ => 0)).enc 80 (0, 0))]]) := by
  refine fn_entry (args := []) Tryz.func21 rfl Tryz.ntmps21 rfl (fun w0 => ?_)
  refine c_seq ?_
  refine c_region ?_
  refine o_L (y_assign rfl) rfl rfl ?_
  refine o_nil0 rfl ?_
  refine c_seq ?_
  refine c_region ?_
  refine o_T (y_build st_80 rfl fb0) rfl ?_
  refine o_box rfl rfl rfl rfl (fun b_1 => ?_)
  refine o_L (y_assign rfl) rfl rfl ?_
  refine o_nil0 rfl ?_
  refine c_ret ?_
  refine fun aX wX heX hsX => ret1 Tryz.results21 heX rfl (s_take s_nil) ?_
  exact ⟨_, rfl, rfl⟩

/-- (*e2e/hostm.Net).failed -/
theorem t54 (b : Nat) (v : Value) (l : List Ned) (gv gd : List Chunk) (dl : Nat → Int) (k : Nat) (hn : LstN 83 16 edR v l gv gd) (hk : k < l.length) : Trip Tryz.prog 54 #[.pointer (some ⟨b, 0, none⟩), .int .i64 (k : Int)] [[(b, .cells (Nt.mk v dl).enc 80 (0, 0))], gv] (fun u S' => u = .bool (l[k]).failed ∧ S' = [[(b, .cells (Nt.mk v dl).enc 80 (0, 0))], gv]) := by
  obtain ⟨pw, cw, hvw⟩ := hn.slice
  subst hvw
  refine fn_entry (args := [.pointer (some ⟨b, 0, none⟩), .int .i64 (k : Int)]) Tryz.func54 rfl Tryz.ntmps54 rfl (fun w0 => ?_)
  refine c_seq ?_
  refine c_region ?_
  refine o_L (y_assign rfl) rfl rfl ?_
  refine o_nil0 rfl ?_
  refine c_seq ?_
  obtain ⟨bw, cpw, cur, hv2, hg2, hO⟩ := (hn.lst (by omega)).open
  injection hv2 with e1 e2 e3
  subst e1 e3 hg2
  refine c_region ?_
  refine o_T (y_move rfl) rfl ?_
  refine o_T (y_nilck rfl) rfl ?_
  refine o_T (y_fa fl_80_0 rfl) rfl ?_
  refine o_ld one_78 rfl m0 Nt.g0 rfl ?_
  refine o_T (y_move rfl) rfl ?_
  refine o_T (y_is sl_78 rfl rfl (by omega) (by omega)) rfl ?_
  refine o_T (y_fa fl_83_10 rfl) rfl ?_
  refine o_ld one_3 rfl (ms m0) (Ed.l_state hO k (by omega) (by omega)) rfl ?_
  refine o_T (y_eql rfl rfl) rfl ?_
  refine o_T (y_move rfl) rfl ?_
  refine o_split 14 rfl (fun h57 => ?_) (fun h57 => ?_)
  · try simp only [decide_eq_true_eq, decide_eq_false_iff_not, Bool.not_eq_true', Bool.not_eq_false', Int.not_lt, Int.not_le, Decidable.not_not, beq_iff_eq, bne_iff_ne, ne_eq, beq_eq_false_iff_ne] at h57
    refine o_take rfl rfl rfl ?_
    refine o_T (y_move rfl) rfl ?_
    refine o_take rfl rfl rfl ?_
    refine o_T (y_nilck rfl) rfl ?_
    refine o_take rfl rfl rfl ?_
    refine o_T (y_fa fl_80_0 rfl) rfl ?_
    refine o_take rfl rfl rfl ?_
    refine o_ld one_78 rfl m0 Nt.g0 rfl ?_
    refine o_take rfl rfl rfl ?_
    refine o_T (y_move rfl) rfl ?_
    refine o_take rfl rfl rfl ?_
    refine o_T (y_is sl_78 rfl rfl (by omega) (by omega)) rfl ?_
    refine o_take rfl rfl rfl ?_
    refine o_T (y_fa fl_83_11 rfl) rfl ?_
    refine o_take rfl rfl rfl ?_
    refine o_ld one_70 rfl (ms m0) (Ed.l_why hO k (by omega) (by omega)) rfl ?_
    refine o_take rfl rfl rfl ?_
    refine o_T (y_neq rfl rfl) rfl ?_
    refine o_T (y_pickT rfl rfl) rfl ?_
    refine o_L (y_assign rfl) rfl rfl ?_
    refine o_nil0 rfl ?_
    refine c_ret ?_
    refine fun aX wX heX hsX => ret1 Tryz.results54 heX rfl (s_take (s_take s_nil)) ?_
    exact ⟨congrArg Value.bool (by unfold Ned.failed; (repeat' split) <;> rw [Bool.eq_iff_iff] <;> (try simp only [decide_eq_true_eq, Bool.and_eq_true, Bool.or_eq_true, Bool.false_eq_true, false_iff, true_iff, or_false, and_false, decide_eq_false_iff_not]) <;> omega), rfl⟩
  · try simp only [decide_eq_true_eq, decide_eq_false_iff_not, Bool.not_eq_true', Bool.not_eq_false', Int.not_lt, Int.not_le, Decidable.not_not, beq_iff_eq, bne_iff_ne, ne_eq, beq_eq_false_iff_ne] at h57
    refine o_pass rfl rfl rfl rfl rfl ?_
    refine o_pass rfl rfl rfl rfl rfl ?_
    refine o_pass rfl rfl rfl rfl rfl ?_
    refine o_pass rfl rfl rfl rfl rfl ?_
    refine o_pass rfl rfl rfl rfl rfl ?_
    refine o_pass rfl rfl rfl rfl rfl ?_
    refine o_pass rfl rfl rfl rfl rfl ?_
    refine o_pass rfl rfl rfl rfl rfl ?_
    refine o_pass rfl rfl rfl rfl rfl ?_
    refine o_T (y_pickF rfl rfl) rfl ?_
    refine o_L (y_assign rfl) rfl rfl ?_
    refine o_nil0 rfl ?_
    refine c_ret ?_
    refine fun aX wX heX hsX => ret1 Tryz.results54 heX rfl (s_take (s_take s_nil)) ?_
    exact ⟨congrArg Value.bool (by unfold Ned.failed; (repeat' split) <;> rw [Bool.eq_iff_iff] <;> (try simp only [decide_eq_true_eq, Bool.and_eq_true, Bool.or_eq_true, Bool.false_eq_true, false_iff, true_iff, or_false, and_false, decide_eq_false_iff_not]) <;> omega), rfl⟩

end Go.Proofs.Qxb6500351aGreat
