/- MADE BY PROGRAM (tools/gen.py over tools/specs351.py): walks. -/
import Derived.Test.Qxb6500351aGreatFacts
import Derived.Test.Qxb6500351aGreatW53
set_option linter.unusedVariables false
set_option linter.unusedSimpArgs false
namespace Go.Proofs.Qxb6500351aGreat
open Go.Eng
set_option maxRecDepth 20000
set_option maxHeartbeats 4000000
/-- (*e2e/hostm.Net).latest -/
theorem t71 (b : Nat) (v : Value) (l : List Ned) (gv gd : List Chunk) (dl : Nat → Int) (hs lp rh rp : Int) (cl : Bool) (hn : LstN 83 16 edR v l gv gd) : Trip Tryz.prog 71 #[.pointer (some ⟨b, 0, none⟩), .int .i64 hs, .int .i64 lp, .int .i64 rh, .int .i64 rp, .bool cl] [[(b, .cells (Nt.mk v dl).enc 80 (0, 0))], gv] (fun u S' => u = .int .i64 (nLatest l hs lp rh rp cl) ∧ S' = [[(b, .cells (Nt.mk v dl).enc 80 (0, 0))], gv]) := by
  have hln := lstN_bnd hn
  obtain ⟨pw, cw, hvw⟩ := hn.slice
  subst hvw
  refine fn_entry (args := [.pointer (some ⟨b, 0, none⟩), .int .i64 hs, .int .i64 lp, .int .i64 rh, .int .i64 rp, .bool cl]) Tryz.func71 rfl Tryz.ntmps71 rfl (fun w0 => ?_)
  refine c_seq ?_
  refine c_region ?_
  refine o_L (y_assign rfl) rfl rfl ?_
  refine o_nil0 rfl ?_
  refine c_seq ?_
  refine c_seq ?_
  refine c_region ?_
  refine o_T (y_move rfl) rfl ?_
  refine o_T (y_nilck rfl) rfl ?_
  refine o_T (y_fa fl_80_0 rfl) rfl ?_
  refine o_ld one_78 rfl m0 Nt.g0 rfl ?_
  refine o_T (y_len Tryz.underlying78 rfl) rfl ?_
  refine o_T (y_sub rfl rfl (w64 (by omega))) rfl ?_
  refine o_L (y_assign rfl) rfl rfl ?_
  refine o_nil0 rfl ?_
  refine c_block ?_
  refine c_loopG (ι := Nat) (fun i => [(13, .int .i64 ((i : Int) - 1))]) (fun i => []) (fun i => i ≤ l.length ∧ ∀ x ∈ l.drop i, Ned.at hs lp rh rp cl x = false) (fun i => i) l.length (by exact ⟨by omega, by simp⟩) ⟨by first | rfl | exact gteI rfl (by omega), trivial⟩ (s_take (s_take s_nil)) ?_
  rintro k ⟨g3, g4⟩
  try dsimp only [List.cons_append, List.nil_append] at *
  refine c_seq ?_
  refine c_seq ?_
  refine c_region ?_
  refine o_T (y_move rfl) rfl ?_
  refine o_T (y_geq rfl rfl) rfl ?_
  refine o_nil1 21 rfl rfl ?_
  refine c_cond rfl (fun h61 => ?_) (fun h61 => ?_)
  · try simp only [decide_eq_true_eq, decide_eq_false_iff_not, Bool.not_eq_true', Bool.not_eq_false', Int.not_lt, Int.not_le, Decidable.not_not, beq_iff_eq, bne_iff_ne, ne_eq, beq_eq_false_iff_ne] at h61
    refine c_skip ?_
    refine c_seq ?_
    refine c_block ?_
    refine c_seq ?_
    obtain ⟨m, rfl⟩ : ∃ m, k = m + 1 := ⟨k - 1, by omega⟩
    obtain ⟨bw, cpw, cur, hv2, hg2, hO⟩ := (hn.lst (by omega)).open
    injection hv2 with e1 e2 e3
    subst e1 e3 hg2
    refine c_region ?_
    refine o_T (y_move rfl) rfl ?_
    refine o_T (y_nilck rfl) rfl ?_
    refine o_T (y_fa fl_80_0 rfl) rfl ?_
    refine o_ld one_78 rfl m0 Nt.g0 rfl ?_
    refine o_T (y_move rfl) rfl ?_
    refine o_T (y_is sl_78 rfl rfl (by omega) (by omega)) rfl ?_
    refine o_T (y_fa fl_83_0 rfl) rfl ?_
    refine o_ld one_3 rfl (ms m0) (Ed.l_host hO m (by omega) (by omega)) rfl ?_
    refine o_T (y_move rfl) rfl ?_
    refine o_T (y_eql rfl rfl) rfl ?_
    refine o_T (y_move rfl) rfl ?_
    refine o_split 34 rfl (fun h62 => ?_) (fun h62 => ?_)
    · try simp only [decide_eq_true_eq, decide_eq_false_iff_not, Bool.not_eq_true', Bool.not_eq_false', Int.not_lt, Int.not_le, Decidable.not_not, beq_iff_eq, bne_iff_ne, ne_eq, beq_eq_false_iff_ne] at h62
      refine o_take rfl rfl rfl ?_
      refine o_T (y_move rfl) rfl ?_
      refine o_take rfl rfl rfl ?_
      refine o_T (y_nilck rfl) rfl ?_
      refine o_take rfl rfl rfl ?_
      refine o_T (y_fa fl_80_0 rfl) rfl ?_
      refine o_take rfl rfl rfl ?_
      refine o_ld one_78 rfl m0 Nt.g0 rfl ?_
      refine o_take rfl rfl rfl ?_
      refine o_T (y_move rfl) rfl ?_
      refine o_take rfl rfl rfl ?_
      refine o_T (y_is sl_78 rfl rfl (by omega) (by omega)) rfl ?_
      refine o_take rfl rfl rfl ?_
      refine o_T (y_fa fl_83_2 rfl) rfl ?_
      refine o_take rfl rfl rfl ?_
      refine o_ld one_3 rfl (ms m0) (Ed.l_lPort hO m (by omega) (by omega)) rfl ?_
      refine o_take rfl rfl rfl ?_
      refine o_T (y_move rfl) rfl ?_
      refine o_take rfl rfl rfl ?_
      refine o_T (y_eql rfl rfl) rfl ?_
      refine o_T (y_pickT rfl rfl) rfl ?_
      refine o_T (y_move rfl) rfl ?_
      refine o_split 46 rfl (fun h62_1 => ?_) (fun h62_1 => ?_)
      · try simp only [decide_eq_true_eq, decide_eq_false_iff_not, Bool.not_eq_true', Bool.not_eq_false', Int.not_lt, Int.not_le, Decidable.not_not, beq_iff_eq, bne_iff_ne, ne_eq, beq_eq_false_iff_ne] at h62_1
        refine o_take rfl rfl rfl ?_
        refine o_T (y_move rfl) rfl ?_
        refine o_take rfl rfl rfl ?_
        refine o_T (y_nilck rfl) rfl ?_
        refine o_take rfl rfl rfl ?_
        refine o_T (y_fa fl_80_0 rfl) rfl ?_
        refine o_take rfl rfl rfl ?_
        refine o_ld one_78 rfl m0 Nt.g0 rfl ?_
        refine o_take rfl rfl rfl ?_
        refine o_T (y_move rfl) rfl ?_
        refine o_take rfl rfl rfl ?_
        refine o_T (y_is sl_78 rfl rfl (by omega) (by omega)) rfl ?_
        refine o_take rfl rfl rfl ?_
        refine o_T (y_fa fl_83_3 rfl) rfl ?_
        refine o_take rfl rfl rfl ?_
        refine o_ld one_3 rfl (ms m0) (Ed.l_rHost hO m (by omega) (by omega)) rfl ?_
        refine o_take rfl rfl rfl ?_
        refine o_T (y_move rfl) rfl ?_
        refine o_take rfl rfl rfl ?_
        refine o_T (y_eql rfl rfl) rfl ?_
        refine o_T (y_pickT rfl rfl) rfl ?_
        refine o_T (y_move rfl) rfl ?_
        refine o_split 58 rfl (fun h62_2 => ?_) (fun h62_2 => ?_)
        · try simp only [decide_eq_true_eq, decide_eq_false_iff_not, Bool.not_eq_true', Bool.not_eq_false', Int.not_lt, Int.not_le, Decidable.not_not, beq_iff_eq, bne_iff_ne, ne_eq, beq_eq_false_iff_ne] at h62_2
          refine o_take rfl rfl rfl ?_
          refine o_T (y_move rfl) rfl ?_
          refine o_take rfl rfl rfl ?_
          refine o_T (y_nilck rfl) rfl ?_
          refine o_take rfl rfl rfl ?_
          refine o_T (y_fa fl_80_0 rfl) rfl ?_
          refine o_take rfl rfl rfl ?_
          refine o_ld one_78 rfl m0 Nt.g0 rfl ?_
          refine o_take rfl rfl rfl ?_
          refine o_T (y_move rfl) rfl ?_
          refine o_take rfl rfl rfl ?_
          refine o_T (y_is sl_78 rfl rfl (by omega) (by omega)) rfl ?_
          refine o_take rfl rfl rfl ?_
          refine o_T (y_fa fl_83_4 rfl) rfl ?_
          refine o_take rfl rfl rfl ?_
          refine o_ld one_3 rfl (ms m0) (Ed.l_rPort hO m (by omega) (by omega)) rfl ?_
          refine o_take rfl rfl rfl ?_
          refine o_T (y_move rfl) rfl ?_
          refine o_take rfl rfl rfl ?_
          refine o_T (y_eql rfl rfl) rfl ?_
          refine o_T (y_pickT rfl rfl) rfl ?_
          refine o_T (y_move rfl) rfl ?_
          refine o_split 70 rfl (fun h62_3 => ?_) (fun h62_3 => ?_)
          · try simp only [decide_eq_true_eq, decide_eq_false_iff_not, Bool.not_eq_true', Bool.not_eq_false', Int.not_lt, Int.not_le, Decidable.not_not, beq_iff_eq, bne_iff_ne, ne_eq, beq_eq_false_iff_ne] at h62_3
            refine o_take rfl rfl rfl ?_
            refine o_T (y_move rfl) rfl ?_
            refine o_take rfl rfl rfl ?_
            refine o_T (y_nilck rfl) rfl ?_
            refine o_take rfl rfl rfl ?_
            refine o_T (y_fa fl_80_0 rfl) rfl ?_
            refine o_take rfl rfl rfl ?_
            refine o_ld one_78 rfl m0 Nt.g0 rfl ?_
            refine o_take rfl rfl rfl ?_
            refine o_T (y_move rfl) rfl ?_
            refine o_take rfl rfl rfl ?_
            refine o_T (y_is sl_78 rfl rfl (by omega) (by omega)) rfl ?_
            refine o_take rfl rfl rfl ?_
            refine o_T (y_fa fl_83_5 rfl) rfl ?_
            refine o_take rfl rfl rfl ?_
            refine o_ld one_4 rfl (ms m0) (Ed.l_client hO m (by omega) (by omega)) rfl ?_
            refine o_take rfl rfl rfl ?_
            refine o_T (y_move rfl) rfl ?_
            refine o_take rfl rfl rfl ?_
            refine o_T (y_beq Tryz.underlying4 rfl rfl) rfl ?_
            refine o_T (y_pickT rfl rfl) rfl ?_
            refine o_nil1 81 rfl rfl ?_
            refine c_cond rfl (fun h62_4 => ?_) (fun h62_4 => ?_)
            · try simp only [decide_eq_true_eq, decide_eq_false_iff_not, Bool.not_eq_true', Bool.not_eq_false', Int.not_lt, Int.not_le, Decidable.not_not, beq_iff_eq, bne_iff_ne, ne_eq, beq_eq_false_iff_ne] at h62_4
              refine c_seq ?_
              refine c_region ?_
              refine o_T (y_move rfl) rfl ?_
              refine o_L (y_assign rfl) rfl rfl ?_
              refine o_nil0 rfl ?_
              refine c_ret ?_
              refine fun aX wX heX hsX => ret1 Tryz.results71 heX rfl (s_take (s_take s_nil)) ?_
              refine ⟨congrArg (Value.int .i64) ?_, rfl⟩
              rw [nLatest_at g4 (by omega) (by unfold Ned.at; simp [*])]; omega
            · try simp only [decide_eq_true_eq, decide_eq_false_iff_not, Bool.not_eq_true', Bool.not_eq_false', Int.not_lt, Int.not_le, Decidable.not_not, beq_iff_eq, bne_iff_ne, ne_eq, beq_eq_false_iff_ne] at h62_4
              refine c_skip ?_
              refine c_region ?_
              refine o_T (y_move rfl) rfl ?_
              refine o_T (y_sub rfl rfl (w64 (by omega))) rfl ?_
              refine o_L (y_assign rfl) rfl rfl ?_
              refine o_nil0 rfl ?_
              refine ⟨(m), ⟨⟨by omega, drop_step (P := fun x => Ned.at hs lp rh rp cl x = false) g4 (by omega) (by unfold Ned.at; simp [*])⟩, by first | omega | (dsimp only; omega)⟩, ⟨gteI rfl (by first | omega | (dsimp only; omega)), trivial⟩, ⟨rfl, rfl⟩, _, ((s_take (s_take s_nil)))⟩
          · try simp only [decide_eq_true_eq, decide_eq_false_iff_not, Bool.not_eq_true', Bool.not_eq_false', Int.not_lt, Int.not_le, Decidable.not_not, beq_iff_eq, bne_iff_ne, ne_eq, beq_eq_false_iff_ne] at h62_3
            refine o_pass rfl rfl rfl rfl rfl ?_
            refine o_pass rfl rfl rfl rfl rfl ?_
            refine o_pass rfl rfl rfl rfl rfl ?_
            refine o_pass rfl rfl rfl rfl rfl ?_
            refine o_pass rfl rfl rfl rfl rfl ?_
            refine o_pass rfl rfl rfl rfl rfl ?_
            refine o_pass rfl rfl rfl rfl rfl ?_
            refine o_pass rfl rfl rfl rfl rfl ?_
            refine o_pass rfl rfl rfl rfl rfl ?_
            refine o_pass rfl rfl rfl rfl rfl ?_
            refine o_T (y_pickF rfl rfl) rfl ?_
            refine o_nil1 81 rfl rfl ?_
            refine c_condF rfl ?_
            refine c_skip ?_
            refine c_region ?_
            refine o_T (y_move rfl) rfl ?_
            refine o_T (y_sub rfl rfl (w64 (by omega))) rfl ?_
            refine o_L (y_assign rfl) rfl rfl ?_
            refine o_nil0 rfl ?_
            refine ⟨(m), ⟨⟨by omega, drop_step (P := fun x => Ned.at hs lp rh rp cl x = false) g4 (by omega) (by unfold Ned.at; simp [*])⟩, by first | omega | (dsimp only; omega)⟩, ⟨gteI rfl (by first | omega | (dsimp only; omega)), trivial⟩, ⟨rfl, rfl⟩, _, ((s_take (s_take s_nil)))⟩
        · try simp only [decide_eq_true_eq, decide_eq_false_iff_not, Bool.not_eq_true', Bool.not_eq_false', Int.not_lt, Int.not_le, Decidable.not_not, beq_iff_eq, bne_iff_ne, ne_eq, beq_eq_false_iff_ne] at h62_2
          refine o_pass rfl rfl rfl rfl rfl ?_
          refine o_pass rfl rfl rfl rfl rfl ?_
          refine o_pass rfl rfl rfl rfl rfl ?_
          refine o_pass rfl rfl rfl rfl rfl ?_
          refine o_pass rfl rfl rfl rfl rfl ?_
          refine o_pass rfl rfl rfl rfl rfl ?_
          refine o_pass rfl rfl rfl rfl rfl ?_
          refine o_pass rfl rfl rfl rfl rfl ?_
          refine o_pass rfl rfl rfl rfl rfl ?_
          refine o_pass rfl rfl rfl rfl rfl ?_
          refine o_T (y_pickF rfl rfl) rfl ?_
          refine o_T (y_move rfl) rfl ?_
          refine o_pass rfl rfl rfl rfl rfl ?_
          refine o_pass rfl rfl rfl rfl rfl ?_
          refine o_pass rfl rfl rfl rfl rfl ?_
          refine o_pass rfl rfl rfl rfl rfl ?_
          refine o_pass rfl rfl rfl rfl rfl ?_
          refine o_pass rfl rfl rfl rfl rfl ?_
          refine o_pass rfl rfl rfl rfl rfl ?_
          refine o_pass rfl rfl rfl rfl rfl ?_
          refine o_pass rfl rfl rfl rfl rfl ?_
          refine o_pass rfl rfl rfl rfl rfl ?_
          refine o_T (y_pickF rfl rfl) rfl ?_
          refine o_nil1 81 rfl rfl ?_
          refine c_condF rfl ?_
          refine c_skip ?_
          refine c_region ?_
          refine o_T (y_move rfl) rfl ?_
          refine o_T (y_sub rfl rfl (w64 (by omega))) rfl ?_
          refine o_L (y_assign rfl) rfl rfl ?_
          refine o_nil0 rfl ?_
          refine ⟨(m), ⟨⟨by omega, drop_step (P := fun x => Ned.at hs lp rh rp cl x = false) g4 (by omega) (by unfold Ned.at; simp [*])⟩, by first | omega | (dsimp only; omega)⟩, ⟨gteI rfl (by first | omega | (dsimp only; omega)), trivial⟩, ⟨rfl, rfl⟩, _, ((s_take (s_take s_nil)))⟩
      · try simp only [decide_eq_true_eq, decide_eq_false_iff_not, Bool.not_eq_true', Bool.not_eq_false', Int.not_lt, Int.not_le, Decidable.not_not, beq_iff_eq, bne_iff_ne, ne_eq, beq_eq_false_iff_ne] at h62_1
        refine o_pass rfl rfl rfl rfl rfl ?_
        refine o_pass rfl rfl rfl rfl rfl ?_
        refine o_pass rfl rfl rfl rfl rfl ?_
        refine o_pass rfl rfl rfl rfl rfl ?_
        refine o_pass rfl rfl rfl rfl rfl ?_
        refine o_pass rfl rfl rfl rfl rfl ?_
        refine o_pass rfl rfl rfl rfl rfl ?_
        refine o_pass rfl rfl rfl rfl rfl ?_
        refine o_pass rfl rfl rfl rfl rfl ?_
        refine o_pass rfl rfl rfl rfl rfl ?_
        refine o_T (y_pickF rfl rfl) rfl ?_
        refine o_T (y_move rfl) rfl ?_
        refine o_pass rfl rfl rfl rfl rfl ?_
        refine o_pass rfl rfl rfl rfl rfl ?_
        refine o_pass rfl rfl rfl rfl rfl ?_
        refine o_pass rfl rfl rfl rfl rfl ?_
        refine o_pass rfl rfl rfl rfl rfl ?_
        refine o_pass rfl rfl rfl rfl rfl ?_
        refine o_pass rfl rfl rfl rfl rfl ?_
        refine o_pass rfl rfl rfl rfl rfl ?_
        refine o_pass rfl rfl rfl rfl rfl ?_
        refine o_pass rfl rfl rfl rfl rfl ?_
        refine o_T (y_pickF rfl rfl) rfl ?_
        refine o_T (y_move rfl) rfl ?_
        refine o_pass rfl rfl rfl rfl rfl ?_
        refine o_pass rfl rfl rfl rfl rfl ?_
        refine o_pass rfl rfl rfl rfl rfl ?_
        refine o_pass rfl rfl rfl rfl rfl ?_
        refine o_pass rfl rfl rfl rfl rfl ?_
        refine o_pass rfl rfl rfl rfl rfl ?_
        refine o_pass rfl rfl rfl rfl rfl ?_
        refine o_pass rfl rfl rfl rfl rfl ?_
        refine o_pass rfl rfl rfl rfl rfl ?_
        refine o_pass rfl rfl rfl rfl rfl ?_
        refine o_T (y_pickF rfl rfl) rfl ?_
        refine o_nil1 81 rfl rfl ?_
        refine c_condF rfl ?_
        refine c_skip ?_
        refine c_region ?_
        refine o_T (y_move rfl) rfl ?_
        refine o_T (y_sub rfl rfl (w64 (by omega))) rfl ?_
        refine o_L (y_assign rfl) rfl rfl ?_
        refine o_nil0 rfl ?_
        refine ⟨(m), ⟨⟨by omega, drop_step (P := fun x => Ned.at hs lp rh rp cl x = false) g4 (by omega) (by unfold Ned.at; simp [*])⟩, by first | omega | (dsimp only; omega)⟩, ⟨gteI rfl (by first | omega | (dsimp only; omega)), trivial⟩, ⟨rfl, rfl⟩, _, ((s_take (s_take s_nil)))⟩
    · try simp only [decide_eq_true_eq, decide_eq_false_iff_not, Bool.not_eq_true', Bool.not_eq_false', Int.not_lt, Int.not_le, Decidable.not_not, beq_iff_eq, bne_iff_ne, ne_eq, beq_eq_false_iff_ne] at h62
      refine o_pass rfl rfl rfl rfl rfl ?_
      refine o_pass rfl rfl rfl rfl rfl ?_
      refine o_pass rfl rfl rfl rfl rfl ?_
      refine o_pass rfl rfl rfl rfl rfl ?_
      refine o_pass rfl rfl rfl rfl rfl ?_
      refine o_pass rfl rfl rfl rfl rfl ?_
      refine o_pass rfl rfl rfl rfl rfl ?_
      refine o_pass rfl rfl rfl rfl rfl ?_
      refine o_pass rfl rfl rfl rfl rfl ?_
      refine o_pass rfl rfl rfl rfl rfl ?_
      refine o_T (y_pickF rfl rfl) rfl ?_
      refine o_T (y_move rfl) rfl ?_
      refine o_pass rfl rfl rfl rfl rfl ?_
      refine o_pass rfl rfl rfl rfl rfl ?_
      refine o_pass rfl rfl rfl rfl rfl ?_
      refine o_pass rfl rfl rfl rfl rfl ?_
      refine o_pass rfl rfl rfl rfl rfl ?_
      refine o_pass rfl rfl rfl rfl rfl ?_
      refine o_pass rfl rfl rfl rfl rfl ?_
      refine o_pass rfl rfl rfl rfl rfl ?_
      refine o_pass rfl rfl rfl rfl rfl ?_
      refine o_pass rfl rfl rfl rfl rfl ?_
      refine o_T (y_pickF rfl rfl) rfl ?_
      refine o_T (y_move rfl) rfl ?_
      refine o_pass rfl rfl rfl rfl rfl ?_
      refine o_pass rfl rfl rfl rfl rfl ?_
      refine o_pass rfl rfl rfl rfl rfl ?_
      refine o_pass rfl rfl rfl rfl rfl ?_
      refine o_pass rfl rfl rfl rfl rfl ?_
      refine o_pass rfl rfl rfl rfl rfl ?_
      refine o_pass rfl rfl rfl rfl rfl ?_
      refine o_pass rfl rfl rfl rfl rfl ?_
      refine o_pass rfl rfl rfl rfl rfl ?_
      refine o_pass rfl rfl rfl rfl rfl ?_
      refine o_T (y_pickF rfl rfl) rfl ?_
      refine o_T (y_move rfl) rfl ?_
      refine o_pass rfl rfl rfl rfl rfl ?_
      refine o_pass rfl rfl rfl rfl rfl ?_
      refine o_pass rfl rfl rfl rfl rfl ?_
      refine o_pass rfl rfl rfl rfl rfl ?_
      refine o_pass rfl rfl rfl rfl rfl ?_
      refine o_pass rfl rfl rfl rfl rfl ?_
      refine o_pass rfl rfl rfl rfl rfl ?_
      refine o_pass rfl rfl rfl rfl rfl ?_
      refine o_pass rfl rfl rfl rfl rfl ?_
      refine o_pass rfl rfl rfl rfl rfl ?_
      refine o_T (y_pickF rfl rfl) rfl ?_
      refine o_nil1 81 rfl rfl ?_
      refine c_condF rfl ?_
      refine c_skip ?_
      refine c_region ?_
      refine o_T (y_move rfl) rfl ?_
      refine o_T (y_sub rfl rfl (w64 (by omega))) rfl ?_
      refine o_L (y_assign rfl) rfl rfl ?_
      refine o_nil0 rfl ?_
      refine ⟨(m), ⟨⟨by omega, drop_step (P := fun x => Ned.at hs lp rh rp cl x = false) g4 (by omega) (by unfold Ned.at; simp [*])⟩, by first | omega | (dsimp only; omega)⟩, ⟨gteI rfl (by first | omega | (dsimp only; omega)), trivial⟩, ⟨rfl, rfl⟩, _, ((s_take (s_take s_nil)))⟩
  · try simp only [decide_eq_true_eq, decide_eq_false_iff_not, Bool.not_eq_true', Bool.not_eq_false', Int.not_lt, Int.not_le, Decidable.not_not, beq_iff_eq, bne_iff_ne, ne_eq, beq_eq_false_iff_ne] at h61
    refine c_exit ?_
    refine c_seq ?_
    refine c_region ?_
    refine o_L (y_assign rfl) rfl rfl ?_
    refine o_nil0 rfl ?_
    refine c_ret ?_
    refine fun aX wX heX hsX => ret1 Tryz.results71 heX rfl (s_take (s_take s_nil)) ?_
    exact ⟨congrArg (Value.int .i64) (nLatest_none (by obtain rfl : k = 0 := (by omega); rw [List.drop_zero] at g4; exact g4)).symm, rfl⟩

/-- (*e2e/hostm.Net).ClosedBy -/
theorem t105 (b : Nat) (v : Value) (l : List Ned) (gv gd : List Chunk) (dl : Nat → Int) (i : Int) (hn : LstN 83 16 edR v l gv gd) : Trip Tryz.prog 105 #[.pointer (some ⟨b, 0, none⟩), .int .i64 i] [[(b, .cells (Nt.mk v dl).enc 80 (0, 0))], gv] (fun u S' => ∃ gv', u = .bool (nHas l i) ∧ LstN 83 16 edR v (nUpd l i (fun x => { x with closed := true })) gv' gd ∧ S' = [[(b, .cells (Nt.mk v dl).enc 80 (0, 0))], gv']) := by
  have hln := lstN_bnd hn
  obtain ⟨pw, cw, hvw⟩ := hn.slice
  subst hvw
  refine fn_entry (args := [.pointer (some ⟨b, 0, none⟩), .int .i64 i]) Tryz.func105 rfl Tryz.ntmps105 rfl (fun w0 => ?_)
  refine c_seq ?_
  refine c_region ?_
  refine o_L (y_assign rfl) rfl rfl ?_
  refine o_nil0 rfl ?_
  refine c_seq ?_
  refine c_seq ?_
  refine c_region ?_
  refine o_T (y_move rfl) rfl ?_
  refine o_T (y_move rfl) rfl ?_
  refine o_callrv en_76 rfl (t76 _ _ _ _ _ _ _ (by assumption)) (s_take s_nil) rfl ?_
  refine o_T (y_not rfl) rfl ?_
  refine o_nil1 8 rfl rfl ?_
  refine c_cond rfl (fun h173 => ?_) (fun h173 => ?_)
  · try simp only [decide_eq_true_eq, decide_eq_false_iff_not, Bool.not_eq_true', Bool.not_eq_false', Int.not_lt, Int.not_le, Decidable.not_not, beq_iff_eq, bne_iff_ne, ne_eq, beq_eq_false_iff_ne] at h173
    refine c_seq ?_
    refine c_region ?_
    refine o_L (y_assign rfl) rfl rfl ?_
    refine o_nil0 rfl ?_
    refine c_ret ?_
    refine fun aX wX heX hsX => ret1 Tryz.results105 heX rfl (s_take (s_take s_nil)) ?_
    rw [h173, nUpd_no h173]
    exact ⟨_, rfl, hn, rfl⟩
  · try simp only [decide_eq_true_eq, decide_eq_false_iff_not, Bool.not_eq_true', Bool.not_eq_false', Int.not_lt, Int.not_le, Decidable.not_not, beq_iff_eq, bne_iff_ne, ne_eq, beq_eq_false_iff_ne] at h173
    refine c_skip ?_
    refine c_seq ?_
    have hb := nHas_iff.1 h173
    obtain ⟨k, hik⟩ : ∃ k : Nat, i = (k : Int) := ⟨i.toNat, by omega⟩
    subst hik
    have hk : k < l.length := by omega
    obtain ⟨bw, cpw, cur, hv2, hg2, hO⟩ := (hn.lst (by omega)).open
    injection hv2 with e1 e2 e3
    subst e1 e3 hg2
    refine c_region ?_
    refine o_T (y_move rfl) rfl ?_
    refine o_T (y_nilck rfl) rfl ?_
    refine o_T (y_fa fl_80_0 rfl) rfl ?_
    refine o_ld one_78 rfl m0 Nt.g0 rfl ?_
    refine o_T (y_move rfl) rfl ?_
    refine o_T (y_is sl_78 rfl rfl (by omega) (by omega)) rfl ?_
    refine o_T (y_fa fl_83_12 rfl) rfl ?_
    refine o_st one_4 rfl rfl rfl (rs r0) (set_at (o' := 0 + k * 16 + 12) (by omega)) (Ed.bnd hO k hk 12 (by omega) (by omega)) ?_
    have hS_1 := Ed.w_closed hO k hk (o := 0 + k * 16 + 12) rfl true
    refine o_nil0 rfl ?_
    refine c_seq ?_
    refine c_region ?_
    refine o_L (y_assign rfl) rfl rfl ?_
    refine o_nil0 rfl ?_
    refine c_ret ?_
    refine fun aX wX heX hsX => ret1 Tryz.results105 heX rfl (s_take (s_take s_nil)) ?_
    rw [h173, nUpd_at hk]
    exact ⟨_, rfl, lstE_of_open hS_1 (by rw [List.length_set]), rfl⟩

/-- (*e2e/hostm.Net).Unlisted -/
theorem t36 (b : Nat) (v : Value) (l : List Ned) (gv gd : List Chunk) (dl : Nat → Int) (i : Int) (hn : LstN 83 16 edR v l gv gd) : Trip Tryz.prog 36 #[.pointer (some ⟨b, 0, none⟩), .int .i64 i] [[(b, .cells (Nt.mk v dl).enc 80 (0, 0))], gv] (fun u S' => ∃ gv', u = .bool (nUnl l i) ∧ LstN 83 16 edR v (nUnlisted l i) gv' gd ∧ S' = [[(b, .cells (Nt.mk v dl).enc 80 (0, 0))], gv']) := by
  have hln := lstN_bnd hn
  obtain ⟨pw, cw, hvw⟩ := hn.slice
  subst hvw
  refine fn_entry (args := [.pointer (some ⟨b, 0, none⟩), .int .i64 i]) Tryz.func36 rfl Tryz.ntmps36 rfl (fun w0 => ?_)
  refine c_seq ?_
  refine c_region ?_
  refine o_L (y_assign rfl) rfl rfl ?_
  refine o_nil0 rfl ?_
  refine c_seq ?_
  refine c_seq ?_
  refine c_region ?_
  refine o_T (y_move rfl) rfl ?_
  refine o_T (y_move rfl) rfl ?_
  refine o_callrv en_76 rfl (t76 _ _ _ _ _ _ _ (by assumption)) (s_take s_nil) rfl ?_
  refine o_T (y_not rfl) rfl ?_
  refine o_T (y_move rfl) rfl ?_
  refine o_split 9 rfl (fun h137 => ?_) (fun h137 => ?_)
  · try simp only [decide_eq_true_eq, decide_eq_false_iff_not, Bool.not_eq_true', Bool.not_eq_false', Int.not_lt, Int.not_le, Decidable.not_not, beq_iff_eq, bne_iff_ne, ne_eq, beq_eq_false_iff_ne] at h137
    refine o_pass rfl rfl rfl rfl rfl ?_
    refine o_pass rfl rfl rfl rfl rfl ?_
    refine o_pass rfl rfl rfl rfl rfl ?_
    refine o_pass rfl rfl rfl rfl rfl ?_
    refine o_pass rfl rfl rfl rfl rfl ?_
    refine o_pass rfl rfl rfl rfl rfl ?_
    refine o_pass rfl rfl rfl rfl rfl ?_
    refine o_pass rfl rfl rfl rfl rfl ?_
    refine o_pass rfl rfl rfl rfl rfl ?_
    refine o_T (y_pickT rfl rfl) rfl ?_
    refine o_nil1 19 rfl rfl ?_
    refine c_condT rfl ?_
    refine c_seq ?_
    refine c_region ?_
    refine o_L (y_assign rfl) rfl rfl ?_
    refine o_nil0 rfl ?_
    refine c_ret ?_
    refine fun aX wX heX hsX => ret1 Tryz.results36 heX rfl (s_take (s_take s_nil)) ?_
    have e0 := nUnl_no h137
    have e1 : nUnlisted l i = l := by unfold nUnlisted; rw [e0]; rfl
    rw [e0, e1]
    exact ⟨_, rfl, hn, rfl⟩
  · try simp only [decide_eq_true_eq, decide_eq_false_iff_not, Bool.not_eq_true', Bool.not_eq_false', Int.not_lt, Int.not_le, Decidable.not_not, beq_iff_eq, bne_iff_ne, ne_eq, beq_eq_false_iff_ne] at h137
    refine o_take rfl rfl rfl ?_
    have hb := nHas_iff.1 h137
    obtain ⟨k, hik⟩ : ∃ k : Nat, i = (k : Int) := ⟨i.toNat, by omega⟩
    subst hik
    have hk : k < l.length := by omega
    obtain ⟨bw, cpw, cur, hv2, hg2, hO⟩ := (hn.lst (by omega)).open
    injection hv2 with e1 e2 e3
    subst e1 e3 hg2
    refine o_T (y_move rfl) rfl ?_
    refine o_take rfl rfl rfl ?_
    refine o_T (y_nilck rfl) rfl ?_
    refine o_take rfl rfl rfl ?_
    refine o_T (y_fa fl_80_0 rfl) rfl ?_
    refine o_take rfl rfl rfl ?_
    refine o_ld one_78 rfl m0 Nt.g0 rfl ?_
    refine o_take rfl rfl rfl ?_
    refine o_T (y_move rfl) rfl ?_
    refine o_take rfl rfl rfl ?_
    refine o_T (y_is sl_78 rfl rfl (by omega) (by omega)) rfl ?_
    refine o_take rfl rfl rfl ?_
    refine o_T (y_fa fl_83_10 rfl) rfl ?_
    refine o_take rfl rfl rfl ?_
    refine o_ld one_3 rfl (ms m0) (Ed.l_state hO k hk (by omega)) rfl ?_
    refine o_take rfl rfl rfl ?_
    refine o_T (y_neq rfl rfl) rfl ?_
    refine o_T (y_pickF rfl rfl) rfl ?_
    refine o_nil1 19 rfl rfl ?_
    refine c_cond rfl (fun h137_1 => ?_) (fun h137_1 => ?_)
    · try simp only [decide_eq_true_eq, decide_eq_false_iff_not, Bool.not_eq_true', Bool.not_eq_false', Int.not_lt, Int.not_le, Decidable.not_not, beq_iff_eq, bne_iff_ne, ne_eq, beq_eq_false_iff_ne] at h137_1
      refine c_seq ?_
      refine c_region ?_
      refine o_L (y_assign rfl) rfl rfl ?_
      refine o_nil0 rfl ?_
      refine c_ret ?_
      refine fun aX wX heX hsX => ret1 Tryz.results36 heX rfl (s_take (s_take s_nil)) ?_
      have e0 : nUnl l k = false := by rw [nUnl_at hk]; exact decide_eq_false h137_1
      have e1 : nUnlisted l k = l := by unfold nUnlisted; rw [e0]; rfl
      rw [e0, e1]
      exact ⟨_, rfl, hn, rfl⟩
    · try simp only [decide_eq_true_eq, decide_eq_false_iff_not, Bool.not_eq_true', Bool.not_eq_false', Int.not_lt, Int.not_le, Decidable.not_not, beq_iff_eq, bne_iff_ne, ne_eq, beq_eq_false_iff_ne] at h137_1
      refine c_skip ?_
      refine c_seq ?_
      refine c_region ?_
      refine o_T (y_move rfl) rfl ?_
      refine o_T (y_nilck rfl) rfl ?_
      refine o_T (y_fa fl_80_0 rfl) rfl ?_
      refine o_ld one_78 rfl m0 Nt.g0 rfl ?_
      refine o_T (y_move rfl) rfl ?_
      refine o_T (y_is sl_78 rfl rfl (by omega) (by omega)) rfl ?_
      refine o_T (y_fa fl_83_15 rfl) rfl ?_
      refine o_st one_4 rfl rfl rfl (rs r0) (set_at (o' := 0 + k * 16 + 15) (by omega)) (Ed.bnd hO k hk 15 (by omega) (by omega)) ?_
      have hS_1 := Ed.w_gone hO k hk (o := 0 + k * 16 + 15) rfl true
      refine o_nil0 rfl ?_
      refine c_seq ?_
      refine c_region ?_
      refine o_L (y_assign rfl) rfl rfl ?_
      refine o_nil0 rfl ?_
      refine c_ret ?_
      refine fun aX wX heX hsX => ret1 Tryz.results36 heX rfl (s_take (s_take s_nil)) ?_
      have e0 : nUnl l k = true := by rw [nUnl_at hk]; exact decide_eq_true h137_1
      have e1 : nUnlisted l k = l.set k { l[k] with gone := true } := by unfold nUnlisted; rw [e0, if_pos rfl, nUpd_at hk]
      rw [e0, e1]
      exact ⟨_, rfl, lstE_of_open hS_1 (by rw [List.length_set]), rfl⟩

end Go.Proofs.Qxb6500351aGreat
