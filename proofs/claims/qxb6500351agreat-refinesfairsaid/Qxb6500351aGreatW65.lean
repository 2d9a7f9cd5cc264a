/- MADE BY PROGRAM (tools/gen.py over tools/specs351.py): walks. -/
import Derived.Test.Qxb6500351aGreatFacts
import Derived.Test.Qxb6500351aGreatW64
set_option linter.unusedVariables false
set_option linter.unusedSimpArgs false
namespace Go.Proofs.Qxb6500351aGreat
open Go.Eng
set_option maxRecDepth 20000
set_option maxHeartbeats 4000000
/-- e2e/towerlaw.Scribble -/
theorem t80 (b : Nat) (l : List Int) (hb : Bytes l) (hl : l.length ≤ 1000000) : Trip Tryz.prog 80 #[byV b l] [byG b l 5] (fun u S' => ∃ l' : List Int, u = .tuple #[] ∧ l'.length = l.length ∧ Bytes l' ∧ S' = [byG b l' 5]) := by
  refine fn_entry (args := [byV b l]) Tryz.func80 rfl Tryz.ntmps80 rfl (fun w0 => ?_)
  refine c_seq ?_
  refine c_region ?_
  refine o_L (y_assign rfl) rfl rfl ?_
  refine o_nil0 rfl ?_
  refine c_block ?_
  refine c_loopG (ι := Nat × List Int) (fun i_ => [(2, .int .i64 (i_.1 : Int))]) (fun i_ => [byG b i_.2 5]) (fun i_ => i_.1 ≤ l.length ∧ i_.2.length = l.length ∧ Bytes i_.2) (fun i_ => l.length - i_.1) (0, l) (by exact ⟨Nat.zero_le _, rfl, hb⟩) ⟨by first | rfl | exact gteI rfl (by omega), trivial⟩ (s_take s_nil) ?_
  rintro ⟨k, l2⟩ ⟨g1, g2, g3⟩
  try dsimp only [List.cons_append, List.nil_append] at *
  refine c_seq ?_
  refine c_seq ?_
  refine c_region ?_
  refine o_T (y_move rfl) rfl ?_
  refine o_T (y_move rfl) rfl ?_
  refine o_T (y_len Tryz.underlying81 rfl) rfl ?_
  refine o_T (y_lss rfl rfl) rfl ?_
  refine o_nil1 6 rfl rfl ?_
  refine c_cond rfl (fun h170 => ?_) (fun h170 => ?_)
  · try simp only [decide_eq_true_eq, decide_eq_false_iff_not, Bool.not_eq_true', Bool.not_eq_false', Int.not_lt, Int.not_le, Decidable.not_not, beq_iff_eq, bne_iff_ne, ne_eq, beq_eq_false_iff_ne] at h170
    refine c_skip ?_
    refine c_seq ?_
    refine c_block ?_
    refine c_region ?_
    refine o_T (y_move rfl) rfl ?_
    refine o_T (y_move rfl) rfl ?_
    refine o_T (y_is sl_81 rfl rfl (by omega) (by omega)) rfl ?_
    refine o_ld one_5 rfl m0 ((BytAt.ful (by first | exact g2 | assumption | omega) (by exact g3) (by omega)).getD (i := k) (by omega) rfl) rfl ?_
    refine o_T (y_xor rfl rfl (scr_bit g3)) rfl ?_
    refine o_T (y_is sl_81 rfl rfl (by omega) (by omega)) rfl ?_
    refine o_st one_5 rfl rfl rfl r0 (bV_set _ k _ rfl) (bV_size _ (by first | omega | (simp only [List.length_set, List.length_replicate]; omega) | (simp <;> omega))) ?_
    refine o_nil0 rfl ?_
    refine c_region ?_
    refine o_T (y_move rfl) rfl ?_
    refine o_T (y_add rfl rfl (w64 (by omega))) rfl ?_
    refine o_L (y_assign rfl) rfl rfl ?_
    refine o_nil0 rfl ?_
    refine ⟨(k + 1, _), ⟨⟨by omega, by rw [List.length_set]; exact g2, scr_b g3⟩, by dsimp only; omega⟩, ⟨gteI rfl (by dsimp only; omega), trivial⟩, ⟨rfl, rfl⟩, _, ((s_take s_nil))⟩
  · try simp only [decide_eq_true_eq, decide_eq_false_iff_not, Bool.not_eq_true', Bool.not_eq_false', Int.not_lt, Int.not_le, Decidable.not_not, beq_iff_eq, bne_iff_ne, ne_eq, beq_eq_false_iff_ne] at h170
    refine c_exit ?_
    refine fun aX wX heX hsX => ret0 Tryz.results80 (s_take s_nil) ?_
    exact ⟨l2, rfl, g2, g3, rfl⟩

end Go.Proofs.Qxb6500351aGreat
