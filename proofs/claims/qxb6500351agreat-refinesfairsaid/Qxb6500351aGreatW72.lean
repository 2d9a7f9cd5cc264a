/- MADE BY PROGRAM (tools/gen.py over tools/specsw.py): walks. -/
import Derived.Test.Qxb6500351aGreatW71
set_option linter.unusedVariables false
set_option linter.unusedSimpArgs false
namespace Go.Proofs.Qxb6500351aGreat
open Go.Eng
set_option maxRecDepth 20000
set_option maxHeartbeats 4000000
/-- (*e2e/towerlaw.World).OwnInts -/
theorem t30r (A : WA) (q : Bool) (x : Wrld) (V : WV) (rows : List (List Int)) (gv gd : List Chunk) (b : Nat) (l : List Int) (hN : LstN 46 1 inlR V.ints rows gv gd) (hm : rows.length ≤ 2900000000000) (hl : l.length ≤ 1000000) : Trip Tryz.prog 30 #[.pointer (some ⟨A.b, 0, none⟩), inV b l] [[(A.b, .cells (A.wd q x V).enc 53 (0, 0))], gv, gd, inG b l 3] (fun u S' => ∃ (v' : Value) (gv' gd' : List Chunk), u = .tuple #[] ∧ LstN 46 1 inlR v' (if l.length = 0 then rows else rows ++ [List.replicate l.length (-1 - (rows.length : Int))]) gv' gd' ∧ S' = [[(A.b, .cells (A.wd q x { V with ints := v' }).enc 53 (0, 0))], gv', gd']) := by
  obtain ⟨pmi, cmi, hmv⟩ := hN.slice
  have hN2 := hN
  rw [hmv] at hN2
  refine fn_entry (args := [.pointer (some ⟨A.b, 0, none⟩), inV b l]) Tryz.func30 rfl Tryz.ntmps30 rfl (fun w0 => ?_)
  refine c_seq ?_
  refine c_region ?_
  refine o_T (y_move rfl) rfl ?_
  refine o_T (y_move rfl) rfl ?_
  refine o_T (y_cap Tryz.underlying46 rfl) rfl ?_
  refine o_T (v := inV b l) (y_full sl_46 rfl rfl) rfl ?_
  refine o_L (y_assign rfl) rfl rfl ?_
  refine o_nil0 rfl ?_
  refine c_seq ?_
  refine c_seq ?_
  refine c_region ?_
  refine o_T (y_move rfl) rfl ?_
  refine o_T (y_len Tryz.underlying46 rfl) rfl ?_
  refine o_T (y_eql rfl rfl) rfl ?_
  refine o_nil1 12 rfl rfl ?_
  refine c_cond rfl (fun h191 => ?_) (fun h191 => ?_)
  · try simp only [decide_eq_true_eq, decide_eq_false_iff_not, Bool.not_eq_true', Bool.not_eq_false', Int.not_lt, Int.not_le, Decidable.not_not, beq_iff_eq, bne_iff_ne, ne_eq, beq_eq_false_iff_ne, WA.wd] at h191
    refine c_ret ?_
    refine fun aX wX heX hsX => ret0 Tryz.results30 (s_take (s_take (s_take s_nil))) ?_
    refine ⟨_, _, _, rfl, ?_, rfl⟩
    rw [if_pos (by omega)]; exact hN
  · try simp only [decide_eq_true_eq, decide_eq_false_iff_not, Bool.not_eq_true', Bool.not_eq_false', Int.not_lt, Int.not_le, Decidable.not_not, beq_iff_eq, bne_iff_ne, ne_eq, beq_eq_false_iff_ne, WA.wd] at h191
    refine c_skip ?_
    refine c_seq ?_
    refine c_region ?_
    refine o_T (y_move rfl) rfl ?_
    refine o_T (y_nilck rfl) rfl ?_
    refine o_T (y_fa fl_53_15 rfl) rfl ?_
    refine o_ld one_49 rfl m0 (Wd.g47.trans (congrArg some hmv)) rfl ?_
    refine o_T (y_len Tryz.underlying49 rfl) rfl ?_
    refine o_L (y_assign rfl) rfl rfl ?_
    refine o_nil0 rfl ?_
    refine c_seq ?_
    refine c_seq ?_
    refine c_region ?_
    refine o_L (y_assign rfl) rfl rfl ?_
    refine o_nil0 rfl ?_
    refine c_block ?_
    refine c_loopG (ι := Nat × List Int) (fun i_ => [(5, .int .i64 (i_.1 : Int))]) (fun i_ => [inG b i_.2 3]) (fun i_ => i_.1 ≤ l.length ∧ i_.2.length = l.length ∧ i_.2.take i_.1 = (List.replicate l.length (-1 - (rows.length : Int))).take i_.1) (fun i_ => l.length - i_.1) (0, l) (by exact ⟨Nat.zero_le _, rfl, by simp⟩) ⟨by first | rfl | exact gteI rfl (by omega), trivial⟩ (s_get (ks (ks (ks k0))) (s_get k0 (s_get k0 (s_get k0 s_nil)))) ?_
    rintro ⟨k, l2⟩ ⟨g1, g2, g3⟩
    try dsimp only [List.cons_append, List.nil_append] at *
    refine c_seq ?_
    refine c_seq ?_
    refine c_region ?_
    refine o_T (y_move rfl) rfl ?_
    refine o_T (y_move rfl) rfl ?_
    refine o_T (y_len Tryz.underlying46 rfl) rfl ?_
    refine o_T (y_lss rfl rfl) rfl ?_
    refine o_nil1 21 rfl rfl ?_
    refine c_cond rfl (fun h195 => ?_) (fun h195 => ?_)
    · try simp only [decide_eq_true_eq, decide_eq_false_iff_not, Bool.not_eq_true', Bool.not_eq_false', Int.not_lt, Int.not_le, Decidable.not_not, beq_iff_eq, bne_iff_ne, ne_eq, beq_eq_false_iff_ne, WA.wd] at h195
      refine c_skip ?_
      refine c_seq ?_
      refine c_block ?_
      refine c_region ?_
      refine o_T (y_move rfl) rfl ?_
      refine o_T (y_move rfl) rfl ?_
      refine o_T (y_move rfl) rfl ?_
      refine o_T (y_sub rfl rfl (w64 (by omega))) rfl ?_
      refine o_T (y_is sl_46 rfl rfl (by omega) (by omega)) rfl ?_
      refine o_st one_3 rfl rfl rfl r0 (iV_set _ k _ (by omega)) (iV_size _ (by rw [g2]; omega)) ?_
      refine o_nil0 rfl ?_
      refine c_region ?_
      refine o_T (y_move rfl) rfl ?_
      refine o_T (y_add rfl rfl (w64 (by omega))) rfl ?_
      refine o_L (y_assign rfl) rfl rfl ?_
      refine o_nil0 rfl ?_
      refine ⟨(k + 1, _), ⟨⟨by omega, by rw [List.length_set]; exact g2, rep_step g2 (by omega) g3⟩, by dsimp only; omega⟩, ⟨gteI rfl (by dsimp only; omega), trivial⟩, ⟨rfl, rfl⟩, _, ((s_take (s_take (s_take (s_take s_nil)))))⟩
    · try simp only [decide_eq_true_eq, decide_eq_false_iff_not, Bool.not_eq_true', Bool.not_eq_false', Int.not_lt, Int.not_le, Decidable.not_not, beq_iff_eq, bne_iff_ne, ne_eq, beq_eq_false_iff_ne, WA.wd] at h195
      refine c_exit ?_
      refine c_region ?_
      refine o_T (y_move rfl) rfl ?_
      refine o_T (y_move rfl) rfl ?_
      refine o_T (y_nilck rfl) rfl ?_
      refine o_T (y_fa fl_53_15 rfl) rfl ?_
      refine o_ld one_49 rfl (ms m0) (Wd.g47.trans (congrArg some hmv)) rfl ?_
      refine o_T (y_move rfl) rfl ?_
      refine o_bs1 sz_49 rfl rfl rfl rfl rfl rfl (fun b_1 => ?_)
      refine o_lappN sz_49 rfl rfl rfl hN2 rfl rfl (inlR.mk2 (l := l) g2 (by omega)) (s_get (ks (ks (ks k0))) (s_get (ks (ks (ks k0))) (s_get k0 (s_get k0 s_nil)))) (by omega) (by omega) rfl (fun v_9 gv_9 hl_9 => ?_)
      obtain ⟨bq_9, cq_9, hvq⟩ := hl_9.slice
      subst hvq
      refine o_T (y_nilck rfl) rfl ?_
      refine o_T (y_fa fl_53_15 rfl) rfl ?_
      refine o_st one_49 rfl rfl rfl (rs (rs r0)) Wd.s47 (of_blt rfl) ?_
      refine o_nil0 rfl ?_
      refine fun aX wX heX hsX => ret0 Tryz.results30 (s_get (ks (ks k0)) (s_get k0 (s_get k0 s_nil))) ?_
      obtain rfl : k = l.length := by omega
      obtain rfl := stp_all g2 (by simp) g3
      exact ⟨.slice (some ⟨bq_9, 0, none⟩) (rows ++ [List.replicate l.length (-1 - (rows.length : Int))]).length cq_9, _, _, rfl, by rw [if_neg (by omega)]; exact .of hl_9, rfl⟩

end Go.Proofs.Qxb6500351aGreat
