/- MADE BY PROGRAM (tools/gen.py over tools/specsw.py): walks. -/
import Derived.Test.Qxb6500351aGreatFacts
import Derived.Test.Qxb6500351aGreatMd23
set_option linter.unusedVariables false
set_option linter.unusedSimpArgs false
namespace Go.Proofs.Qxb6500351aGreat
open Go.Eng
set_option maxRecDepth 20000
set_option maxHeartbeats 4000000
/-- (*e2e/towerlaw.World).waits -/
theorem t34 (A : WA) (q : Bool) (x : Wrld) (V : WV) (gr : List Chunk) (c sd : Int) (hr : LstN 76 3 wtR V.ready x.ready gr []) : Trip Tryz.prog 34 #[.pointer (some ⟨A.b, 0, none⟩), .int .i64 c, .int .i64 sd] [[(A.b, .cells (A.wd q x V).enc 53 (0, 0))], gr] (fun u S' => u = .int .i64 (waitsI x.ready c sd) ∧ S' = [[(A.b, .cells (A.wd q x V).enc 53 (0, 0))], gr]) := by
  obtain ⟨prd, crd, hrv⟩ := hr.slice
  have hrl := lstN_bnd hr
  refine fn_entry (args := [.pointer (some ⟨A.b, 0, none⟩), .int .i64 c, .int .i64 sd]) Tryz.func34 rfl Tryz.ntmps34 rfl (fun w0 => ?_)
  refine c_seq ?_
  refine c_region ?_
  refine o_L (y_assign rfl) rfl rfl ?_
  refine o_nil0 rfl ?_
  refine c_seq ?_
  refine c_seq ?_
  refine c_region ?_
  refine o_L (y_assign rfl) rfl rfl ?_
  refine o_nil0 rfl ?_
  refine c_block ?_
  refine c_loopG (ι := Nat) (fun i => [(7, .int .i64 (i : Int))]) (fun i => []) (fun i => i ≤ x.ready.length ∧ ∀ y ∈ x.ready.take i, ¬ (y.host = c ∧ y.sd = sd)) (fun i => x.ready.length - i) 0 (by exact ⟨by omega, by simp⟩) ⟨by first | rfl | exact gteI rfl (by omega), trivial⟩ (s_take (s_take s_nil)) ?_
  rintro k ⟨g3, g4⟩
  try dsimp only [List.cons_append, List.nil_append] at *
  refine c_seq ?_
  refine c_seq ?_
  refine c_region ?_
  refine o_T (y_move rfl) rfl ?_
  refine o_T (y_move rfl) rfl ?_
  refine o_T (y_nilck rfl) rfl ?_
  refine o_T (y_fa fl_53_14 rfl) rfl ?_
  refine o_ld one_48 rfl m0 (Wd.g46.trans (congrArg some hrv)) rfl ?_
  refine o_T (y_len Tryz.underlying48 rfl) rfl ?_
  refine o_T (y_lss rfl rfl) rfl ?_
  refine o_nil1 14 rfl rfl ?_
  refine c_cond rfl (fun h375 => ?_) (fun h375 => ?_)
  · try simp only [decide_eq_true_eq, decide_eq_false_iff_not, Bool.not_eq_true', Bool.not_eq_false', Int.not_lt, Int.not_le, Decidable.not_not, beq_iff_eq, bne_iff_ne, ne_eq, beq_eq_false_iff_ne, WA.wd] at h375
    refine c_skip ?_
    refine c_seq ?_
    refine c_block ?_
    refine c_seq ?_
    obtain ⟨bw, cpw, cur, hv2, hg2, hO⟩ := (hr.lst (by omega)).open
    subst hg2
    refine c_region ?_
    refine o_T (y_move rfl) rfl ?_
    refine o_T (y_nilck rfl) rfl ?_
    refine o_T (y_fa fl_53_14 rfl) rfl ?_
    refine o_ld one_48 rfl m0 (Wd.g46.trans (congrArg some hv2)) rfl ?_
    refine o_T (y_move rfl) rfl ?_
    refine o_T (y_is sl_48 rfl rfl (by omega) (by omega)) rfl ?_
    refine o_T (y_fa fl_76_0 rfl) rfl ?_
    refine o_ld one_3 rfl (ms m0) (Wt.l_host hO k (by omega) (by omega)) rfl ?_
    refine o_T (y_move rfl) rfl ?_
    refine o_T (y_eql rfl rfl) rfl ?_
    refine o_T (y_move rfl) rfl ?_
    refine o_split 27 rfl (fun h376 => ?_) (fun h376 => ?_)
    · try simp only [decide_eq_true_eq, decide_eq_false_iff_not, Bool.not_eq_true', Bool.not_eq_false', Int.not_lt, Int.not_le, Decidable.not_not, beq_iff_eq, bne_iff_ne, ne_eq, beq_eq_false_iff_ne, WA.wd] at h376
      refine o_take rfl rfl rfl ?_
      refine o_T (y_move rfl) rfl ?_
      refine o_take rfl rfl rfl ?_
      refine o_T (y_nilck rfl) rfl ?_
      refine o_take rfl rfl rfl ?_
      refine o_T (y_fa fl_53_14 rfl) rfl ?_
      refine o_take rfl rfl rfl ?_
      refine o_ld one_48 rfl m0 (Wd.g46.trans (congrArg some hv2)) rfl ?_
      refine o_take rfl rfl rfl ?_
      refine o_T (y_move rfl) rfl ?_
      refine o_take rfl rfl rfl ?_
      refine o_T (y_is sl_48 rfl rfl (by omega) (by omega)) rfl ?_
      refine o_take rfl rfl rfl ?_
      refine o_T (y_fa fl_76_1 rfl) rfl ?_
      refine o_take rfl rfl rfl ?_
      refine o_ld one_3 rfl (ms m0) (Wt.l_sd hO k (by omega) (by omega)) rfl ?_
      refine o_take rfl rfl rfl ?_
      refine o_T (y_move rfl) rfl ?_
      refine o_take rfl rfl rfl ?_
      refine o_T (y_eql rfl rfl) rfl ?_
      refine o_T (y_pickT rfl rfl) rfl ?_
      refine o_nil1 38 rfl rfl ?_
      refine c_cond rfl (fun h376_1 => ?_) (fun h376_1 => ?_)
      · try simp only [decide_eq_true_eq, decide_eq_false_iff_not, Bool.not_eq_true', Bool.not_eq_false', Int.not_lt, Int.not_le, Decidable.not_not, beq_iff_eq, bne_iff_ne, ne_eq, beq_eq_false_iff_ne, WA.wd] at h376_1
        refine c_seq ?_
        refine c_region ?_
        refine o_T (y_move rfl) rfl ?_
        refine o_L (y_assign rfl) rfl rfl ?_
        refine o_nil0 rfl ?_
        refine c_ret ?_
        refine fun aX wX heX hsX => ret1 Tryz.results34 heX rfl (s_take (s_take s_nil)) ?_
        exact ⟨congrArg (Value.int .i64) (waitsI_at g4 (by omega) ⟨by assumption, by assumption⟩).symm, rfl⟩
      · try simp only [decide_eq_true_eq, decide_eq_false_iff_not, Bool.not_eq_true', Bool.not_eq_false', Int.not_lt, Int.not_le, Decidable.not_not, beq_iff_eq, bne_iff_ne, ne_eq, beq_eq_false_iff_ne, WA.wd] at h376_1
        refine c_skip ?_
        refine c_region ?_
        refine o_T (y_move rfl) rfl ?_
        refine o_T (y_add rfl rfl (w64 (by omega))) rfl ?_
        refine o_L (y_assign rfl) rfl rfl ?_
        refine o_nil0 rfl ?_
        refine ⟨(k + 1), ⟨⟨by omega, take_step (P := fun y : Wt => ¬ (y.host = c ∧ y.sd = sd)) g4 (by omega) (by omega)⟩, by first | omega | (dsimp only; omega)⟩, ⟨by first | rfl | exact gteI rfl (by omega), trivial⟩, ⟨rfl, rfl⟩, _, ((s_take (s_take s_nil)))⟩
    · try simp only [decide_eq_true_eq, decide_eq_false_iff_not, Bool.not_eq_true', Bool.not_eq_false', Int.not_lt, Int.not_le, Decidable.not_not, beq_iff_eq, bne_iff_ne, ne_eq, beq_eq_false_iff_ne, WA.wd] at h376
      refine o_pass rfl rfl rfl rfl rfl ?_
      refine o_pass rfl rfl rfl rfl rfl ?_
      refine o_pass rfl rfl rfl rfl rfl ?_
      refine o_pass rfl rfl rfl rfl rfl ?_
      refine o_pass rfl rfl rfl rfl rfl ?_
      refine o_pass rfl rfl rfl rfl rfl ?_
      refine o_pass rfl rfl rfl rfl rfl ?_
      refine o_pass rfl rfl rfl rfl rfl ?_
      refine o_pass rfl rfl rfl rfl rfl ?_
      refine o_pass rfl rfl rfl rfl rfl ?_
      refine o_T (y_pickF rfl rfl) rfl ?_
      refine o_nil1 38 rfl rfl ?_
      refine c_condF rfl ?_
      refine c_skip ?_
      refine c_region ?_
      refine o_T (y_move rfl) rfl ?_
      refine o_T (y_add rfl rfl (w64 (by omega))) rfl ?_
      refine o_L (y_assign rfl) rfl rfl ?_
      refine o_nil0 rfl ?_
      refine ⟨(k + 1), ⟨⟨by omega, take_step (P := fun y : Wt => ¬ (y.host = c ∧ y.sd = sd)) g4 (by omega) (by omega)⟩, by first | omega | (dsimp only; omega)⟩, ⟨by first | rfl | exact gteI rfl (by omega), trivial⟩, ⟨rfl, rfl⟩, _, ((s_take (s_take s_nil)))⟩
  · try simp only [decide_eq_true_eq, decide_eq_false_iff_not, Bool.not_eq_true', Bool.not_eq_false', Int.not_lt, Int.not_le, Decidable.not_not, beq_iff_eq, bne_iff_ne, ne_eq, beq_eq_false_iff_ne, WA.wd] at h375
    refine c_exit ?_
    refine c_seq ?_
    refine c_region ?_
    refine o_L (y_assign rfl) rfl rfl ?_
    refine o_nil0 rfl ?_
    refine c_ret ?_
    refine fun aX wX heX hsX => ret1 Tryz.results34 heX rfl (s_take (s_take s_nil)) ?_
    exact ⟨congrArg (Value.int .i64) (waitsI_none (take_all g4 (by omega))).symm, rfl⟩

/-- (*e2e/towerlaw.World).Own -/
theorem t99r (A : WA) (q : Bool) (x : Wrld) (V : WV) (rows : List (List Int)) (gv gd : List Chunk) (b : Nat) (l : List Int) (hN : LstN 81 1 rowR V.mine rows gv gd) (hm : rows.length ≤ 2900000000000) (hbl : Bytes l) (hl : l.length ≤ 1000) : Trip Tryz.prog 99 #[.pointer (some ⟨A.b, 0, none⟩), byV b l] [[(A.b, .cells (A.wd q x V).enc 53 (0, 0))], gv, gd, byG b l 5] (fun u S' => ∃ (v' : Value) (gv' gd' : List Chunk), u = .tuple #[] ∧ LstN 81 1 rowR v' (if l.length = 0 then rows else rows ++ [stp rows.length l.length]) gv' gd' ∧ S' = [[(A.b, .cells (A.wd q x { V with mine := v' }).enc 53 (0, 0))], gv', gd']) := by
  obtain ⟨pmi, cmi, hmv⟩ := hN.slice
  have hN2 := hN
  rw [hmv] at hN2
  refine fn_entry (args := [.pointer (some ⟨A.b, 0, none⟩), byV b l]) Tryz.func99 rfl Tryz.ntmps99 rfl (fun w0 => ?_)
  refine c_seq ?_
  refine c_region ?_
  refine o_T (y_move rfl) rfl ?_
  refine o_T (y_move rfl) rfl ?_
  refine o_T (y_cap Tryz.underlying81 rfl) rfl ?_
  refine o_T (v := byV b l) (y_full sl_81 rfl rfl) rfl ?_
  refine o_L (y_assign rfl) rfl rfl ?_
  refine o_nil0 rfl ?_
  refine c_seq ?_
  refine c_seq ?_
  refine c_region ?_
  refine o_T (y_move rfl) rfl ?_
  refine o_T (y_len Tryz.underlying81 rfl) rfl ?_
  refine o_T (y_eql rfl rfl) rfl ?_
  refine o_nil1 12 rfl rfl ?_
  refine c_cond rfl (fun h178 => ?_) (fun h178 => ?_)
  · try simp only [decide_eq_true_eq, decide_eq_false_iff_not, Bool.not_eq_true', Bool.not_eq_false', Int.not_lt, Int.not_le, Decidable.not_not, beq_iff_eq, bne_iff_ne, ne_eq, beq_eq_false_iff_ne, WA.wd] at h178
    refine c_ret ?_
    refine fun aX wX heX hsX => ret0 Tryz.results99 (s_take (s_take (s_take s_nil))) ?_
    refine ⟨_, _, _, rfl, ?_, rfl⟩
    rw [if_pos (by omega)]; exact hN
  · try simp only [decide_eq_true_eq, decide_eq_false_iff_not, Bool.not_eq_true', Bool.not_eq_false', Int.not_lt, Int.not_le, Decidable.not_not, beq_iff_eq, bne_iff_ne, ne_eq, beq_eq_false_iff_ne, WA.wd] at h178
    refine c_skip ?_
    refine c_seq ?_
    refine c_region ?_
    refine o_T (y_move rfl) rfl ?_
    refine o_T (y_nilck rfl) rfl ?_
    refine o_T (y_fa fl_53_17 rfl) rfl ?_
    refine o_ld one_51 rfl m0 (Wd.g49.trans (congrArg some hmv)) rfl ?_
    refine o_T (y_len Tryz.underlying51 rfl) rfl ?_
    refine o_L (y_assign rfl) rfl rfl ?_
    refine o_nil0 rfl ?_
    refine c_seq ?_
    refine c_seq ?_
    refine c_region ?_
    refine o_L (y_assign rfl) rfl rfl ?_
    refine o_nil0 rfl ?_
    refine c_block ?_
    refine c_loopG (ι := Nat × List Int) (fun i_ => [(5, .int .i64 (i_.1 : Int))]) (fun i_ => [byG b i_.2 5]) (fun i_ => i_.1 ≤ l.length ∧ i_.2.length = l.length ∧ i_.2.take i_.1 = (stp rows.length l.length).take i_.1 ∧ Bytes i_.2) (fun i_ => l.length - i_.1) (0, l) (by exact ⟨Nat.zero_le _, rfl, by simp, hbl⟩) ⟨by first | rfl | exact gteI rfl (by omega), trivial⟩ (s_get (ks (ks (ks k0))) (s_get k0 (s_get k0 (s_get k0 s_nil)))) ?_
    rintro ⟨k, l2⟩ ⟨g1, g2, g3, g4⟩
    try dsimp only [List.cons_append, List.nil_append] at *
    refine c_seq ?_
    refine c_seq ?_
    refine c_region ?_
    refine o_T (y_move rfl) rfl ?_
    refine o_T (y_move rfl) rfl ?_
    refine o_T (y_len Tryz.underlying81 rfl) rfl ?_
    refine o_T (y_lss rfl rfl) rfl ?_
    refine o_nil1 21 rfl rfl ?_
    refine c_cond rfl (fun h182 => ?_) (fun h182 => ?_)
    · try simp only [decide_eq_true_eq, decide_eq_false_iff_not, Bool.not_eq_true', Bool.not_eq_false', Int.not_lt, Int.not_le, Decidable.not_not, beq_iff_eq, bne_iff_ne, ne_eq, beq_eq_false_iff_ne, WA.wd] at h182
      refine c_skip ?_
      refine c_seq ?_
      refine c_block ?_
      refine c_region ?_
      refine o_T (y_move rfl) rfl ?_
      refine o_T (y_move rfl) rfl ?_
      refine o_T (y_move rfl) rfl ?_
      refine o_T (y_move rfl) rfl ?_
      refine o_callv en_53 rfl (t53 _ _ (by omega)) rfl ?_
      refine o_T (y_is sl_81 rfl rfl (by omega) (by omega)) rfl ?_
      refine o_st one_5 rfl rfl rfl r0 (bV_set _ k _ rfl) (bV_size _ (by first | omega | (simp only [List.length_set, List.length_replicate]; omega) | (simp <;> omega))) ?_
      refine o_nil0 rfl ?_
      refine c_region ?_
      refine o_T (y_move rfl) rfl ?_
      refine o_T (y_add rfl rfl (w64 (by omega))) rfl ?_
      refine o_L (y_assign rfl) rfl rfl ?_
      refine o_nil0 rfl ?_
      refine ⟨(k + 1, _), ⟨⟨by omega, by rw [List.length_set]; exact g2, stp_step g2 (by omega) g3, bytes_set g4 (mark_rng _ _)⟩, by dsimp only; omega⟩, ⟨gteI rfl (by dsimp only; omega), trivial⟩, ⟨rfl, rfl⟩, _, ((s_take (s_take (s_take (s_take s_nil)))))⟩
    · try simp only [decide_eq_true_eq, decide_eq_false_iff_not, Bool.not_eq_true', Bool.not_eq_false', Int.not_lt, Int.not_le, Decidable.not_not, beq_iff_eq, bne_iff_ne, ne_eq, beq_eq_false_iff_ne, WA.wd] at h182
      refine c_exit ?_
      refine c_region ?_
      refine o_T (y_move rfl) rfl ?_
      refine o_T (y_move rfl) rfl ?_
      refine o_T (y_nilck rfl) rfl ?_
      refine o_T (y_fa fl_53_17 rfl) rfl ?_
      refine o_ld one_51 rfl (ms m0) (Wd.g49.trans (congrArg some hmv)) rfl ?_
      refine o_T (y_move rfl) rfl ?_
      refine o_bs1 sz_51 rfl rfl rfl rfl rfl rfl (fun b_1 => ?_)
      refine o_lappN sz_51 rfl rfl rfl hN2 rfl rfl (rowR.mk2 (l := l) g2 g4 (by omega)) (s_get (ks (ks (ks k0))) (s_get (ks (ks (ks k0))) (s_get k0 (s_get k0 s_nil)))) (by omega) (by omega) rfl (fun v_9 gv_9 hl_9 => ?_)
      obtain ⟨bq_9, cq_9, hvq⟩ := hl_9.slice
      subst hvq
      refine o_T (y_nilck rfl) rfl ?_
      refine o_T (y_fa fl_53_17 rfl) rfl ?_
      refine o_st one_51 rfl rfl rfl (rs (rs r0)) Wd.s49 (of_blt rfl) ?_
      refine o_nil0 rfl ?_
      refine fun aX wX heX hsX => ret0 Tryz.results99 (s_get (ks (ks k0)) (s_get k0 (s_get k0 s_nil))) ?_
      obtain rfl : k = l.length := by omega
      obtain rfl := stp_all g2 (stp_len _ _) g3
      exact ⟨.slice (some ⟨bq_9, 0, none⟩) (rows ++ [stp rows.length l.length]).length cq_9, _, _, rfl, by rw [if_neg (by omega)]; exact .of hl_9, rfl⟩

/-- (*e2e/towerlaw.World).Own -/
theorem t99z (A : WA) (q : Bool) (x : Wrld) (V : WV) : Trip Tryz.prog 99 #[.pointer (some ⟨A.b, 0, none⟩), .slice none 0 0] [[(A.b, .cells (A.wd q x V).enc 53 (0, 0))]] (fun u S' => u = .tuple #[] ∧ S' = [[(A.b, .cells (A.wd q x V).enc 53 (0, 0))]]) := by
  refine fn_entry (args := [.pointer (some ⟨A.b, 0, none⟩), .slice none 0 0]) Tryz.func99 rfl Tryz.ntmps99 rfl (fun w0 => ?_)
  refine c_seq ?_
  refine c_region ?_
  refine o_T (y_move rfl) rfl ?_
  refine o_T (y_move rfl) rfl ?_
  refine o_T (y_cap Tryz.underlying81 rfl) rfl ?_
  refine o_T (y_fullN sl_81 rfl rfl) rfl ?_
  refine o_L (y_assign rfl) rfl rfl ?_
  refine o_nil0 rfl ?_
  refine c_seq ?_
  refine c_seq ?_
  refine c_region ?_
  refine o_T (y_move rfl) rfl ?_
  refine o_T (y_len Tryz.underlying81 rfl) rfl ?_
  refine o_T (y_eql rfl rfl) rfl ?_
  refine o_nil1 12 rfl rfl ?_
  refine c_cond rfl (fun h178 => ?_) (fun h178 => ?_)
  · try simp only [decide_eq_true_eq, decide_eq_false_iff_not, Bool.not_eq_true', Bool.not_eq_false', Int.not_lt, Int.not_le, Decidable.not_not, beq_iff_eq, bne_iff_ne, ne_eq, beq_eq_false_iff_ne, WA.wd] at h178
    refine c_ret ?_
    refine fun aX wX heX hsX => ret0 Tryz.results99 (s_take s_nil) ?_
    exact ⟨rfl, rfl⟩
  · try simp only [decide_eq_true_eq, decide_eq_false_iff_not, Bool.not_eq_true', Bool.not_eq_false', Int.not_lt, Int.not_le, Decidable.not_not, beq_iff_eq, bne_iff_ne, ne_eq, beq_eq_false_iff_ne, WA.wd] at h178
    exact absurd rfl h178

end Go.Proofs.Qxb6500351aGreat
