/- MADE BY PROGRAM (tools/gen.py over tools/specsw.py): walks. -/
import Derived.Test.Qxb6500351aGreatRp8
set_option linter.unusedVariables false
set_option linter.unusedSimpArgs false
namespace Go.Proofs.Qxb6500351aGreat
open Go.Eng
set_option maxRecDepth 20000
set_option maxHeartbeats 4000000
/-- (*e2e/towerlaw.World).OwnAll -/
theorem t82r (A : WA) (q : Bool) (x : Wrld) (V : WV) (m : Nat) (gm : List Chunk) (outs : List (Nat × Nat)) (go gdo : List Chunk) (b cap : Nat) (cur : Array Value) (fr : List (List Int)) (gd : List Chunk) (hN : LstN 51 1 outR V.outs outs go gdo) (ho : outs.length ≤ 2900000000000) (hm : PM m V.mine gm) (hmm : m + fr.length ≤ 2900000000000) (hO : LOpen 81 1 rowR b cap cur fr gd) : Trip Tryz.prog 82 #[.pointer (some ⟨A.b, 0, none⟩), .slice (some ⟨b, 0, none⟩) fr.length cap] [[(A.b, .cells (A.wd q x V).enc 53 (0, 0))], gm, go, gdo, [(b, .cells cur 81 (0, 0))], gd] (fun u S' => ∃ (vm vo : Value) (gm' go' gdo' : List Chunk), u = .tuple #[] ∧ PM (m + fr.length) vm gm' ∧ LstN 51 1 outR vo (if cap = 0 then outs else outs ++ [(outs.length, cap)]) go' gdo' ∧ S' = [[(A.b, .cells (A.wd q x { V with mine := vm, outs := vo }).enc 53 (0, 0))], gm', go', gdo']) := by
  obtain ⟨pmi, cmi, hmv⟩ := hN.slice
  have hN2 := hN
  rw [hmv] at hN2
  have hle := hO.le
  have hcm := hO.capm
  have hcm2 := hcm
  rw [maxLen_eq] at hcm2
  have hcs : cur.size = cap := by rw [hO.size, Nat.mul_one]
  refine fn_entry (args := [.pointer (some ⟨A.b, 0, none⟩), .slice (some ⟨b, 0, none⟩) fr.length cap]) Tryz.func82 rfl Tryz.ntmps82 rfl (fun w0 => ?_)
  refine c_seq ?_
  refine c_seq ?_
  refine c_region ?_
  refine o_L (y_assign rfl) rfl rfl ?_
  refine o_nil0 rfl ?_
  refine c_block ?_
  refine c_loopG (ι := Nat × Value × List Chunk × List Chunk) (fun i_ => [(4, .int .i64 (i_.1 : Int))]) (fun i_ => [[(A.b, .cells (A.wd q x { V with mine := i_.2.1 }).enc 53 (0, 0))], i_.2.2.1, i_.2.2.2]) (fun i_ => i_.1 ≤ fr.length ∧ PM (m + i_.1) i_.2.1 i_.2.2.1 ∧ Elems 1 rowR ((cur.toList.take fr.length).drop i_.1) (fr.drop i_.1) i_.2.2.2) (fun i_ => fr.length - i_.1) (0, V.mine, gm, gd) (by exact ⟨Nat.zero_le _, hm, by have := hO.ex; simpa using this⟩) ⟨by first | rfl | exact gteI rfl (by omega), trivial⟩ (s_get k0 (s_get k0 (s_get (ks (ks (ks k0))) (s_get k0 (s_get k0 (s_get k0 s_nil)))))) ?_
  rintro ⟨k, v2, gm2, gd2⟩ ⟨g1, g2, g3⟩
  try dsimp only [List.cons_append, List.nil_append] at *
  refine c_seq ?_
  refine c_seq ?_
  refine c_region ?_
  refine o_T (y_move rfl) rfl ?_
  refine o_T (y_move rfl) rfl ?_
  refine o_T (y_len Tryz.underlying51 rfl) rfl ?_
  refine o_T (y_lss rfl rfl) rfl ?_
  refine o_nil1 11 rfl rfl ?_
  refine c_cond rfl (fun h210 => ?_) (fun h210 => ?_)
  · try simp only [decide_eq_true_eq, decide_eq_false_iff_not, Bool.not_eq_true', Bool.not_eq_false', Int.not_lt, Int.not_le, Decidable.not_not, beq_iff_eq, bne_iff_ne, ne_eq, beq_eq_false_iff_ne, WA.wd] at h210
    refine c_skip ?_
    refine c_seq ?_
    refine c_block ?_
    have hk : k < fr.length := by omega
    obtain ⟨br, gr, hgd, hcur, hbk, hlk, hE⟩ := rows_step g3 hk (by omega)
    subst hgd
    refine c_front (s_get (ks (ks k0)) (s_get k0 (s_get k0 (s_get k0 (s_get k0 (s_get k0 s_nil)))))) ?_
    refine c_opn (List.Perm.refl _) ?_
    refine c_region ?_
    refine o_T (y_move rfl) rfl ?_
    refine o_T (y_move rfl) rfl ?_
    refine o_T (y_move rfl) rfl ?_
    refine o_T (y_is sl_51 rfl rfl (by omega) (by omega)) rfl ?_
    refine o_ld one_81 rfl (ms (ms (ms (ms (ms (ms m0)))))) (hcur _ (by omega)) rfl ?_
    refine o_call en_99 rfl (t99 _ _ _ _ g2 (by omega) ⟨hbk, hlk, .inr ⟨br, rfl, rfl⟩⟩) (s_get (ks (ks k0)) (s_get (ks (ks k0)) (s_get k0 s_nil))) rfl ?_
    rintro v S' ⟨vm_1, gm_1, rfl, hm_1, rfl⟩
    refine o_nil0 rfl ?_
    refine c_region ?_
    refine o_T (y_move rfl) rfl ?_
    refine o_T (y_add rfl rfl (w64 (by omega))) rfl ?_
    refine o_L (y_assign rfl) rfl rfl ?_
    refine o_nil0 rfl ?_
    refine ⟨(k + 1, vm_1, gm_1, gr), ⟨⟨by omega, hm_1, hE⟩, by dsimp only; omega⟩, ⟨gteI rfl (by dsimp only; omega), trivial⟩, ⟨rfl, rfl⟩, _, ((s_take (s_take (s_take (s_take (s_take (s_take s_nil)))))))⟩
  · try simp only [decide_eq_true_eq, decide_eq_false_iff_not, Bool.not_eq_true', Bool.not_eq_false', Int.not_lt, Int.not_le, Decidable.not_not, beq_iff_eq, bne_iff_ne, ne_eq, beq_eq_false_iff_ne, WA.wd] at h210
    refine c_exit ?_
    refine c_seq ?_
    refine c_region ?_
    refine o_T (y_move rfl) rfl ?_
    refine o_T (y_move rfl) rfl ?_
    refine o_T (y_cap Tryz.underlying51 rfl) rfl ?_
    refine o_T (v := .slice (some ⟨b, 0, none⟩) cap cap) (y_full sl_51 rfl rfl) rfl ?_
    refine o_L (y_assign rfl) rfl rfl ?_
    refine o_nil0 rfl ?_
    refine c_seq ?_
    refine c_seq ?_
    refine c_region ?_
    refine o_T (y_move rfl) rfl ?_
    refine o_T (y_len Tryz.underlying51 rfl) rfl ?_
    refine o_T (y_eql rfl rfl) rfl ?_
    refine o_nil1 26 rfl rfl ?_
    refine c_cond rfl (fun h214 => ?_) (fun h214 => ?_)
    · try simp only [decide_eq_true_eq, decide_eq_false_iff_not, Bool.not_eq_true', Bool.not_eq_false', Int.not_lt, Int.not_le, Decidable.not_not, beq_iff_eq, bne_iff_ne, ne_eq, beq_eq_false_iff_ne, WA.wd] at h214
      refine c_ret ?_
      refine fun aX wX heX hsX => ret0 Tryz.results82 (s_take (s_take (s_skip (s_take (s_take s_nil))))) ?_
      obtain rfl : k = fr.length := by omega
      exact ⟨v2, V.outs, _, _, _, rfl, g2, by rw [if_pos (by omega)]; exact hN, rfl⟩
    · try simp only [decide_eq_true_eq, decide_eq_false_iff_not, Bool.not_eq_true', Bool.not_eq_false', Int.not_lt, Int.not_le, Decidable.not_not, beq_iff_eq, bne_iff_ne, ne_eq, beq_eq_false_iff_ne, WA.wd] at h214
      refine c_skip ?_
      refine c_seq ?_
      refine c_region ?_
      refine o_T (y_move rfl) rfl ?_
      refine o_T (y_nilck rfl) rfl ?_
      refine o_T (y_fa fl_53_16 rfl) rfl ?_
      refine o_ld one_50 rfl m0 (Wd.g48.trans (congrArg some hmv)) rfl ?_
      refine o_T (y_len Tryz.underlying50 rfl) rfl ?_
      refine o_call en_51 rfl (t51 _ (by omega)) s_nil rfl ?_
      rintro v S' ⟨b_1, rfl, rfl⟩
      refine o_L (y_assign rfl) rfl rfl ?_
      refine o_nil0 rfl ?_
      refine c_seq ?_
      refine c_seq ?_
      refine c_region ?_
      refine o_L (y_assign rfl) rfl rfl ?_
      refine o_nil0 rfl ?_
      refine c_block ?_
      refine c_loopG (ι := Nat × Array Value) (fun i_ => [(6, .int .i64 (i_.1 : Int))]) (fun i_ => [[(b, .cells i_.2 81 (0, 0))]]) (fun i_ => i_.1 ≤ cap ∧ i_.2.size = cap ∧ i_.2.toList.take i_.1 = List.replicate i_.1 (byV b_1 (tok outs.length))) (fun i_ => cap - i_.1) (0, cur) (by exact ⟨Nat.zero_le _, hcs, by simp⟩) ⟨by first | rfl | exact gteI rfl (by omega), trivial⟩ (s_get (ks (ks (ks (ks (ks (ks k0)))))) (s_get k0 (s_get k0 (s_get k0 (s_get k0 (s_get k0 (s_get k0 s_nil))))))) ?_
      rintro ⟨k2, cur2⟩ ⟨f1, f2, f3⟩
      try dsimp only [List.cons_append, List.nil_append] at *
      refine c_seq ?_
      refine c_seq ?_
      refine c_region ?_
      refine o_T (y_move rfl) rfl ?_
      refine o_T (y_move rfl) rfl ?_
      refine o_T (y_len Tryz.underlying51 rfl) rfl ?_
      refine o_T (y_lss rfl rfl) rfl ?_
      refine o_nil1 36 rfl rfl ?_
      refine c_cond rfl (fun h218 => ?_) (fun h218 => ?_)
      · try simp only [decide_eq_true_eq, decide_eq_false_iff_not, Bool.not_eq_true', Bool.not_eq_false', Int.not_lt, Int.not_le, Decidable.not_not, beq_iff_eq, bne_iff_ne, ne_eq, beq_eq_false_iff_ne, WA.wd] at h218
        refine c_skip ?_
        refine c_seq ?_
        refine c_block ?_
        refine c_region ?_
        refine o_T (y_move rfl) rfl ?_
        refine o_T (y_move rfl) rfl ?_
        refine o_T (y_move rfl) rfl ?_
        refine o_T (y_is sl_51 rfl rfl (by omega) (by omega)) rfl ?_
        refine o_st one_81 rfl rfl rfl r0 rfl (by rw [f2]; omega) ?_
        refine o_nil0 rfl ?_
        refine c_region ?_
        refine o_T (y_move rfl) rfl ?_
        refine o_T (y_add rfl rfl (w64 (by omega))) rfl ?_
        refine o_L (y_assign rfl) rfl rfl ?_
        refine o_nil0 rfl ?_
        refine ⟨(k2 + 1, _), ⟨⟨by omega, (fill_step f2 (by omega) f3).1, (fill_step f2 (by omega) f3).2⟩, by dsimp only; omega⟩, ⟨gteI rfl (by dsimp only; omega), trivial⟩, ⟨rfl, rfl⟩, _, ((s_take (s_take (s_take (s_take (s_take (s_take (s_take s_nil))))))))⟩
      · try simp only [decide_eq_true_eq, decide_eq_false_iff_not, Bool.not_eq_true', Bool.not_eq_false', Int.not_lt, Int.not_le, Decidable.not_not, beq_iff_eq, bne_iff_ne, ne_eq, beq_eq_false_iff_ne, WA.wd] at h218
        refine c_exit ?_
        refine c_seq ?_
        obtain rfl : k2 = cap := by omega
        obtain rfl := fill_all f2 f3
        refine c_sht (List.Perm.refl _) ?_
        refine c_region ?_
        refine o_T (y_move rfl) rfl ?_
        refine o_T (y_nilck rfl) rfl ?_
        refine o_T (y_fa fl_53_16 rfl) rfl ?_
        refine o_ld one_50 rfl (ms m0) (Wd.g48.trans (congrArg some hmv)) rfl ?_
        refine o_T (y_move rfl) rfl ?_
        refine o_bs1 sz_50 rfl rfl rfl rfl rfl rfl (fun b_2 => ?_)
        refine o_lappN sz_50 rfl rfl rfl hN2 rfl rfl (show outR [.slice (some ⟨b, 0, none⟩) k2 k2] (outs.length, k2) ([(b, .cells (List.replicate k2 (byV b_1 (tok outs.length))).toArray 81 (0, 0))] ++ byG b_1 (tok outs.length) 5) from ⟨b, b_1, rfl, hcm, rfl⟩) (s_get (ks (ks (ks (ks (ks k0))))) (s_get (ks (ks (ks (ks (ks k0))))) (s_get k0 (s_get k0 s_nil)))) (by omega) (by omega) rfl (fun v_9 gv_9 hl_9 => ?_)
        obtain ⟨bq_9, cq_9, hvq⟩ := hl_9.slice
        subst hvq
        refine o_L (y_assign rfl) rfl rfl ?_
        refine o_nil0 rfl ?_
        refine c_region ?_
        refine o_T (y_move rfl) rfl ?_
        refine o_T (y_move rfl) rfl ?_
        refine o_T (y_nilck rfl) rfl ?_
        refine o_T (y_fa fl_53_16 rfl) rfl ?_
        refine o_st one_50 rfl rfl rfl (rs (rs r0)) Wd.s48 (of_blt rfl) ?_
        refine o_nil0 rfl ?_
        refine fun aX wX heX hsX => ret0 Tryz.results82 (s_get (ks (ks k0)) (s_get (ks (ks k0)) (s_get k0 (s_get k0 s_nil)))) ?_
        obtain rfl : k = fr.length := by omega
        exact ⟨v2, .slice (some ⟨bq_9, 0, none⟩) (outs ++ [(outs.length, k2)]).length cq_9, _, _, _, rfl, g2, by rw [if_neg (by omega)]; exact .of hl_9, rfl⟩

/-- (*e2e/towerlaw.World).OwnAll -/
theorem t82z (A : WA) (q : Bool) (x : Wrld) (V : WV) : Trip Tryz.prog 82 #[.pointer (some ⟨A.b, 0, none⟩), .slice none 0 0] [[(A.b, .cells (A.wd q x V).enc 53 (0, 0))]] (fun u S' => u = .tuple #[] ∧ S' = [[(A.b, .cells (A.wd q x V).enc 53 (0, 0))]]) := by
  refine fn_entry (args := [.pointer (some ⟨A.b, 0, none⟩), .slice none 0 0]) Tryz.func82 rfl Tryz.ntmps82 rfl (fun w0 => ?_)
  refine c_seq ?_
  refine c_seq ?_
  refine c_region ?_
  refine o_L (y_assign rfl) rfl rfl ?_
  refine o_nil0 rfl ?_
  refine c_block ?_
  refine c_loopG (ι := Nat) (fun i => [(4, .int .i64 (i : Int))]) (fun i => []) (fun i => i = 0) (fun i => 0 - i) 0 (by rfl) ⟨by first | rfl | exact gteI rfl (by omega), trivial⟩ (s_take s_nil) ?_
  rintro k hI
  try dsimp only at hI
  refine c_seq ?_
  refine c_seq ?_
  refine c_region ?_
  refine o_T (y_move rfl) rfl ?_
  refine o_T (y_move rfl) rfl ?_
  refine o_T (y_len Tryz.underlying51 rfl) rfl ?_
  refine o_T (y_lss rfl rfl) rfl ?_
  refine o_nil1 11 rfl rfl ?_
  refine c_cond rfl (fun h210 => ?_) (fun h210 => ?_)
  · try simp only [decide_eq_true_eq, decide_eq_false_iff_not, Bool.not_eq_true', Bool.not_eq_false', Int.not_lt, Int.not_le, Decidable.not_not, beq_iff_eq, bne_iff_ne, ne_eq, beq_eq_false_iff_ne, WA.wd] at h210
    exfalso; omega
  · try simp only [decide_eq_true_eq, decide_eq_false_iff_not, Bool.not_eq_true', Bool.not_eq_false', Int.not_lt, Int.not_le, Decidable.not_not, beq_iff_eq, bne_iff_ne, ne_eq, beq_eq_false_iff_ne, WA.wd] at h210
    refine c_exit ?_
    refine c_seq ?_
    refine c_region ?_
    refine o_T (y_move rfl) rfl ?_
    refine o_T (y_move rfl) rfl ?_
    refine o_T (y_cap Tryz.underlying51 rfl) rfl ?_
    refine o_T (y_fullN sl_51 rfl rfl) rfl ?_
    refine o_L (y_assign rfl) rfl rfl ?_
    refine o_nil0 rfl ?_
    refine c_seq ?_
    refine c_seq ?_
    refine c_region ?_
    refine o_T (y_move rfl) rfl ?_
    refine o_T (y_len Tryz.underlying51 rfl) rfl ?_
    refine o_T (y_eql rfl rfl) rfl ?_
    refine o_nil1 26 rfl rfl ?_
    refine c_cond rfl (fun h214 => ?_) (fun h214 => ?_)
    · try simp only [decide_eq_true_eq, decide_eq_false_iff_not, Bool.not_eq_true', Bool.not_eq_false', Int.not_lt, Int.not_le, Decidable.not_not, beq_iff_eq, bne_iff_ne, ne_eq, beq_eq_false_iff_ne, WA.wd] at h214
      refine c_ret ?_
      refine fun aX wX heX hsX => ret0 Tryz.results82 (s_take s_nil) ?_
      exact ⟨rfl, rfl⟩
    · try simp only [decide_eq_true_eq, decide_eq_false_iff_not, Bool.not_eq_true', Bool.not_eq_false', Int.not_lt, Int.not_le, Decidable.not_not, beq_iff_eq, bne_iff_ne, ne_eq, beq_eq_false_iff_ne, WA.wd] at h214
      exact absurd rfl h214

end Go.Proofs.Qxb6500351aGreat
