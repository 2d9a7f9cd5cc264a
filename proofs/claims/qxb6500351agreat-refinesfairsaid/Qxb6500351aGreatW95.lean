/- MADE BY PROGRAM (tools/gen.py over tools/specsw.py): walks. -/
import Derived.Test.Qxb6500351aGreatFacts
import Derived.Test.Qxb6500351aGreatMd30
set_option linter.unusedVariables false
set_option linter.unusedSimpArgs false
namespace Go.Proofs.Qxb6500351aGreat
open Go.Eng
set_option maxRecDepth 20000
set_option maxHeartbeats 4000000
attribute [local irreducible] Hst.ent Hst.err Hst.infoC
/-- (*e2e/towerlaw.World).Untouched -/
theorem t16 (A : WA) (q : Bool) (x : Wrld) (V : WV) (outs : List (Nat × Nat)) (ints mine : List (List Int)) (gov god giv gid gmv gmd : List Chunk) (hO : LstN 51 1 outR V.outs outs gov god) (hI : LstN 46 1 inlR V.ints ints giv gid) (hM : LstN 81 1 rowR V.mine mine gmv gmd) (lo : outs.length ≤ 2900000000000) (li : ints.length ≤ 2900000000000) (lm : mine.length ≤ 2900000000000) (ho : ∀ j (h : j < outs.length), outs[j].1 = j) (hi : ∀ j (h : j < ints.length), ints[j] = List.replicate ints[j].length (-1 - (j : Int))) (hm : ∀ j (h : j < mine.length), mine[j] = stp j mine[j].length) : Trip Tryz.prog 16 #[.pointer (some ⟨A.b, 0, none⟩)] [[(A.b, .cells (A.wd q x V).enc 53 (0, 0))], gov, god, giv, gid, gmv, gmd] (fun u S' => u = .bool true ∧ S' = []) := by
  obtain ⟨po, co, hvo⟩ := hO.slice
  have hO2 := hO
  rw [hvo] at hO2
  obtain ⟨pi, ci, hvi⟩ := hI.slice
  have hI2 := hI
  rw [hvi] at hI2
  obtain ⟨pm, cm, hvm⟩ := hM.slice
  have hM2 := hM
  rw [hvm] at hM2
  refine fn_entry (args := [.pointer (some ⟨A.b, 0, none⟩)]) Tryz.func16 rfl Tryz.ntmps16 rfl (fun w0 => ?_)
  refine c_seq ?_
  refine c_region ?_
  refine o_L (y_assign rfl) rfl rfl ?_
  refine o_nil0 rfl ?_
  refine c_seq ?_
  refine c_seq ?_
  refine c_region ?_
  refine o_L (y_assign rfl) rfl rfl ?_
  refine o_nil0 rfl ?_
  refine c_block ?_
  refine c_loopG (ι := Nat) (fun i => [(3, .int .i64 (i : Int))]) (fun i => []) (fun i => i ≤ outs.length) (fun i => outs.length - i) 0 (by omega) ⟨by first | rfl | exact gteI rfl (by omega), trivial⟩ (s_take (s_take (s_take (s_take (s_take (s_take (s_take s_nil))))))) ?_
  rintro j1 f_j1
  try dsimp only at f_j1
  refine c_seq ?_
  refine c_seq ?_
  refine c_region ?_
  refine o_T (y_move rfl) rfl ?_
  refine o_T (y_move rfl) rfl ?_
  refine o_T (y_nilck rfl) rfl ?_
  refine o_T (y_fa fl_53_16 rfl) rfl ?_
  refine o_ld one_50 rfl m0 (Wd.g48.trans (congrArg some hvo)) rfl ?_
  refine o_T (y_len Tryz.underlying50 rfl) rfl ?_
  refine o_T (y_lss rfl rfl) rfl ?_
  refine o_nil1 16 rfl rfl ?_
  refine c_cond rfl (fun h236 => ?_) (fun h236 => ?_)
  · try simp only [decide_eq_true_eq, decide_eq_false_iff_not, Bool.not_eq_true', Bool.not_eq_false', Int.not_lt, Int.not_le, Decidable.not_not, beq_iff_eq, bne_iff_ne, ne_eq, beq_eq_false_iff_ne, WA.wd] at h236
    refine c_skip ?_
    refine c_seq ?_
    refine c_block ?_
    refine c_seq ?_
    have hj1 : j1 < outs.length := by omega
    obtain ⟨b1, cp1, cur1, e1, eg1, hO1⟩ := (hO2.lst (by omega)).open
    injection e1 with e1 e2 e3
    subst e1 e3 eg1
    obtain ⟨bf, bt, no, ga, gb, hco, hno, hgd, hmf⟩ := po_row hO1 j1 hj1 ho
    rw [maxLen_eq] at hno
    refine c_region ?_
    refine o_T (y_move rfl) rfl ?_
    refine o_call en_51 rfl (t51 _ (by omega)) s_nil rfl ?_
    rintro v S' ⟨b_1, rfl, rfl⟩
    refine o_L (y_assign rfl) rfl rfl ?_
    refine o_nil0 rfl ?_
    refine c_seq ?_
    refine c_region ?_
    refine o_L (y_assign rfl) rfl rfl ?_
    refine o_nil0 rfl ?_
    refine c_block ?_
    refine c_loopG (ι := Nat) (fun i => [(5, .int .i64 (i : Int))]) (fun i => []) (fun i => i ≤ no) (fun i => no - i) 0 (by omega) ⟨by first | rfl | exact gteI rfl (by omega), trivial⟩ (s_take (s_take (s_take (s_take (s_take (s_take (s_take (s_take s_nil)))))))) ?_
    rintro k1 f_k1
    try dsimp only at f_k1
    refine c_seq ?_
    refine c_seq ?_
    refine c_region ?_
    refine o_T (y_move rfl) rfl ?_
    refine o_T (y_move rfl) rfl ?_
    refine o_T (y_nilck rfl) rfl ?_
    refine o_T (y_fa fl_53_16 rfl) rfl ?_
    refine o_ld one_50 rfl (ms m0) (Wd.g48.trans (congrArg some hvo)) rfl ?_
    refine o_T (y_move rfl) rfl ?_
    refine o_T (y_is sl_50 rfl rfl (by omega) (by omega)) rfl ?_
    refine o_ld one_51 rfl (ms (ms m0)) (hco _ (by omega)) rfl ?_
    refine o_T (y_len Tryz.underlying51 rfl) rfl ?_
    refine o_T (y_lss rfl rfl) rfl ?_
    refine o_nil1 30 rfl rfl ?_
    refine c_cond rfl (fun h238 => ?_) (fun h238 => ?_)
    · try simp only [decide_eq_true_eq, decide_eq_false_iff_not, Bool.not_eq_true', Bool.not_eq_false', Int.not_lt, Int.not_le, Decidable.not_not, beq_iff_eq, bne_iff_ne, ne_eq, beq_eq_false_iff_ne, WA.wd] at h238
      refine c_skip ?_
      refine c_seq ?_
      refine c_block ?_
      refine c_seq ?_
      refine c_region ?_
      refine o_T (y_move rfl) rfl ?_
      refine o_T (y_nilck rfl) rfl ?_
      refine o_T (y_fa fl_53_16 rfl) rfl ?_
      refine o_ld one_50 rfl (ms m0) (Wd.g48.trans (congrArg some hvo)) rfl ?_
      refine o_T (y_move rfl) rfl ?_
      refine o_T (y_is sl_50 rfl rfl (by omega) (by omega)) rfl ?_
      refine o_ld one_51 rfl (ms (ms m0)) (hco _ (by omega)) rfl ?_
      refine o_T (y_move rfl) rfl ?_
      refine o_T (y_is sl_51 rfl rfl (by omega) (by omega)) rfl ?_
      refine o_ld one_81 rfl (ms (ms (ms (mg hmf)))) (rep_getV _ _ (i := k1) (by omega) (by omega)) rfl ?_
      refine o_T (y_move rfl) rfl ?_
      refine o_callrv en_52 rfl (s52 hgd (tok_bytes _) (tok_len1 _) (ga2 := []) (gb2 := []) (by simp) (tok_bytes _) (tok_len1 _)) (s_get (ks (ks (ks k0))) (s_get k0 s_nil)) rfl ?_
      refine o_T (y_not rfl) rfl ?_
      refine o_nil1 45 rfl rfl ?_
      refine c_cond rfl (fun h239 => ?_) (fun h239 => ?_)
      · try simp only [decide_eq_true_eq, decide_eq_false_iff_not, Bool.not_eq_true', Bool.not_eq_false', Int.not_lt, Int.not_le, Decidable.not_not, beq_iff_eq, bne_iff_ne, ne_eq, beq_eq_false_iff_ne, WA.wd] at h239
        first | exact absurd trivial h239 | exact absurd rfl h239 | (simp at h239; done)
      · try simp only [decide_eq_true_eq, decide_eq_false_iff_not, Bool.not_eq_true', Bool.not_eq_false', Int.not_lt, Int.not_le, Decidable.not_not, beq_iff_eq, bne_iff_ne, ne_eq, beq_eq_false_iff_ne, WA.wd] at h239
        refine c_skip ?_
        refine c_region ?_
        refine o_T (y_move rfl) rfl ?_
        refine o_T (y_add rfl rfl (w64 (by omega))) rfl ?_
        refine o_L (y_assign rfl) rfl rfl ?_
        refine o_nil0 rfl ?_
        refine ⟨(k1 + 1), ⟨by omega, by omega⟩, ⟨gteI rfl (by omega), trivial⟩, ⟨rfl, rfl⟩, _, ((s_take (s_take (s_take (s_take (s_take (s_take (s_take (s_take s_nil)))))))))⟩
    · try simp only [decide_eq_true_eq, decide_eq_false_iff_not, Bool.not_eq_true', Bool.not_eq_false', Int.not_lt, Int.not_le, Decidable.not_not, beq_iff_eq, bne_iff_ne, ne_eq, beq_eq_false_iff_ne, WA.wd] at h238
      refine c_exit ?_
      refine c_region ?_
      refine o_T (y_move rfl) rfl ?_
      refine o_T (y_add rfl rfl (w64 (by omega))) rfl ?_
      refine o_L (y_assign rfl) rfl rfl ?_
      refine o_nil0 rfl ?_
      refine ⟨(j1 + 1), ⟨by omega, by omega⟩, ⟨gteI rfl (by omega), trivial⟩, ⟨rfl, rfl⟩, _, ((s_skip (s_take (s_take (s_take (s_take (s_take (s_take (s_take s_nil)))))))))⟩
  · try simp only [decide_eq_true_eq, decide_eq_false_iff_not, Bool.not_eq_true', Bool.not_eq_false', Int.not_lt, Int.not_le, Decidable.not_not, beq_iff_eq, bne_iff_ne, ne_eq, beq_eq_false_iff_ne, WA.wd] at h236
    refine c_exit ?_
    refine c_seq ?_
    refine c_seq ?_
    refine c_region ?_
    refine o_L (y_assign rfl) rfl rfl ?_
    refine o_nil0 rfl ?_
    refine c_block ?_
    refine c_loopG (ι := Nat) (fun i => [(6, .int .i64 (i : Int))]) (fun i => []) (fun i => i ≤ ints.length) (fun i => ints.length - i) 0 (by omega) ⟨by first | rfl | exact gteI rfl (by omega), trivial⟩ (s_take (s_take (s_take (s_take (s_take (s_take (s_take s_nil))))))) ?_
    rintro j2 f_j2
    try dsimp only at f_j2
    refine c_seq ?_
    refine c_seq ?_
    refine c_region ?_
    refine o_T (y_move rfl) rfl ?_
    refine o_T (y_move rfl) rfl ?_
    refine o_T (y_nilck rfl) rfl ?_
    refine o_T (y_fa fl_53_15 rfl) rfl ?_
    refine o_ld one_49 rfl m0 (Wd.g47.trans (congrArg some hvi)) rfl ?_
    refine o_T (y_len Tryz.underlying49 rfl) rfl ?_
    refine o_T (y_lss rfl rfl) rfl ?_
    refine o_nil1 52 rfl rfl ?_
    refine c_cond rfl (fun h244 => ?_) (fun h244 => ?_)
    · try simp only [decide_eq_true_eq, decide_eq_false_iff_not, Bool.not_eq_true', Bool.not_eq_false', Int.not_lt, Int.not_le, Decidable.not_not, beq_iff_eq, bne_iff_ne, ne_eq, beq_eq_false_iff_ne, WA.wd] at h244
      refine c_skip ?_
      refine c_seq ?_
      refine c_block ?_
      refine c_seq ?_
      have hj2 : j2 < ints.length := by omega
      obtain ⟨b2, cp2, cur2, e1, eg1, hO2⟩ := (hI2.lst (by omega)).open
      injection e1 with e1 e2 e3
      subst e1 e3 eg1
      obtain ⟨bi, ni, hci, hni, hmi⟩ := pi_row hO2 j2 hj2 hi
      have hli : (List.replicate ni (-1 - (j2 : Int))).length = ni := List.length_replicate
      refine c_region ?_
      refine o_L (y_assign rfl) rfl rfl ?_
      refine o_nil0 rfl ?_
      refine c_block ?_
      refine c_loopG (ι := Nat) (fun i => [(7, .int .i64 (i : Int))]) (fun i => []) (fun i => i ≤ (List.replicate ni (-1 - (j2 : Int))).length) (fun i => (List.replicate ni (-1 - (j2 : Int))).length - i) 0 (by omega) ⟨by first | rfl | exact gteI rfl (by omega), trivial⟩ (s_take (s_take (s_take (s_take (s_take (s_take (s_take s_nil))))))) ?_
      rintro k2 f_k2
      try dsimp only at f_k2
      refine c_seq ?_
      refine c_seq ?_
      refine c_region ?_
      refine o_T (y_move rfl) rfl ?_
      refine o_T (y_move rfl) rfl ?_
      refine o_T (y_nilck rfl) rfl ?_
      refine o_T (y_fa fl_53_15 rfl) rfl ?_
      refine o_ld one_49 rfl m0 (Wd.g47.trans (congrArg some hvi)) rfl ?_
      refine o_T (y_move rfl) rfl ?_
      refine o_T (y_is sl_49 rfl rfl (by omega) (by omega)) rfl ?_
      refine o_ld one_46 rfl (ms (ms (ms m0))) (hci _ (by omega)) rfl ?_
      refine o_T (y_len Tryz.underlying46 rfl) rfl ?_
      refine o_T (y_lss rfl rfl) rfl ?_
      refine o_nil1 64 rfl rfl ?_
      refine c_cond rfl (fun h245 => ?_) (fun h245 => ?_)
      · try simp only [decide_eq_true_eq, decide_eq_false_iff_not, Bool.not_eq_true', Bool.not_eq_false', Int.not_lt, Int.not_le, Decidable.not_not, beq_iff_eq, bne_iff_ne, ne_eq, beq_eq_false_iff_ne, WA.wd] at h245
        refine c_skip ?_
        refine c_seq ?_
        refine c_block ?_
        refine c_seq ?_
        refine c_region ?_
        refine o_T (y_move rfl) rfl ?_
        refine o_T (y_nilck rfl) rfl ?_
        refine o_T (y_fa fl_53_15 rfl) rfl ?_
        refine o_ld one_49 rfl m0 (Wd.g47.trans (congrArg some hvi)) rfl ?_
        refine o_T (y_move rfl) rfl ?_
        refine o_T (y_is sl_49 rfl rfl (by omega) (by omega)) rfl ?_
        refine o_ld one_46 rfl (ms (ms (ms m0))) (hci _ (by omega)) rfl ?_
        refine o_T (y_move rfl) rfl ?_
        refine o_T (y_is sl_46 rfl rfl (by omega) (by omega)) rfl ?_
        refine o_ld one_3 rfl (ms (ms (ms (ms (mg hmi))))) (iV_get k2 (by omega) (by omega)) rfl ?_
        refine o_T (y_move rfl) rfl ?_
        refine o_T (y_sub rfl rfl (w64 (by omega))) rfl ?_
        refine o_T (y_neq rfl rfl) rfl ?_
        refine o_nil1 79 rfl rfl ?_
        refine c_cond rfl (fun h246 => ?_) (fun h246 => ?_)
        · try simp only [decide_eq_true_eq, decide_eq_false_iff_not, Bool.not_eq_true', Bool.not_eq_false', Int.not_lt, Int.not_le, Decidable.not_not, beq_iff_eq, bne_iff_ne, ne_eq, beq_eq_false_iff_ne, WA.wd] at h246
          exact absurd (rep_getI _ _ _ (by omega)) h246
        · try simp only [decide_eq_true_eq, decide_eq_false_iff_not, Bool.not_eq_true', Bool.not_eq_false', Int.not_lt, Int.not_le, Decidable.not_not, beq_iff_eq, bne_iff_ne, ne_eq, beq_eq_false_iff_ne, WA.wd] at h246
          refine c_skip ?_
          refine c_region ?_
          refine o_T (y_move rfl) rfl ?_
          refine o_T (y_add rfl rfl (w64 (by omega))) rfl ?_
          refine o_L (y_assign rfl) rfl rfl ?_
          refine o_nil0 rfl ?_
          refine ⟨(k2 + 1), ⟨by omega, by omega⟩, ⟨gteI rfl (by omega), trivial⟩, ⟨rfl, rfl⟩, _, ((s_take (s_take (s_take (s_take (s_take (s_take (s_take s_nil))))))))⟩
      · try simp only [decide_eq_true_eq, decide_eq_false_iff_not, Bool.not_eq_true', Bool.not_eq_false', Int.not_lt, Int.not_le, Decidable.not_not, beq_iff_eq, bne_iff_ne, ne_eq, beq_eq_false_iff_ne, WA.wd] at h245
        refine c_exit ?_
        refine c_region ?_
        refine o_T (y_move rfl) rfl ?_
        refine o_T (y_add rfl rfl (w64 (by omega))) rfl ?_
        refine o_L (y_assign rfl) rfl rfl ?_
        refine o_nil0 rfl ?_
        refine ⟨(j2 + 1), ⟨by omega, by omega⟩, ⟨gteI rfl (by omega), trivial⟩, ⟨rfl, rfl⟩, _, ((s_take (s_take (s_take (s_take (s_take (s_take (s_take s_nil))))))))⟩
    · try simp only [decide_eq_true_eq, decide_eq_false_iff_not, Bool.not_eq_true', Bool.not_eq_false', Int.not_lt, Int.not_le, Decidable.not_not, beq_iff_eq, bne_iff_ne, ne_eq, beq_eq_false_iff_ne, WA.wd] at h244
      refine c_exit ?_
      refine c_seq ?_
      refine c_seq ?_
      refine c_region ?_
      refine o_L (y_assign rfl) rfl rfl ?_
      refine o_nil0 rfl ?_
      refine c_block ?_
      refine c_loopG (ι := Nat) (fun i => [(8, .int .i64 (i : Int))]) (fun i => []) (fun i => i ≤ mine.length) (fun i => mine.length - i) 0 (by omega) ⟨by first | rfl | exact gteI rfl (by omega), trivial⟩ (s_take (s_take (s_take (s_take (s_take (s_take (s_take s_nil))))))) ?_
      rintro j3 f_j3
      try dsimp only at f_j3
      refine c_seq ?_
      refine c_seq ?_
      refine c_region ?_
      refine o_T (y_move rfl) rfl ?_
      refine o_T (y_move rfl) rfl ?_
      refine o_T (y_nilck rfl) rfl ?_
      refine o_T (y_fa fl_53_17 rfl) rfl ?_
      refine o_ld one_51 rfl m0 (Wd.g49.trans (congrArg some hvm)) rfl ?_
      refine o_T (y_len Tryz.underlying51 rfl) rfl ?_
      refine o_T (y_lss rfl rfl) rfl ?_
      refine o_nil1 86 rfl rfl ?_
      refine c_cond rfl (fun h251 => ?_) (fun h251 => ?_)
      · try simp only [decide_eq_true_eq, decide_eq_false_iff_not, Bool.not_eq_true', Bool.not_eq_false', Int.not_lt, Int.not_le, Decidable.not_not, beq_iff_eq, bne_iff_ne, ne_eq, beq_eq_false_iff_ne, WA.wd] at h251
        refine c_skip ?_
        refine c_seq ?_
        refine c_block ?_
        refine c_seq ?_
        have hj3 : j3 < mine.length := by omega
        obtain ⟨b3, cp3, cur3, e1, eg1, hO3⟩ := (hM2.lst (by omega)).open
        injection e1 with e1 e2 e3
        subst e1 e3 eg1
        obtain ⟨bm, nm, hcm, hnm, hmm, hbm⟩ := pm_row hO3 j3 hj3 (hm j3 hj3)
        have hlm : (stp j3 nm).length = nm := stp_len _ _
        refine c_region ?_
        refine o_L (y_assign rfl) rfl rfl ?_
        refine o_nil0 rfl ?_
        refine c_block ?_
        refine c_loopG (ι := Nat) (fun i => [(9, .int .i64 (i : Int))]) (fun i => []) (fun i => i ≤ (stp j3 nm).length) (fun i => (stp j3 nm).length - i) 0 (by omega) ⟨by first | rfl | exact gteI rfl (by omega), trivial⟩ (s_take (s_take (s_take (s_take (s_take (s_take (s_take s_nil))))))) ?_
        rintro k3 f_k3
        try dsimp only at f_k3
        refine c_seq ?_
        refine c_seq ?_
        refine c_region ?_
        refine o_T (y_move rfl) rfl ?_
        refine o_T (y_move rfl) rfl ?_
        refine o_T (y_nilck rfl) rfl ?_
        refine o_T (y_fa fl_53_17 rfl) rfl ?_
        refine o_ld one_51 rfl m0 (Wd.g49.trans (congrArg some hvm)) rfl ?_
        refine o_T (y_move rfl) rfl ?_
        refine o_T (y_is sl_51 rfl rfl (by omega) (by omega)) rfl ?_
        refine o_ld one_81 rfl (ms (ms (ms (ms (ms m0))))) (hcm _ (by omega)) rfl ?_
        refine o_T (y_len Tryz.underlying81 rfl) rfl ?_
        refine o_T (y_lss rfl rfl) rfl ?_
        refine o_nil1 98 rfl rfl ?_
        refine c_cond rfl (fun h252 => ?_) (fun h252 => ?_)
        · try simp only [decide_eq_true_eq, decide_eq_false_iff_not, Bool.not_eq_true', Bool.not_eq_false', Int.not_lt, Int.not_le, Decidable.not_not, beq_iff_eq, bne_iff_ne, ne_eq, beq_eq_false_iff_ne, WA.wd] at h252
          refine c_skip ?_
          refine c_seq ?_
          refine c_block ?_
          refine c_seq ?_
          refine c_draw #[true, true, true, true, true, true, true, true, true, true, true, true, true, true] rfl (n := 14) rfl ?_
          refine d_T 0 rfl (by kernel_rfl) rfl (y_move rfl) rfl ?_
          refine d_T 1 rfl (by kernel_rfl) rfl (y_nilck rfl) rfl ?_
          refine d_T 2 rfl (by kernel_rfl) rfl (y_fa fl_53_17 rfl) rfl ?_
          refine d_ld 3 rfl (by kernel_rfl) one_51 rfl (fun x hx => hx) m0 (Wd.g49.trans (congrArg some hvm)) rfl ?_
          refine d_T 4 rfl (by kernel_rfl) rfl (y_move rfl) rfl ?_
          refine d_T 5 rfl (by kernel_rfl) rfl (y_is sl_51 rfl rfl (by omega) (by omega)) rfl ?_
          refine d_ld 6 rfl (by kernel_rfl) one_81 rfl (fun x hx => hx) (ms (ms (ms (ms (ms m0))))) (hcm _ (by omega)) rfl ?_
          refine d_T 7 rfl (by kernel_rfl) rfl (y_move rfl) rfl ?_
          refine d_T 8 rfl (by kernel_rfl) rfl (y_is sl_81 rfl rfl (by omega) (by omega)) rfl ?_
          refine d_ld 9 rfl (by kernel_rfl) one_5 rfl (fun x hx => hx) (ms (ms (ms (ms (ms (ms (mg hmm))))))) ((BytAt.ful (by first | rfl | assumption | omega) (by exact hbm) (by omega)).getD (i := k3) (by omega) rfl) rfl ?_
          refine d_T 10 rfl (by kernel_rfl) rfl (y_move rfl) rfl ?_
          refine d_T 11 rfl (by kernel_rfl) rfl (y_move rfl) rfl ?_
          refine d_hard 12 rfl (by kernel_rfl) ?_
          refine o_callv en_53 rfl (t53 _ _ (by omega)) rfl ?_
          refine o_stop (fun _ => (fun x hx => hx)) ?_
          refine d_T 13 rfl (by kernel_rfl) rfl (y_neq rfl rfl) rfl ?_
          refine d_nil1 114 (by kernel_rfl) rfl rfl ?_
          refine c_cond rfl (fun h253 => ?_) (fun h253 => ?_)
          · try simp only [decide_eq_true_eq, decide_eq_false_iff_not, Bool.not_eq_true', Bool.not_eq_false', Int.not_lt, Int.not_le, Decidable.not_not, beq_iff_eq, bne_iff_ne, ne_eq, beq_eq_false_iff_ne, WA.wd] at h253
            exact absurd (stp_get _ _ _ (by omega)) h253
          · try simp only [decide_eq_true_eq, decide_eq_false_iff_not, Bool.not_eq_true', Bool.not_eq_false', Int.not_lt, Int.not_le, Decidable.not_not, beq_iff_eq, bne_iff_ne, ne_eq, beq_eq_false_iff_ne, WA.wd] at h253
            refine c_skip ?_
            refine c_region ?_
            refine o_T (y_move rfl) rfl ?_
            refine o_T (y_add rfl rfl (w64 (by omega))) rfl ?_
            refine o_L (y_assign rfl) rfl rfl ?_
            refine o_nil0 rfl ?_
            refine ⟨(k3 + 1), ⟨by omega, by omega⟩, ⟨gteI rfl (by omega), trivial⟩, ⟨rfl, rfl⟩, _, ((s_take (s_take (s_take (s_take (s_take (s_take (s_take s_nil))))))))⟩
        · try simp only [decide_eq_true_eq, decide_eq_false_iff_not, Bool.not_eq_true', Bool.not_eq_false', Int.not_lt, Int.not_le, Decidable.not_not, beq_iff_eq, bne_iff_ne, ne_eq, beq_eq_false_iff_ne, WA.wd] at h252
          refine c_exit ?_
          refine c_region ?_
          refine o_T (y_move rfl) rfl ?_
          refine o_T (y_add rfl rfl (w64 (by omega))) rfl ?_
          refine o_L (y_assign rfl) rfl rfl ?_
          refine o_nil0 rfl ?_
          refine ⟨(j3 + 1), ⟨by omega, by omega⟩, ⟨gteI rfl (by omega), trivial⟩, ⟨rfl, rfl⟩, _, ((s_take (s_take (s_take (s_take (s_take (s_take (s_take s_nil))))))))⟩
      · try simp only [decide_eq_true_eq, decide_eq_false_iff_not, Bool.not_eq_true', Bool.not_eq_false', Int.not_lt, Int.not_le, Decidable.not_not, beq_iff_eq, bne_iff_ne, ne_eq, beq_eq_false_iff_ne, WA.wd] at h251
        refine c_exit ?_
        refine c_seq ?_
        refine c_region ?_
        refine o_L (y_assign rfl) rfl rfl ?_
        refine o_nil0 rfl ?_
        refine c_ret ?_
        refine fun aX wX heX hsX => ret1 Tryz.results16 heX rfl s_nil ?_
        exact ⟨rfl, rfl⟩

end Go.Proofs.Qxb6500351aGreat
