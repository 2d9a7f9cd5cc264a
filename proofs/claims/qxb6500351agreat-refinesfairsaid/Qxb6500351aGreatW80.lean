/- MADE BY PROGRAM (tools/gen.py over tools/specsw.py): walks. -/
import Derived.Test.Qxb6500351aGreatRp11
import Derived.Test.Qxb6500351aGreatW73
set_option linter.unusedVariables false
set_option linter.unusedSimpArgs false
namespace Go.Proofs.Qxb6500351aGreat
open Go.Eng
set_option maxRecDepth 20000
set_option maxHeartbeats 4000000
attribute [local irreducible] Hst.ent Hst.err Hst.infoC
/-- (*e2e/towerlaw.World).Listen -/
theorem t44 (A : WA) (q : Bool) (x : Wrld) (V : WV) (gh gq gs : List Chunk) (c : Nat) (c3 : c < 3) (p : Int) (hh : HsG x.H A.hv A.bv gh) (ok : ∀ i, i < 3 → (x.H i).Ok ∧ InfoOk (x.H i)) (hq : q = true → HsG x.H A.qv A.qb gq) (hs : SnG x.seen V.seen gs) (h5 : (x.H c).t.nextSd < 1152921504606846976) (ok2 : ∀ i, i < 3 → ((upA x.H c { (x.H c) with t := ((x.H c).t.listen p).2.2 }) i).Ok ∧ InfoOk ((upA x.H c { (x.H c) with t := ((x.H c).t.listen p).2.2 }) i)) (hl1 : ((x.H c).t.listen p).2.1 = x.lisW c p) (hl2 : ¬ ((x.H c).t.listen p).2.1 = 0 → ((x.H c).t.listen p).1 = 0) (hl3 : ((x.H c).t.listen p).2.1 = 0 → x.top c < ((x.H c).t.listen p).1 ∧ ((upA x.H c { (x.H c) with t := ((x.H c).t.listen p).2.2 }) c).err ((x.H c).t.listen p).1 = 0 ∧ (((upA x.H c { (x.H c) with t := ((x.H c).t.listen p).2.2 }) c).ent ((x.H c).t.listen p).1).kind = 1 ∧ (((upA x.H c { (x.H c) with t := ((x.H c).t.listen p).2.2 }) c).ent ((x.H c).t.listen p).1).lPort = p) : Trip Tryz.prog 44 #[.pointer (some ⟨A.b, 0, none⟩), .int .i64 (c : Int), .int .i64 p] [[(A.b, .cells (A.wd q x V).enc 53 (0, 0))], gh, gq, gs] (fun u S' => u = .bool true ∧ ∃ gh' gq', HsG (upA x.H c { (x.H c) with t := ((x.H c).t.listen p).2.2 }) A.hv A.bv gh' ∧ (q = true → HsG (upA x.H c { (x.H c) with t := ((x.H c).t.listen p).2.2 }) A.qv A.qb gq') ∧ S' = [[(A.b, .cells (A.wd q x V).enc 53 (0, 0))], gh', gq', gs]) := by
  refine fn_entry (args := [.pointer (some ⟨A.b, 0, none⟩), .int .i64 (c : Int), .int .i64 p]) Tryz.func44 rfl Tryz.ntmps44 rfl (fun w0 => ?_)
  refine c_seq ?_
  refine c_region ?_
  refine o_L (y_assign rfl) rfl rfl ?_
  refine o_nil0 rfl ?_
  refine c_seq ?_
  refine c_region ?_
  refine o_L (y_assign rfl) rfl rfl ?_
  refine o_nil0 rfl ?_
  refine c_seq ?_
  refine c_seq ?_
  refine c_joinE (ι := Unit) (fun i => [(18, .bool (decide (p < 1 ∨ 8 ≤ p)))]) (fun i => True) (fun _ _ h => h) ?_ ?_
  · skip
    refine c_region ?_
    refine o_T (y_move rfl) rfl ?_
    refine o_T (y_lss rfl rfl) rfl ?_
    refine o_T (y_move rfl) rfl ?_
    refine o_split 15 rfl (fun h501 => ?_) (fun h501 => ?_)
    · try simp only [decide_eq_true_eq, decide_eq_false_iff_not, Bool.not_eq_true', Bool.not_eq_false', Int.not_lt, Int.not_le, Decidable.not_not, beq_iff_eq, bne_iff_ne, ne_eq, beq_eq_false_iff_ne, WA.wd] at h501
      refine o_pass rfl rfl rfl rfl rfl ?_
      refine o_pass rfl rfl rfl rfl rfl ?_
      refine o_T (y_pickT rfl rfl) rfl ?_
      refine o_nil1 18 rfl rfl ?_
      refine ⟨(), trivial, ⟨gte rfl (congrArg Value.bool (by first | exact (decide_eq_true (by omega)).symm | exact (decide_eq_false (by omega)).symm | exact decide_eq_decide.2 (by omega) | (rw [← decide_not]; exact decide_eq_decide.2 (by omega)) | (simp_all; done))), trivial⟩, ⟨rfl, rfl⟩, _, ((s_take (s_take (s_take (s_take s_nil)))))⟩
    · try simp only [decide_eq_true_eq, decide_eq_false_iff_not, Bool.not_eq_true', Bool.not_eq_false', Int.not_lt, Int.not_le, Decidable.not_not, beq_iff_eq, bne_iff_ne, ne_eq, beq_eq_false_iff_ne, WA.wd] at h501
      refine o_take rfl rfl rfl ?_
      refine o_T (y_move rfl) rfl ?_
      refine o_take rfl rfl rfl ?_
      refine o_T (y_geq rfl rfl) rfl ?_
      refine o_T (y_pickF rfl rfl) rfl ?_
      refine o_nil1 18 rfl rfl ?_
      refine ⟨(), trivial, ⟨gte rfl (congrArg Value.bool (by first | exact (decide_eq_true (by omega)).symm | exact (decide_eq_false (by omega)).symm | exact decide_eq_decide.2 (by omega) | (rw [← decide_not]; exact decide_eq_decide.2 (by omega)) | (simp_all; done))), trivial⟩, ⟨rfl, rfl⟩, _, ((s_take (s_take (s_take (s_take s_nil)))))⟩
  · rintro ⟨⟩ _
    try dsimp only at _
    refine c_joinE (ι := Unit) (fun i => [(7, .int .i64 (x.lisW c p))]) (fun i => True) (fun _ _ h => h) ?_ ?_
    · skip
      refine c_cond rfl (fun h501 => ?_) (fun h501 => ?_)
      · try simp only [decide_eq_true_eq, decide_eq_false_iff_not, Bool.not_eq_true', Bool.not_eq_false', Int.not_lt, Int.not_le, Decidable.not_not, beq_iff_eq, bne_iff_ne, ne_eq, beq_eq_false_iff_ne, WA.wd] at h501
        refine c_region ?_
        refine o_L (y_assign rfl) rfl rfl ?_
        refine o_nil0 rfl ?_
        refine ⟨(), trivial, ⟨gteI rfl (by unfold Wrld.lisW; first | rw [if_pos (by assumption)] | rw [if_neg (by assumption), if_pos (by assumption)] | rw [if_neg (by assumption), if_neg (by simp [*]), if_pos (by omega)] | rw [if_neg (by assumption), if_neg (by simp [*]), if_neg (by omega)]), trivial⟩, ⟨rfl, rfl⟩, _, ((s_take (s_take (s_take (s_take s_nil)))))⟩
      · try simp only [decide_eq_true_eq, decide_eq_false_iff_not, Bool.not_eq_true', Bool.not_eq_false', Int.not_lt, Int.not_le, Decidable.not_not, beq_iff_eq, bne_iff_ne, ne_eq, beq_eq_false_iff_ne, WA.wd] at h501
        refine c_seq ?_
        refine c_region ?_
        refine o_T (y_move rfl) rfl ?_
        refine o_T (y_move rfl) rfl ?_
        refine o_T (y_move rfl) rfl ?_
        refine o_call en_56 rfl (t56 _ _ _ _ _ _ _ (by assumption) _ hh ok hs) (s_take (s_take (s_skip (s_take s_nil)))) rfl ?_
        rintro v S' ⟨rfl, rfl⟩
        refine o_nil1 22 rfl rfl ?_
        refine c_cond rfl (fun h503 => ?_) (fun h503 => ?_)
        · try simp only [decide_eq_true_eq, decide_eq_false_iff_not, Bool.not_eq_true', Bool.not_eq_false', Int.not_lt, Int.not_le, Decidable.not_not, beq_iff_eq, bne_iff_ne, ne_eq, beq_eq_false_iff_ne, WA.wd] at h503
          refine c_region ?_
          refine o_L (y_assign rfl) rfl rfl ?_
          refine o_nil0 rfl ?_
          refine ⟨(), trivial, ⟨gteI rfl (by unfold Wrld.lisW; first | rw [if_pos (by assumption)] | rw [if_neg (by assumption), if_pos (by assumption)] | rw [if_neg (by assumption), if_neg (by simp [*]), if_pos (by omega)] | rw [if_neg (by assumption), if_neg (by simp [*]), if_neg (by omega)]), trivial⟩, ⟨rfl, rfl⟩, _, ((s_get k0 (s_get k0 (s_get (ks k0) (s_get k0 s_nil)))))⟩
        · try simp only [decide_eq_true_eq, decide_eq_false_iff_not, Bool.not_eq_true', Bool.not_eq_false', Int.not_lt, Int.not_le, Decidable.not_not, beq_iff_eq, bne_iff_ne, ne_eq, beq_eq_false_iff_ne, WA.wd] at h503
          refine c_seq ?_
          refine c_region ?_
          refine o_T (y_move rfl) rfl ?_
          refine o_T (y_move rfl) rfl ?_
          refine o_call en_88 rfl (t88 _ _ _ _ _ _ _ (by assumption) _ hh ok hs) (s_take (s_take (s_take s_nil))) rfl ?_
          rintro v S' ⟨rfl, rfl⟩
          refine o_T (y_eql rfl rfl) rfl ?_
          refine o_nil1 26 rfl rfl ?_
          refine c_cond rfl (fun h505 => ?_) (fun h505 => ?_)
          · try simp only [decide_eq_true_eq, decide_eq_false_iff_not, Bool.not_eq_true', Bool.not_eq_false', Int.not_lt, Int.not_le, Decidable.not_not, beq_iff_eq, bne_iff_ne, ne_eq, beq_eq_false_iff_ne, WA.wd] at h505
            refine c_region ?_
            refine o_L (y_assign rfl) rfl rfl ?_
            refine o_nil0 rfl ?_
            refine ⟨(), trivial, ⟨gteI rfl (by unfold Wrld.lisW; first | rw [if_pos (by assumption)] | rw [if_neg (by assumption), if_pos (by assumption)] | rw [if_neg (by assumption), if_neg (by simp [*]), if_pos (by omega)] | rw [if_neg (by assumption), if_neg (by simp [*]), if_neg (by omega)]), trivial⟩, ⟨rfl, rfl⟩, _, ((s_get k0 (s_get k0 (s_get (ks k0) (s_get k0 s_nil)))))⟩
          · try simp only [decide_eq_true_eq, decide_eq_false_iff_not, Bool.not_eq_true', Bool.not_eq_false', Int.not_lt, Int.not_le, Decidable.not_not, beq_iff_eq, bne_iff_ne, ne_eq, beq_eq_false_iff_ne, WA.wd] at h505
            refine c_skip ?_
            refine ⟨(), trivial, ⟨gteI rfl (by unfold Wrld.lisW; first | rw [if_pos (by assumption)] | rw [if_neg (by assumption), if_pos (by assumption)] | rw [if_neg (by assumption), if_neg (by simp [*]), if_pos (by omega)] | rw [if_neg (by assumption), if_neg (by simp [*]), if_neg (by omega)]), trivial⟩, ⟨rfl, rfl⟩, _, ((s_get k0 (s_get k0 (s_get (ks k0) (s_get k0 s_nil)))))⟩
    · rintro ⟨⟩ _
      try dsimp only at _
      refine c_seq ?_
      refine c_region ?_
      refine o_T (y_move rfl) rfl ?_
      refine o_T (y_move rfl) rfl ?_
      refine o_T (y_nilck rfl) rfl ?_
      refine o_T (y_fa fl_53_0 rfl) rfl ?_
      refine o_T (y_ia ar_34 rfl rfl (by omega) (by omega)) rfl ?_
      refine o_ld one_33 rfl m0 (Wd.g_h c (by omega) (by omega)) rfl ?_
      refine o_T (y_move rfl) rfl ?_
      refine o_call en_89 rfl (i89 hh c3 (ok _ c3).1 h5 _) (s_skip (s_take s_nil)) rfl ?_
      rintro v S' ⟨gx_1, rfl, hx_1, rfl⟩
      refine o_T (y_move rfl) rfl ?_
      refine o_T (y_extract rfl rfl) rfl ?_
      refine o_T (y_extract rfl rfl) rfl ?_
      refine o_L (y_assign rfl) rfl rfl ?_
      refine o_L (y_assign rfl) rfl rfl ?_
      refine o_nil0 rfl ?_
      refine c_seq ?_
      refine c_seq ?_
      refine c_region ?_
      refine o_T (y_move rfl) rfl ?_
      refine o_T (y_nilck rfl) rfl ?_
      refine o_T (y_fa fl_53_3 rfl) rfl ?_
      refine o_ld one_4 rfl (ms m0) Wd.g27 rfl ?_
      refine o_nil1 41 rfl rfl ?_
      refine c_front (s_get (ks (ks k0)) (s_get k0 (s_get k0 (s_get k0 s_nil)))) ?_
      refine c_joinD 1 (ι := List Chunk) (fun i => []) (fun i => [i]) (fun i => q = true → HsG (upA x.H c { (x.H c) with t := ((x.H c).t.listen p).2.2 }) A.qv A.qb i) (fun _ _ h => h) ?_ ?_
      · skip
        refine c_cond rfl (fun h509 => ?_) (fun h509 => ?_)
        · try simp only [decide_eq_true_eq, decide_eq_false_iff_not, Bool.not_eq_true', Bool.not_eq_false', Int.not_lt, Int.not_le, Decidable.not_not, beq_iff_eq, bne_iff_ne, ne_eq, beq_eq_false_iff_ne, WA.wd] at h509
          refine c_seq ?_
          refine c_region ?_
          refine o_T (y_move rfl) rfl ?_
          refine o_T (y_move rfl) rfl ?_
          refine o_T (y_nilck rfl) rfl ?_
          refine o_T (y_fa fl_53_2 rfl) rfl ?_
          refine o_T (y_ia ar_34 rfl rfl (by omega) (by omega)) rfl ?_
          refine o_ld one_33 rfl (ms (ms m0)) (Wd.g_q c (by omega) (by omega)) rfl ?_
          refine o_T (y_move rfl) rfl ?_
          refine o_call en_89 rfl (i89 (hq h509) c3 (ok _ c3).1 h5 _) (s_take s_nil) rfl ?_
          rintro v S' ⟨gx_2, rfl, hx_2, rfl⟩
          refine o_T (y_move rfl) rfl ?_
          refine o_T (y_extract rfl rfl) rfl ?_
          refine o_T (y_extract rfl rfl) rfl ?_
          refine o_L (y_assign rfl) rfl rfl ?_
          refine o_L (y_assign rfl) rfl rfl ?_
          refine o_nil0 rfl ?_
          refine c_seq ?_
          refine c_region ?_
          refine o_T (y_move rfl) rfl ?_
          refine o_T (y_move rfl) rfl ?_
          refine o_T (y_neq rfl rfl) rfl ?_
          refine o_T (y_move rfl) rfl ?_
          refine o_split 56 rfl (fun h511 => ?_) (fun h511 => ?_)
          · try simp only [decide_eq_true_eq, decide_eq_false_iff_not, Bool.not_eq_true', Bool.not_eq_false', Int.not_lt, Int.not_le, Decidable.not_not, beq_iff_eq, bne_iff_ne, ne_eq, beq_eq_false_iff_ne, WA.wd] at h511
            exact absurd trivial h511
          · try simp only [decide_eq_true_eq, decide_eq_false_iff_not, Bool.not_eq_true', Bool.not_eq_false', Int.not_lt, Int.not_le, Decidable.not_not, beq_iff_eq, bne_iff_ne, ne_eq, beq_eq_false_iff_ne, WA.wd] at h511
            refine o_take rfl rfl rfl ?_
            refine o_T (y_move rfl) rfl ?_
            refine o_take rfl rfl rfl ?_
            refine o_T (y_move rfl) rfl ?_
            refine o_take rfl rfl rfl ?_
            refine o_T (y_neq rfl rfl) rfl ?_
            refine o_T (y_pickF rfl rfl) rfl ?_
            refine o_nil1 60 rfl rfl ?_
            refine c_cond rfl (fun h511_1 => ?_) (fun h511_1 => ?_)
            · try simp only [decide_eq_true_eq, decide_eq_false_iff_not, Bool.not_eq_true', Bool.not_eq_false', Int.not_lt, Int.not_le, Decidable.not_not, beq_iff_eq, bne_iff_ne, ne_eq, beq_eq_false_iff_ne, WA.wd] at h511_1
              exact absurd trivial h511_1
            · try simp only [decide_eq_true_eq, decide_eq_false_iff_not, Bool.not_eq_true', Bool.not_eq_false', Int.not_lt, Int.not_le, Decidable.not_not, beq_iff_eq, bne_iff_ne, ne_eq, beq_eq_false_iff_ne, WA.wd] at h511_1
              refine c_skip ?_
              refine ⟨gx_2, fun _ => hx_2, trivial, ⟨rfl, rfl⟩, _, ((s_take (s_take (s_take (s_take s_nil)))))⟩
        · try simp only [decide_eq_true_eq, decide_eq_false_iff_not, Bool.not_eq_true', Bool.not_eq_false', Int.not_lt, Int.not_le, Decidable.not_not, beq_iff_eq, bne_iff_ne, ne_eq, beq_eq_false_iff_ne, WA.wd] at h509
          refine c_skip ?_
          refine ⟨gq, fun z => absurd (z.symm.trans h509) (fun y => nomatch y), trivial, ⟨rfl, rfl⟩, _, ((s_take (s_take (s_take (s_take s_nil)))))⟩
      · rintro gq2 hq2
        try dsimp only at hq2
        refine c_seq ?_
        refine c_seq ?_
        refine c_region ?_
        refine o_T (y_move rfl) rfl ?_
        refine o_T (y_move rfl) rfl ?_
        refine o_T (y_neq rfl rfl) rfl ?_
        refine o_nil1 63 rfl rfl ?_
        refine c_cond rfl (fun h515 => ?_) (fun h515 => ?_)
        · try simp only [decide_eq_true_eq, decide_eq_false_iff_not, Bool.not_eq_true', Bool.not_eq_false', Int.not_lt, Int.not_le, Decidable.not_not, beq_iff_eq, bne_iff_ne, ne_eq, beq_eq_false_iff_ne, WA.wd] at h515
          exact absurd hl1 h515
        · try simp only [decide_eq_true_eq, decide_eq_false_iff_not, Bool.not_eq_true', Bool.not_eq_false', Int.not_lt, Int.not_le, Decidable.not_not, beq_iff_eq, bne_iff_ne, ne_eq, beq_eq_false_iff_ne, WA.wd] at h515
          refine c_skip ?_
          refine c_seq ?_
          refine c_seq ?_
          refine c_region ?_
          refine o_T (y_move rfl) rfl ?_
          refine o_T (y_neq rfl rfl) rfl ?_
          refine o_nil1 65 rfl rfl ?_
          refine c_cond rfl (fun h518 => ?_) (fun h518 => ?_)
          · try simp only [decide_eq_true_eq, decide_eq_false_iff_not, Bool.not_eq_true', Bool.not_eq_false', Int.not_lt, Int.not_le, Decidable.not_not, beq_iff_eq, bne_iff_ne, ne_eq, beq_eq_false_iff_ne, WA.wd] at h518
            refine c_seq ?_
            refine c_region ?_
            refine o_T (y_move rfl) rfl ?_
            refine o_T (y_eql rfl rfl) rfl ?_
            refine o_L (y_assign rfl) rfl rfl ?_
            refine o_nil0 rfl ?_
            refine c_ret ?_
            refine fun aX wX heX hsX => ret1 Tryz.results44 heX rfl (s_get (ks (ks k0)) (s_get (ks k0) (s_get k0 (s_get k0 s_nil)))) ?_
            refine ⟨congrArg Value.bool (decide_eq_true (hl2 h518)), _, _, hx_1, hq2, rfl⟩
          · try simp only [decide_eq_true_eq, decide_eq_false_iff_not, Bool.not_eq_true', Bool.not_eq_false', Int.not_lt, Int.not_le, Decidable.not_not, beq_iff_eq, bne_iff_ne, ne_eq, beq_eq_false_iff_ne, WA.wd] at h518
            refine c_skip ?_
            refine c_seq ?_
            refine c_region ?_
            refine o_T (y_move rfl) rfl ?_
            refine o_T (y_move rfl) rfl ?_
            refine o_T (y_nilck rfl) rfl ?_
            refine o_T (y_fa fl_53_0 rfl) rfl ?_
            refine o_T (y_ia ar_34 rfl rfl (by omega) (by omega)) rfl ?_
            refine o_ld one_33 rfl (ms (ms m0)) (Wd.g_h c (by omega) (by omega)) rfl ?_
            refine o_T (y_move rfl) rfl ?_
            refine o_call en_32 rfl (i32 hx_1 c3 (ok2 _ c3).1 _ ((ok2 _ c3).2 _)) (s_skip (s_take s_nil)) rfl ?_
            rintro v S' ⟨pc_1, gc_1, rfl, hi_1, rfl⟩
            refine o_T (y_move rfl) rfl ?_
            refine o_T (y_extract rfl rfl) rfl ?_
            refine o_T (y_extract rfl rfl) rfl ?_
            refine o_alloc ze_69 rfl rfl (fun b_1 => ?_)
            refine o_sta ag_69 rfl rfl (si_plain hi_1) rfl r0 (setAll_full _ _ rfl) (of_ble rfl) ?_
            refine o_L (y_assign rfl) rfl rfl ?_
            refine o_nil0 rfl ?_
            refine c_seq ?_
            refine c_region ?_
            refine o_T (y_move rfl) rfl ?_
            refine o_T (y_move rfl) rfl ?_
            refine o_T (y_move rfl) rfl ?_
            refine o_T (y_nilck rfl) rfl ?_
            refine o_T (y_fa fl_53_7 rfl) rfl ?_
            refine o_T (y_ia ar_45 rfl rfl (by omega) (by omega)) rfl ?_
            refine o_ld one_3 rfl (ms (ms (ms (ms m0)))) (Wd.g_top c (by omega) (by omega)) rfl ?_
            refine o_T (y_gtr rfl rfl) rfl ?_
            refine o_T (y_move rfl) rfl ?_
            refine o_split 87 rfl (fun h522 => ?_) (fun h522 => ?_)
            · try simp only [decide_eq_true_eq, decide_eq_false_iff_not, Bool.not_eq_true', Bool.not_eq_false', Int.not_lt, Int.not_le, Decidable.not_not, beq_iff_eq, bne_iff_ne, ne_eq, beq_eq_false_iff_ne, WA.wd] at h522
              refine o_take rfl rfl rfl ?_
              refine o_T (y_move rfl) rfl ?_
              refine o_take rfl rfl rfl ?_
              refine o_T (y_eql rfl rfl) rfl ?_
              refine o_T (y_pickT rfl rfl) rfl ?_
              refine o_T (y_move rfl) rfl ?_
              refine o_split 91 rfl (fun h522_1 => ?_) (fun h522_1 => ?_)
              · try simp only [decide_eq_true_eq, decide_eq_false_iff_not, Bool.not_eq_true', Bool.not_eq_false', Int.not_lt, Int.not_le, Decidable.not_not, beq_iff_eq, bne_iff_ne, ne_eq, beq_eq_false_iff_ne, WA.wd] at h522_1
                refine o_take rfl rfl rfl ?_
                refine o_T (y_fa fl_69_0 rfl) rfl ?_
                refine o_take rfl rfl rfl ?_
                refine o_T (y_fa fl_66_1 rfl) rfl ?_
                refine o_take rfl rfl rfl ?_
                refine o_ld one_3 rfl m0 Si.g1 rfl ?_
                refine o_take rfl rfl rfl ?_
                refine o_T (y_eql rfl rfl) rfl ?_
                refine o_T (y_pickT rfl rfl) rfl ?_
                refine o_T (y_move rfl) rfl ?_
                refine o_split 97 rfl (fun h522_2 => ?_) (fun h522_2 => ?_)
                · try simp only [decide_eq_true_eq, decide_eq_false_iff_not, Bool.not_eq_true', Bool.not_eq_false', Int.not_lt, Int.not_le, Decidable.not_not, beq_iff_eq, bne_iff_ne, ne_eq, beq_eq_false_iff_ne, WA.wd] at h522_2
                  refine o_take rfl rfl rfl ?_
                  refine o_T (y_fa fl_69_0 rfl) rfl ?_
                  refine o_take rfl rfl rfl ?_
                  refine o_T (y_fa fl_66_2 rfl) rfl ?_
                  refine o_take rfl rfl rfl ?_
                  refine o_ld one_3 rfl m0 Si.g2 rfl ?_
                  refine o_take rfl rfl rfl ?_
                  refine o_T (y_move rfl) rfl ?_
                  refine o_take rfl rfl rfl ?_
                  refine o_T (y_eql rfl rfl) rfl ?_
                  refine o_T (y_pickT rfl rfl) rfl ?_
                  refine o_L (y_assign rfl) rfl rfl ?_
                  refine o_nil0 rfl ?_
                  refine c_ret ?_
                  refine fun aX wX heX hsX => ret1 Tryz.results44 heX rfl (s_get (ks (ks (ks (ks k0)))) (s_get (ks (ks k0)) (s_get (ks (ks k0)) (s_get (ks (ks k0)) s_nil)))) ?_
                  obtain ⟨e3a, e3b, e3c, e3d⟩ := hl3 (by omega)
                  refine ⟨congrArg Value.bool ?_, _, _, hx_1, hq2, rfl⟩
                  exact decide_eq_true e3d
                · try simp only [decide_eq_true_eq, decide_eq_false_iff_not, Bool.not_eq_true', Bool.not_eq_false', Int.not_lt, Int.not_le, Decidable.not_not, beq_iff_eq, bne_iff_ne, ne_eq, beq_eq_false_iff_ne, WA.wd] at h522_2
                  have e3 := hl3 (by omega); first | exact absurd e3.1 (by omega) | exact absurd e3.2.1 h522_2 | exact absurd e3.2.2.1 h522_2 | exact absurd e3.2.2.2 h522_2
              · try simp only [decide_eq_true_eq, decide_eq_false_iff_not, Bool.not_eq_true', Bool.not_eq_false', Int.not_lt, Int.not_le, Decidable.not_not, beq_iff_eq, bne_iff_ne, ne_eq, beq_eq_false_iff_ne, WA.wd] at h522_1
                have e3 := hl3 (by omega); first | exact absurd e3.1 (by omega) | exact absurd e3.2.1 h522_1 | exact absurd e3.2.2.1 h522_1 | exact absurd e3.2.2.2 h522_1
            · try simp only [decide_eq_true_eq, decide_eq_false_iff_not, Bool.not_eq_true', Bool.not_eq_false', Int.not_lt, Int.not_le, Decidable.not_not, beq_iff_eq, bne_iff_ne, ne_eq, beq_eq_false_iff_ne, WA.wd] at h522
              have e3 := hl3 (by omega); first | exact absurd e3.1 (by omega) | exact absurd e3.2.1 h522 | exact absurd e3.2.2.1 h522 | exact absurd e3.2.2.2 h522

end Go.Proofs.Qxb6500351aGreat
