/- MADE BY PROGRAM (tools/gen.py over tools/specsw.py): walks. -/
import Derived.Test.Qxb6500351aGreatRp12
set_option linter.unusedVariables false
set_option linter.unusedSimpArgs false
namespace Go.Proofs.Qxb6500351aGreat
open Go.Eng
set_option maxRecDepth 20000
set_option maxHeartbeats 4000000
attribute [local irreducible] Hst.ent Hst.err Hst.infoC
/-- (*e2e/towerlaw.World).Observe -/
theorem t50 (A : WA) (q : Bool) (x : Wrld) (V : WV) (m : Nat) (gh gq gw gn gs gr gi go gm : List Chunk) (W : WG A q x V m gh gq gw gn gs gr gi go gm) (hm : m ≤ 2700000000000) (hb : HBnd x) (c : Nat) (c3 : c < 3) (kd oa ob oc : Int) (os ot : ByteArray) (hck : (x.H c).ChkOk) (hclk : (x.H c).clock = x.ticks) : Trip Tryz.prog 50 #[.pointer (some ⟨A.b, 0, none⟩), .int .i64 (c : Int), .agg (Opn.mk kd oa ob oc os ot).enc] [[(A.b, .cells (A.wd q x V).enc 53 (0, 0))], gh, gq, gw, gn, gs, gr, gi, go, gm] (fun u S' => u = .bool true ∧ WPost A q x V.cm (m + 60) S') := by
  have hll := (x.H c).t.list_len
  refine fn_entry (args := [.pointer (some ⟨A.b, 0, none⟩), .int .i64 (c : Int), .agg (Opn.mk kd oa ob oc os ot).enc]) Tryz.func50 rfl Tryz.ntmps50 rfl (fun w0 => ?_)
  refine c_seq ?_
  refine c_region ?_
  refine o_box rfl rfl rfl rfl (fun b_1 => ?_)
  refine o_L (y_assign rfl) rfl rfl ?_
  refine o_nil0 rfl ?_
  refine c_seq ?_
  refine c_region ?_
  refine o_T (y_move rfl) rfl ?_
  refine o_T (y_move rfl) rfl ?_
  refine o_T (y_nilck rfl) rfl ?_
  refine o_T (y_fa fl_53_0 rfl) rfl ?_
  refine o_T (y_ia ar_34 rfl rfl (by omega) (by omega)) rfl ?_
  refine o_ld one_33 rfl (ms m0) (Wd.g_h c (by omega) (by omega)) rfl ?_
  refine o_L (y_assign rfl) rfl rfl ?_
  refine o_nil0 rfl ?_
  refine c_seq ?_
  refine c_seq ?_
  refine c_region ?_
  refine o_T (y_fa fl_32_0 rfl) rfl ?_
  refine o_ld one_3 rfl m0 Opn.g0 rfl ?_
  refine o_nil1 23 rfl rfl ?_
  refine c_block ?_
  refine c_seq ?_
  refine c_region ?_
  refine o_T (y_eql rfl rfl) rfl ?_
  refine o_L (y_assign rfl) rfl rfl ?_
  refine o_nil0 rfl ?_
  refine c_cond rfl (fun h737 => ?_) (fun h737 => ?_)
  · try simp only [decide_eq_true_eq, decide_eq_false_iff_not, Bool.not_eq_true', Bool.not_eq_false', Int.not_lt, Int.not_le, Decidable.not_not, beq_iff_eq, bne_iff_ne, ne_eq, beq_eq_false_iff_ne, WA.wd] at h737
    refine c_seq ?_
    refine c_region ?_
    refine o_T (y_move rfl) rfl ?_
    refine o_T (y_fa fl_32_1 rfl) rfl ?_
    refine o_ld one_3 rfl m0 Opn.g1 rfl ?_
    refine o_call en_32 rfl (i32 W.h c3 (hb.ok _ c3).1 _ ((hb.ok _ c3).2 _)) (s_skip (s_skip (s_take s_nil))) rfl ?_
    rintro v S' ⟨pc_1, gc_1, rfl, hi_1, rfl⟩
    refine o_T (y_move rfl) rfl ?_
    refine o_T (y_extract rfl rfl) rfl ?_
    refine o_T (y_extract rfl rfl) rfl ?_
    refine o_alloc ze_69 rfl rfl (fun b_2 => ?_)
    refine o_sta ag_69 rfl rfl (si_plain hi_1) rfl r0 (setAll_full _ _ rfl) (of_ble rfl) ?_
    refine o_L (y_assign rfl) rfl rfl ?_
    refine o_nil0 rfl ?_
    refine c_seq ?_
    refine c_region ?_
    refine o_T (y_move rfl) rfl ?_
    refine o_T (y_nilck rfl) rfl ?_
    refine o_T (y_fa fl_53_3 rfl) rfl ?_
    refine o_ld one_4 rfl (ms (ms (ms (ms m0)))) Wd.g27 rfl ?_
    refine o_nil1 36 rfl rfl ?_
    refine c_cond rfl (fun h739 => ?_) (fun h739 => ?_)
    · try simp only [decide_eq_true_eq, decide_eq_false_iff_not, Bool.not_eq_true', Bool.not_eq_false', Int.not_lt, Int.not_le, Decidable.not_not, beq_iff_eq, bne_iff_ne, ne_eq, beq_eq_false_iff_ne, WA.wd] at h739
      refine c_seq ?_
      refine c_draw #[true, true, true, true, true, true, true, true, true, true, true, true, true, false, true] rfl (n := 15) rfl ?_
      refine d_T 0 rfl (by kernel_rfl) rfl (y_move rfl) rfl ?_
      refine d_T 1 rfl (by kernel_rfl) rfl (y_move rfl) rfl ?_
      refine d_T 2 rfl (by kernel_rfl) rfl (y_nilck rfl) rfl ?_
      refine d_T 3 rfl (by kernel_rfl) rfl (y_fa fl_53_2 rfl) rfl ?_
      refine d_T 4 rfl (by kernel_rfl) rfl (y_ia ar_34 rfl rfl (by omega) (by omega)) rfl ?_
      refine d_ld 5 rfl (by kernel_rfl) one_33 rfl (fun x hx => hx) (ms (ms (ms (ms m0)))) (Wd.g_q c (by omega) (by omega)) rfl ?_
      refine d_T 6 rfl (by kernel_rfl) rfl (y_fa fl_32_1 rfl) rfl ?_
      refine d_ld 7 rfl (by kernel_rfl) one_3 rfl (fun x hx => hx) (ms (ms (ms m0))) Opn.g1 rfl ?_
      refine d_hard2A 12 8 (l := [8, 12]) rfl rfl (by kernel_rfl) (by first | exact .inl rfl | exact .inr rfl) ze_69 rfl rfl (fun b_3 => ?_) ?_
      · skip
        refine d_hard 8 rfl (by kernel_rfl) ?_
        refine o_call en_32 rfl (i32 (W.q h739) c3 (hb.ok _ c3).1 _ ((hb.ok _ c3).2 _)) (s_skip (s_skip (s_skip (s_skip (s_skip (s_skip (s_take s_nil))))))) rfl ?_
        rintro v S' ⟨pc_2, gc_2, rfl, hi_2, rfl⟩
        refine o_front (s_get k0 (s_get (ks k0) (s_get (ks k0) (s_get (ks k0) (s_get (ks k0) (s_get (ks k0) (s_get (ks k0) (s_get k0 (s_get k0 (s_get k0 (s_get k0 (s_get k0 (s_get k0 (s_get k0 (s_get k0 s_nil))))))))))))))) ?_
        refine o_stop (fun _ => (fun x hx => (ms (ms hx)))) ?_
        refine d_T 9 rfl (by kernel_rfl) rfl (y_move rfl) rfl ?_
        refine d_T 10 rfl (by kernel_rfl) rfl (y_extract rfl rfl) rfl ?_
        refine d_T 11 rfl (by kernel_rfl) rfl (y_extract rfl rfl) rfl ?_
        refine d_hard 13 rfl (by kernel_rfl) ?_
        refine o_sta ag_69 rfl rfl (si_plain hi_2) rfl (rs r0) (setAll_full _ _ rfl) (of_ble rfl) ?_
        refine o_stop (fun h => nomatch h) ?_
        refine d_L 14 rfl (by kernel_rfl) rfl (y_assign rfl) rfl rfl ?_
        refine d_nil0 (by kernel_rfl) rfl ?_
        refine c_seq ?_
        refine c_seq ?_
        refine c_region ?_
        refine o_T (y_move rfl) rfl ?_
        refine o_T (y_move rfl) rfl ?_
        refine o_T (y_neq rfl rfl) rfl ?_
        refine o_T (y_move rfl) rfl ?_
        refine o_split 52 rfl (fun h741 => ?_) (fun h741 => ?_)
        · try simp only [decide_eq_true_eq, decide_eq_false_iff_not, Bool.not_eq_true', Bool.not_eq_false', Int.not_lt, Int.not_le, Decidable.not_not, beq_iff_eq, bne_iff_ne, ne_eq, beq_eq_false_iff_ne, WA.wd] at h741
          first | exact absurd trivial h741 | exact absurd rfl h741 | exact absurd ((sameEn_self _).symm.trans h741) (fun z => nomatch z)
        · try simp only [decide_eq_true_eq, decide_eq_false_iff_not, Bool.not_eq_true', Bool.not_eq_false', Int.not_lt, Int.not_le, Decidable.not_not, beq_iff_eq, bne_iff_ne, ne_eq, beq_eq_false_iff_ne, WA.wd] at h741
          refine o_take rfl rfl rfl ?_
          refine o_T (y_fa fl_69_0 rfl) rfl ?_
          refine o_take rfl rfl rfl ?_
          refine o_lda ag_66 rfl (ms (ms m0)) rfl (of_ble rfl) rfl ?_
          refine o_take rfl rfl rfl ?_
          refine o_T (y_fa fl_69_0 rfl) rfl ?_
          refine o_take rfl rfl rfl ?_
          refine o_lda ag_66 rfl (ms m0) rfl (of_ble rfl) rfl ?_
          refine o_take rfl rfl rfl ?_
          refine o_callv en_74 rfl (t74 _ _) rfl ?_
          refine o_take rfl rfl rfl ?_
          refine o_T (y_not rfl) rfl ?_
          refine o_T (y_pickF rfl rfl) rfl ?_
          refine o_nil1 59 rfl rfl ?_
          refine c_cond rfl (fun h741_1 => ?_) (fun h741_1 => ?_)
          · try simp only [decide_eq_true_eq, decide_eq_false_iff_not, Bool.not_eq_true', Bool.not_eq_false', Int.not_lt, Int.not_le, Decidable.not_not, beq_iff_eq, bne_iff_ne, ne_eq, beq_eq_false_iff_ne, WA.wd] at h741_1
            first | exact absurd trivial h741_1 | exact absurd rfl h741_1 | exact absurd ((sameEn_self _).symm.trans h741_1) (fun z => nomatch z)
          · try simp only [decide_eq_true_eq, decide_eq_false_iff_not, Bool.not_eq_true', Bool.not_eq_false', Int.not_lt, Int.not_le, Decidable.not_not, beq_iff_eq, bne_iff_ne, ne_eq, beq_eq_false_iff_ne, WA.wd] at h741_1
            refine c_skip ?_
            refine c_seq ?_
            refine c_region ?_
            refine o_T (y_fa fl_69_1 rfl) rfl ?_
            refine o_ld one_67 rfl (ms (ms m0)) Si.g8 rfl ?_
            refine o_T (y_fa fl_69_1 rfl) rfl ?_
            refine o_ld one_67 rfl (ms m0) Si.g8 rfl ?_
            refine o_callrv en_75 rfl (t75i hi_1 hi_2) (s_get (ks (ks (ks k0))) (s_get k0 s_nil)) rfl ?_
            refine o_L (y_assign rfl) rfl rfl ?_
            refine o_nil0 rfl ?_
            refine c_ret ?_
            refine fun aX wX heX hsX => ret1 Tryz.results50 heX rfl (s_get (ks (ks (ks (ks (ks (ks k0)))))) (s_get (ks (ks (ks (ks k0)))) (s_get (ks (ks (ks (ks (ks k0))))) (s_get (ks (ks (ks (ks (ks k0))))) (s_get (ks (ks (ks (ks (ks k0))))) (s_get (ks (ks (ks (ks (ks k0))))) (s_get (ks (ks (ks (ks (ks k0))))) (s_get (ks (ks (ks (ks (ks k0))))) (s_get (ks (ks (ks (ks (ks k0))))) (s_get (ks (ks (ks (ks (ks k0))))) s_nil)))))))))) ?_
            exact ⟨congrArg Value.bool (by first | rfl | exact decide_eq_true rfl | exact decide_eq_true hclk), V, _, _, _, _, _, _, _, _, _, ⟨W.h, W.q, W.w, W.n, W.s, W.r, W.i.mono (by omega), W.o.mono (by omega), W.m.mono (by omega)⟩, rfl, rfl⟩
      · skip
        refine o_call en_32 rfl (i32 (W.q h739) c3 (hb.ok _ c3).1 _ ((hb.ok _ c3).2 _)) (s_skip (s_skip (s_skip (s_skip (s_skip (s_take s_nil)))))) rfl ?_
        rintro v S' ⟨pc_3, gc_3, rfl, hi_3, rfl⟩
        refine o_front (s_get k0 (s_get (ks k0) (s_get (ks k0) (s_get (ks k0) (s_get (ks k0) (s_get (ks k0) (s_get k0 (s_get k0 (s_get k0 (s_get k0 (s_get k0 (s_get k0 (s_get k0 (s_get k0 s_nil)))))))))))))) ?_
        refine o_stop (fun _ => (fun x hx => (ms hx))) ?_
        refine d_T 9 rfl (by kernel_rfl) rfl (y_move rfl) rfl ?_
        refine d_T 10 rfl (by kernel_rfl) rfl (y_extract rfl rfl) rfl ?_
        refine d_T 11 rfl (by kernel_rfl) rfl (y_extract rfl rfl) rfl ?_
        refine d_hardA 12 rfl (by kernel_rfl) ze_69 rfl rfl (fun b_4 => ?_)
        refine d_hard 13 rfl (by kernel_rfl) ?_
        refine o_sta ag_69 rfl rfl (si_plain hi_3) rfl r0 (setAll_full _ _ rfl) (of_ble rfl) ?_
        refine o_stop (fun h => nomatch h) ?_
        refine d_L 14 rfl (by kernel_rfl) rfl (y_assign rfl) rfl rfl ?_
        refine d_nil0 (by kernel_rfl) rfl ?_
        refine c_seq ?_
        refine c_seq ?_
        refine c_region ?_
        refine o_T (y_move rfl) rfl ?_
        refine o_T (y_move rfl) rfl ?_
        refine o_T (y_neq rfl rfl) rfl ?_
        refine o_T (y_move rfl) rfl ?_
        refine o_split 52 rfl (fun h741 => ?_) (fun h741 => ?_)
        · try simp only [decide_eq_true_eq, decide_eq_false_iff_not, Bool.not_eq_true', Bool.not_eq_false', Int.not_lt, Int.not_le, Decidable.not_not, beq_iff_eq, bne_iff_ne, ne_eq, beq_eq_false_iff_ne, WA.wd] at h741
          first | exact absurd trivial h741 | exact absurd rfl h741 | exact absurd ((sameEn_self _).symm.trans h741) (fun z => nomatch z)
        · try simp only [decide_eq_true_eq, decide_eq_false_iff_not, Bool.not_eq_true', Bool.not_eq_false', Int.not_lt, Int.not_le, Decidable.not_not, beq_iff_eq, bne_iff_ne, ne_eq, beq_eq_false_iff_ne, WA.wd] at h741
          refine o_take rfl rfl rfl ?_
          refine o_T (y_fa fl_69_0 rfl) rfl ?_
          refine o_take rfl rfl rfl ?_
          refine o_lda ag_66 rfl (ms (ms m0)) rfl (of_ble rfl) rfl ?_
          refine o_take rfl rfl rfl ?_
          refine o_T (y_fa fl_69_0 rfl) rfl ?_
          refine o_take rfl rfl rfl ?_
          refine o_lda ag_66 rfl m0 rfl (of_ble rfl) rfl ?_
          refine o_take rfl rfl rfl ?_
          refine o_callv en_74 rfl (t74 _ _) rfl ?_
          refine o_take rfl rfl rfl ?_
          refine o_T (y_not rfl) rfl ?_
          refine o_T (y_pickF rfl rfl) rfl ?_
          refine o_nil1 59 rfl rfl ?_
          refine c_cond rfl (fun h741_1 => ?_) (fun h741_1 => ?_)
          · try simp only [decide_eq_true_eq, decide_eq_false_iff_not, Bool.not_eq_true', Bool.not_eq_false', Int.not_lt, Int.not_le, Decidable.not_not, beq_iff_eq, bne_iff_ne, ne_eq, beq_eq_false_iff_ne, WA.wd] at h741_1
            first | exact absurd trivial h741_1 | exact absurd rfl h741_1 | exact absurd ((sameEn_self _).symm.trans h741_1) (fun z => nomatch z)
          · try simp only [decide_eq_true_eq, decide_eq_false_iff_not, Bool.not_eq_true', Bool.not_eq_false', Int.not_lt, Int.not_le, Decidable.not_not, beq_iff_eq, bne_iff_ne, ne_eq, beq_eq_false_iff_ne, WA.wd] at h741_1
            refine c_skip ?_
            refine c_seq ?_
            refine c_region ?_
            refine o_T (y_fa fl_69_1 rfl) rfl ?_
            refine o_ld one_67 rfl (ms (ms m0)) Si.g8 rfl ?_
            refine o_T (y_fa fl_69_1 rfl) rfl ?_
            refine o_ld one_67 rfl m0 Si.g8 rfl ?_
            refine o_callrv en_75 rfl (t75i hi_1 hi_3) (s_get (ks (ks (ks k0))) (s_get (ks k0) s_nil)) rfl ?_
            refine o_L (y_assign rfl) rfl rfl ?_
            refine o_nil0 rfl ?_
            refine c_ret ?_
            refine fun aX wX heX hsX => ret1 Tryz.results50 heX rfl (s_get (ks (ks (ks (ks (ks (ks k0)))))) (s_get (ks (ks (ks (ks k0)))) (s_get (ks (ks (ks (ks (ks k0))))) (s_get (ks (ks (ks (ks (ks k0))))) (s_get (ks (ks (ks (ks (ks k0))))) (s_get (ks (ks (ks (ks (ks k0))))) (s_get (ks (ks (ks (ks (ks k0))))) (s_get (ks (ks (ks (ks (ks k0))))) (s_get (ks (ks (ks (ks (ks k0))))) (s_get (ks (ks (ks (ks (ks k0))))) s_nil)))))))))) ?_
            exact ⟨congrArg Value.bool (by first | rfl | exact decide_eq_true rfl | exact decide_eq_true hclk), V, _, _, _, _, _, _, _, _, _, ⟨W.h, W.q, W.w, W.n, W.s, W.r, W.i.mono (by omega), W.o.mono (by omega), W.m.mono (by omega)⟩, rfl, rfl⟩
    · try simp only [decide_eq_true_eq, decide_eq_false_iff_not, Bool.not_eq_true', Bool.not_eq_false', Int.not_lt, Int.not_le, Decidable.not_not, beq_iff_eq, bne_iff_ne, ne_eq, beq_eq_false_iff_ne, WA.wd] at h739
      refine c_skip ?_
      refine c_seq ?_
      refine c_region ?_
      refine o_L (y_assign rfl) rfl rfl ?_
      refine o_nil0 rfl ?_
      refine c_ret ?_
      refine fun aX wX heX hsX => ret1 Tryz.results50 heX rfl (s_get (ks (ks (ks (ks k0)))) (s_get (ks (ks k0)) (s_get (ks (ks (ks k0))) (s_get (ks (ks (ks k0))) (s_get (ks (ks (ks k0))) (s_get (ks (ks (ks k0))) (s_get (ks (ks (ks k0))) (s_get (ks (ks (ks k0))) (s_get (ks (ks (ks k0))) (s_get (ks (ks (ks k0))) s_nil)))))))))) ?_
      exact ⟨congrArg Value.bool (by first | rfl | exact decide_eq_true rfl | exact decide_eq_true hclk), V, _, _, _, _, _, _, _, _, _, ⟨W.h, W.q, W.w, W.n, W.s, W.r, W.i.mono (by omega), W.o.mono (by omega), W.m.mono (by omega)⟩, rfl, rfl⟩
  · try simp only [decide_eq_true_eq, decide_eq_false_iff_not, Bool.not_eq_true', Bool.not_eq_false', Int.not_lt, Int.not_le, Decidable.not_not, beq_iff_eq, bne_iff_ne, ne_eq, beq_eq_false_iff_ne, WA.wd] at h737
    refine c_seq ?_
    refine c_region ?_
    refine o_T (y_eql rfl rfl) rfl ?_
    refine o_L (y_assign rfl) rfl rfl ?_
    refine o_nil0 rfl ?_
    refine c_cond rfl (fun h746 => ?_) (fun h746 => ?_)
    · try simp only [decide_eq_true_eq, decide_eq_false_iff_not, Bool.not_eq_true', Bool.not_eq_false', Int.not_lt, Int.not_le, Decidable.not_not, beq_iff_eq, bne_iff_ne, ne_eq, beq_eq_false_iff_ne, WA.wd] at h746
      refine c_seq ?_
      refine c_region ?_
      refine o_T (y_move rfl) rfl ?_
      refine o_call en_28 rfl (i28 W.h c3 (hb.ok _ c3).1) (s_skip (s_skip (s_take s_nil))) rfl ?_
      rintro v S' ⟨bl_1, rfl, rfl⟩
      refine o_L (y_assign rfl) rfl rfl ?_
      refine o_nil0 rfl ?_
      refine c_seq ?_
      refine c_seq ?_
      refine c_region ?_
      refine o_T (y_move rfl) rfl ?_
      refine o_T (y_nilck rfl) rfl ?_
      refine o_T (y_fa fl_53_3 rfl) rfl ?_
      refine o_ld one_4 rfl (ms (ms (ms m0))) Wd.g27 rfl ?_
      refine o_nil1 72 rfl rfl ?_
      refine c_cond rfl (fun h748 => ?_) (fun h748 => ?_)
      · try simp only [decide_eq_true_eq, decide_eq_false_iff_not, Bool.not_eq_true', Bool.not_eq_false', Int.not_lt, Int.not_le, Decidable.not_not, beq_iff_eq, bne_iff_ne, ne_eq, beq_eq_false_iff_ne, WA.wd] at h748
        refine c_seq ?_
        refine c_region ?_
        refine o_T (y_move rfl) rfl ?_
        refine o_T (y_move rfl) rfl ?_
        refine o_T (y_nilck rfl) rfl ?_
        refine o_T (y_fa fl_53_2 rfl) rfl ?_
        refine o_T (y_ia ar_34 rfl rfl (by omega) (by omega)) rfl ?_
        refine o_ld one_33 rfl (ms (ms (ms m0))) (Wd.g_q c (by omega) (by omega)) rfl ?_
        refine o_call en_28 rfl (i28 (W.q h748) c3 (hb.ok _ c3).1) (s_skip (s_skip (s_skip (s_skip (s_take s_nil))))) rfl ?_
        rintro v S' ⟨bl_2, rfl, rfl⟩
        refine o_L (y_assign rfl) rfl rfl ?_
        refine o_nil0 rfl ?_
        refine c_seq ?_
        refine c_region ?_
        refine o_T (y_move rfl) rfl ?_
        refine o_T (y_move rfl) rfl ?_
        refine o_callrv en_73 rfl (t73 _ _ _ _ _ _ (Inl.mk (by omega)) (Inl.mk (by omega))) (s_get (ks (ks k0)) (s_get k0 s_nil)) rfl ?_
        refine o_L (y_assign rfl) rfl rfl ?_
        refine o_nil0 rfl ?_
        refine c_seq ?_
        refine c_region ?_
        refine o_T (y_move rfl) rfl ?_
        refine o_T (y_move rfl) rfl ?_
        refine o_call en_30 rfl (t30 A q x V W.i (by omega) (by omega)) (s_get (ks (ks (ks (ks (ks k0))))) (s_get (ks (ks (ks (ks (ks (ks (ks (ks (ks k0))))))))) (s_get k0 s_nil))) rfl ?_
        rintro v S' ⟨vi_1, gi_1, rfl, hi_4, rfl⟩
        refine o_nil0 rfl ?_
        refine c_seq ?_
        refine c_region ?_
        refine o_T (y_move rfl) rfl ?_
        refine o_T (y_move rfl) rfl ?_
        refine o_call en_30 rfl (t30 A q x { V with ints := vi_1 } hi_4 (by omega) (by omega)) (s_take (s_take (s_skip (s_take s_nil)))) rfl ?_
        rintro v S' ⟨vi_2, gi_2, rfl, hi_5, rfl⟩
        refine o_nil0 rfl ?_
        refine c_seq ?_
        refine c_region ?_
        refine o_T (y_move rfl) rfl ?_
        refine o_L (y_assign rfl) rfl rfl ?_
        refine o_nil0 rfl ?_
        refine c_ret ?_
        refine fun aX wX heX hsX => ret1 Tryz.results50 heX rfl (s_get k0 (s_get (ks (ks k0)) (s_get (ks k0) (s_get (ks (ks k0)) (s_get (ks (ks k0)) (s_get (ks (ks k0)) (s_get (ks (ks k0)) (s_get k0 (s_get (ks k0) (s_get (ks k0) s_nil)))))))))) ?_
        exact ⟨congrArg Value.bool (by first | rfl | exact decide_eq_true rfl | exact decide_eq_true hclk), { V with ints := vi_2 }, _, _, _, _, _, _, _, _, _, ⟨W.h, W.q, W.w, W.n, W.s, W.r, hi_5.mono (by omega), W.o.mono (by omega), W.m.mono (by omega)⟩, rfl, rfl⟩
      · try simp only [decide_eq_true_eq, decide_eq_false_iff_not, Bool.not_eq_true', Bool.not_eq_false', Int.not_lt, Int.not_le, Decidable.not_not, beq_iff_eq, bne_iff_ne, ne_eq, beq_eq_false_iff_ne, WA.wd] at h748
        refine c_skip ?_
        refine c_region ?_
        refine o_T (y_move rfl) rfl ?_
        refine o_T (y_move rfl) rfl ?_
        refine o_call en_30 rfl (t30 A q x V W.i (by omega) (by omega)) (s_get (ks (ks (ks k0))) (s_get (ks (ks (ks (ks (ks (ks (ks (ks k0)))))))) (s_get k0 s_nil))) rfl ?_
        rintro v S' ⟨vi_3, gi_3, rfl, hi_6, rfl⟩
        refine o_nil0 rfl ?_
        refine c_seq ?_
        refine c_region ?_
        refine o_L (y_assign rfl) rfl rfl ?_
        refine o_nil0 rfl ?_
        refine c_ret ?_
        refine fun aX wX heX hsX => ret1 Tryz.results50 heX rfl (s_get k0 (s_get (ks k0) (s_get (ks (ks k0)) (s_get (ks (ks k0)) (s_get (ks (ks k0)) (s_get (ks (ks k0)) (s_get (ks (ks k0)) (s_get k0 (s_get (ks k0) (s_get (ks k0) s_nil)))))))))) ?_
        exact ⟨congrArg Value.bool (by first | rfl | exact decide_eq_true rfl | exact decide_eq_true hclk), { V with ints := vi_3 }, _, _, _, _, _, _, _, _, _, ⟨W.h, W.q, W.w, W.n, W.s, W.r, hi_6.mono (by omega), W.o.mono (by omega), W.m.mono (by omega)⟩, rfl, rfl⟩
    · try simp only [decide_eq_true_eq, decide_eq_false_iff_not, Bool.not_eq_true', Bool.not_eq_false', Int.not_lt, Int.not_le, Decidable.not_not, beq_iff_eq, bne_iff_ne, ne_eq, beq_eq_false_iff_ne, WA.wd] at h746
      refine c_seq ?_
      refine c_region ?_
      refine o_T (y_eql rfl rfl) rfl ?_
      refine o_L (y_assign rfl) rfl rfl ?_
      refine o_nil0 rfl ?_
      refine c_cond rfl (fun h756 => ?_) (fun h756 => ?_)
      · try simp only [decide_eq_true_eq, decide_eq_false_iff_not, Bool.not_eq_true', Bool.not_eq_false', Int.not_lt, Int.not_le, Decidable.not_not, beq_iff_eq, bne_iff_ne, ne_eq, beq_eq_false_iff_ne, WA.wd] at h756
        refine c_seq ?_
        refine c_seq ?_
        refine c_draw #[true, true, true, true, true, true, true] rfl (n := 7) rfl ?_
        refine d_T 0 rfl (by kernel_rfl) rfl (y_move rfl) rfl ?_
        refine d_T 2 rfl (by kernel_rfl) rfl (y_move rfl) rfl ?_
        refine d_T 3 rfl (by kernel_rfl) rfl (y_nilck rfl) rfl ?_
        refine d_T 4 rfl (by kernel_rfl) rfl (y_fa fl_53_11 rfl) rfl ?_
        refine d_ld 5 rfl (by kernel_rfl) one_3 rfl (fun x hx => hx) (ms m0) Wd.g43 rfl ?_
        refine d_hard 1 rfl (by kernel_rfl) ?_
        refine o_callrv en_26 rfl (i26 W.h c3 (hb.ok _ c3).1) (s_skip (s_skip (s_take s_nil))) rfl ?_
        refine o_stop (fun _ => (fun x hx => hx)) ?_
        refine d_T 6 rfl (by kernel_rfl) rfl (y_neq rfl rfl) rfl ?_
        refine d_nil1 101 (by kernel_rfl) rfl rfl ?_
        refine c_cond rfl (fun h757 => ?_) (fun h757 => ?_)
        · try simp only [decide_eq_true_eq, decide_eq_false_iff_not, Bool.not_eq_true', Bool.not_eq_false', Int.not_lt, Int.not_le, Decidable.not_not, beq_iff_eq, bne_iff_ne, ne_eq, beq_eq_false_iff_ne, WA.wd] at h757
          exact absurd hclk h757
        · try simp only [decide_eq_true_eq, decide_eq_false_iff_not, Bool.not_eq_true', Bool.not_eq_false', Int.not_lt, Int.not_le, Decidable.not_not, beq_iff_eq, bne_iff_ne, ne_eq, beq_eq_false_iff_ne, WA.wd] at h757
          refine c_skip ?_
          refine c_seq ?_
          refine c_region ?_
          refine o_T (y_move rfl) rfl ?_
          refine o_T (y_nilck rfl) rfl ?_
          refine o_T (y_fa fl_53_3 rfl) rfl ?_
          refine o_ld one_4 rfl (ms m0) Wd.g27 rfl ?_
          refine o_nil1 105 rfl rfl ?_
          refine c_cond rfl (fun h760 => ?_) (fun h760 => ?_)
          · try simp only [decide_eq_true_eq, decide_eq_false_iff_not, Bool.not_eq_true', Bool.not_eq_false', Int.not_lt, Int.not_le, Decidable.not_not, beq_iff_eq, bne_iff_ne, ne_eq, beq_eq_false_iff_ne, WA.wd] at h760
            refine c_seq ?_
            refine c_draw #[true, true, true, true, true, true, true, true, true, true, true, true, true] rfl (n := 13) rfl ?_
            refine d_T 0 rfl (by kernel_rfl) rfl (y_move rfl) rfl ?_
            refine d_T 1 rfl (by kernel_rfl) rfl (y_move rfl) rfl ?_
            refine d_T 2 rfl (by kernel_rfl) rfl (y_nilck rfl) rfl ?_
            refine d_T 3 rfl (by kernel_rfl) rfl (y_fa fl_53_2 rfl) rfl ?_
            refine d_T 4 rfl (by kernel_rfl) rfl (y_ia ar_34 rfl rfl (by omega) (by omega)) rfl ?_
            refine d_ld 5 rfl (by kernel_rfl) one_33 rfl (fun x hx => hx) (ms m0) (Wd.g_q c (by omega) (by omega)) rfl ?_
            refine d_T 7 rfl (by kernel_rfl) rfl (y_move rfl) rfl ?_
            refine d_T 8 rfl (by kernel_rfl) rfl (y_nilck rfl) rfl ?_
            refine d_T 9 rfl (by kernel_rfl) rfl (y_fa fl_53_11 rfl) rfl ?_
            refine d_ld 10 rfl (by kernel_rfl) one_3 rfl (fun x hx => hx) (ms m0) Wd.g43 rfl ?_
            refine d_hard 6 rfl (by kernel_rfl) ?_
            refine o_callrv en_26 rfl (i26 (W.q h760) c3 (hb.ok _ c3).1) (s_skip (s_skip (s_skip (s_take s_nil)))) rfl ?_
            refine o_stop (fun _ => (fun x hx => hx)) ?_
            refine d_T 11 rfl (by kernel_rfl) rfl (y_eql rfl rfl) rfl ?_
            refine d_L 12 rfl (by kernel_rfl) rfl (y_assign rfl) rfl rfl ?_
            refine d_nil0 (by kernel_rfl) rfl ?_
            refine c_ret ?_
            refine fun aX wX heX hsX => ret1 Tryz.results50 heX rfl (s_skip (s_take (s_take (s_take (s_take (s_take (s_take (s_take (s_take (s_take (s_take s_nil))))))))))) ?_
            exact ⟨congrArg Value.bool (by first | rfl | exact decide_eq_true rfl | exact decide_eq_true hclk), V, _, _, _, _, _, _, _, _, _, ⟨W.h, W.q, W.w, W.n, W.s, W.r, W.i.mono (by omega), W.o.mono (by omega), W.m.mono (by omega)⟩, rfl, rfl⟩
          · try simp only [decide_eq_true_eq, decide_eq_false_iff_not, Bool.not_eq_true', Bool.not_eq_false', Int.not_lt, Int.not_le, Decidable.not_not, beq_iff_eq, bne_iff_ne, ne_eq, beq_eq_false_iff_ne, WA.wd] at h760
            refine c_skip ?_
            refine c_seq ?_
            refine c_region ?_
            refine o_L (y_assign rfl) rfl rfl ?_
            refine o_nil0 rfl ?_
            refine c_ret ?_
            refine fun aX wX heX hsX => ret1 Tryz.results50 heX rfl (s_skip (s_take (s_take (s_take (s_take (s_take (s_take (s_take (s_take (s_take (s_take s_nil))))))))))) ?_
            exact ⟨congrArg Value.bool (by first | rfl | exact decide_eq_true rfl | exact decide_eq_true hclk), V, _, _, _, _, _, _, _, _, _, ⟨W.h, W.q, W.w, W.n, W.s, W.r, W.i.mono (by omega), W.o.mono (by omega), W.m.mono (by omega)⟩, rfl, rfl⟩
      · try simp only [decide_eq_true_eq, decide_eq_false_iff_not, Bool.not_eq_true', Bool.not_eq_false', Int.not_lt, Int.not_le, Decidable.not_not, beq_iff_eq, bne_iff_ne, ne_eq, beq_eq_false_iff_ne, WA.wd] at h756
        refine c_seq ?_
        refine c_region ?_
        refine o_T (y_eql rfl rfl) rfl ?_
        refine o_L (y_assign rfl) rfl rfl ?_
        refine o_nil0 rfl ?_
        refine c_cond rfl (fun h763 => ?_) (fun h763 => ?_)
        · try simp only [decide_eq_true_eq, decide_eq_false_iff_not, Bool.not_eq_true', Bool.not_eq_false', Int.not_lt, Int.not_le, Decidable.not_not, beq_iff_eq, bne_iff_ne, ne_eq, beq_eq_false_iff_ne, WA.wd] at h763
          refine c_seq ?_
          refine c_region ?_
          refine o_T (y_move rfl) rfl ?_
          refine o_callrv en_27 rfl (i27 W.h c3 (hb.ok _ c3).1) (s_skip (s_skip (s_take s_nil))) rfl ?_
          refine o_L (y_assign rfl) rfl rfl ?_
          refine o_nil0 rfl ?_
          refine c_seq ?_
          refine c_region ?_
          refine o_T (y_move rfl) rfl ?_
          refine o_T (y_nilck rfl) rfl ?_
          refine o_T (y_fa fl_53_3 rfl) rfl ?_
          refine o_ld one_4 rfl (ms m0) Wd.g27 rfl ?_
          refine o_nil1 125 rfl rfl ?_
          refine c_cond rfl (fun h765 => ?_) (fun h765 => ?_)
          · try simp only [decide_eq_true_eq, decide_eq_false_iff_not, Bool.not_eq_true', Bool.not_eq_false', Int.not_lt, Int.not_le, Decidable.not_not, beq_iff_eq, bne_iff_ne, ne_eq, beq_eq_false_iff_ne, WA.wd] at h765
            refine c_seq ?_
            refine c_region ?_
            refine o_T (y_move rfl) rfl ?_
            refine o_T (y_move rfl) rfl ?_
            refine o_T (y_nilck rfl) rfl ?_
            refine o_T (y_fa fl_53_2 rfl) rfl ?_
            refine o_T (y_ia ar_34 rfl rfl (by omega) (by omega)) rfl ?_
            refine o_ld one_33 rfl (ms m0) (Wd.g_q c (by omega) (by omega)) rfl ?_
            refine o_callrv en_27 rfl (i27 (W.q h765) c3 (hb.ok _ c3).1) (s_skip (s_skip (s_skip (s_take s_nil)))) rfl ?_
            refine o_T (y_move rfl) rfl ?_
            refine o_T (y_eql rfl rfl) rfl ?_
            refine o_L (y_assign rfl) rfl rfl ?_
            refine o_nil0 rfl ?_
            refine c_ret ?_
            refine fun aX wX heX hsX => ret1 Tryz.results50 heX rfl (s_skip (s_take (s_take (s_take (s_take (s_take (s_take (s_take (s_take (s_take (s_take s_nil))))))))))) ?_
            exact ⟨congrArg Value.bool (by first | rfl | exact decide_eq_true rfl | exact decide_eq_true hclk), V, _, _, _, _, _, _, _, _, _, ⟨W.h, W.q, W.w, W.n, W.s, W.r, W.i.mono (by omega), W.o.mono (by omega), W.m.mono (by omega)⟩, rfl, rfl⟩
          · try simp only [decide_eq_true_eq, decide_eq_false_iff_not, Bool.not_eq_true', Bool.not_eq_false', Int.not_lt, Int.not_le, Decidable.not_not, beq_iff_eq, bne_iff_ne, ne_eq, beq_eq_false_iff_ne, WA.wd] at h765
            refine c_skip ?_
            refine c_seq ?_
            refine c_region ?_
            refine o_L (y_assign rfl) rfl rfl ?_
            refine o_nil0 rfl ?_
            refine c_ret ?_
            refine fun aX wX heX hsX => ret1 Tryz.results50 heX rfl (s_skip (s_take (s_take (s_take (s_take (s_take (s_take (s_take (s_take (s_take (s_take s_nil))))))))))) ?_
            exact ⟨congrArg Value.bool (by first | rfl | exact decide_eq_true rfl | exact decide_eq_true hclk), V, _, _, _, _, _, _, _, _, _, ⟨W.h, W.q, W.w, W.n, W.s, W.r, W.i.mono (by omega), W.o.mono (by omega), W.m.mono (by omega)⟩, rfl, rfl⟩
        · try simp only [decide_eq_true_eq, decide_eq_false_iff_not, Bool.not_eq_true', Bool.not_eq_false', Int.not_lt, Int.not_le, Decidable.not_not, beq_iff_eq, bne_iff_ne, ne_eq, beq_eq_false_iff_ne, WA.wd] at h763
          refine c_seq ?_
          refine c_region ?_
          refine o_T (y_eql rfl rfl) rfl ?_
          refine o_L (y_assign rfl) rfl rfl ?_
          refine o_nil0 rfl ?_
          refine c_cond rfl (fun h768 => ?_) (fun h768 => ?_)
          · try simp only [decide_eq_true_eq, decide_eq_false_iff_not, Bool.not_eq_true', Bool.not_eq_false', Int.not_lt, Int.not_le, Decidable.not_not, beq_iff_eq, bne_iff_ne, ne_eq, beq_eq_false_iff_ne, WA.wd] at h768
            refine c_seq ?_
            refine c_seq ?_
            refine c_region ?_
            refine o_T (y_move rfl) rfl ?_
            refine o_callrv en_25 rfl (i25 W.h c3 (hb.ok _ c3).1 hck) (s_skip (s_skip (s_take s_nil))) rfl ?_
            refine o_T (y_not rfl) rfl ?_
            refine o_nil1 139 rfl rfl ?_
            refine c_condF rfl ?_
            refine c_skip ?_
            refine c_seq ?_
            refine c_region ?_
            refine o_T (y_move rfl) rfl ?_
            refine o_T (y_nilck rfl) rfl ?_
            refine o_T (y_fa fl_53_3 rfl) rfl ?_
            refine o_ld one_4 rfl (ms m0) Wd.g27 rfl ?_
            refine o_nil1 143 rfl rfl ?_
            refine c_cond rfl (fun h772 => ?_) (fun h772 => ?_)
            · try simp only [decide_eq_true_eq, decide_eq_false_iff_not, Bool.not_eq_true', Bool.not_eq_false', Int.not_lt, Int.not_le, Decidable.not_not, beq_iff_eq, bne_iff_ne, ne_eq, beq_eq_false_iff_ne, WA.wd] at h772
              refine c_seq ?_
              refine c_region ?_
              refine o_T (y_move rfl) rfl ?_
              refine o_T (y_move rfl) rfl ?_
              refine o_T (y_nilck rfl) rfl ?_
              refine o_T (y_fa fl_53_2 rfl) rfl ?_
              refine o_T (y_ia ar_34 rfl rfl (by omega) (by omega)) rfl ?_
              refine o_ld one_33 rfl (ms m0) (Wd.g_q c (by omega) (by omega)) rfl ?_
              refine o_callrv en_25 rfl (i25 (W.q h772) c3 (hb.ok _ c3).1 hck) (s_skip (s_skip (s_skip (s_take s_nil)))) rfl ?_
              refine o_L (y_assign rfl) rfl rfl ?_
              refine o_nil0 rfl ?_
              refine c_ret ?_
              refine fun aX wX heX hsX => ret1 Tryz.results50 heX rfl (s_skip (s_take (s_take (s_take (s_take (s_take (s_take (s_take (s_take (s_take (s_take s_nil))))))))))) ?_
              exact ⟨congrArg Value.bool (by first | rfl | exact decide_eq_true rfl | exact decide_eq_true hclk), V, _, _, _, _, _, _, _, _, _, ⟨W.h, W.q, W.w, W.n, W.s, W.r, W.i.mono (by omega), W.o.mono (by omega), W.m.mono (by omega)⟩, rfl, rfl⟩
            · try simp only [decide_eq_true_eq, decide_eq_false_iff_not, Bool.not_eq_true', Bool.not_eq_false', Int.not_lt, Int.not_le, Decidable.not_not, beq_iff_eq, bne_iff_ne, ne_eq, beq_eq_false_iff_ne, WA.wd] at h772
              refine c_skip ?_
              refine c_seq ?_
              refine c_region ?_
              refine o_L (y_assign rfl) rfl rfl ?_
              refine o_nil0 rfl ?_
              refine c_ret ?_
              refine fun aX wX heX hsX => ret1 Tryz.results50 heX rfl (s_skip (s_take (s_take (s_take (s_take (s_take (s_take (s_take (s_take (s_take (s_take s_nil))))))))))) ?_
              exact ⟨congrArg Value.bool (by first | rfl | exact decide_eq_true rfl | exact decide_eq_true hclk), V, _, _, _, _, _, _, _, _, _, ⟨W.h, W.q, W.w, W.n, W.s, W.r, W.i.mono (by omega), W.o.mono (by omega), W.m.mono (by omega)⟩, rfl, rfl⟩
          · try simp only [decide_eq_true_eq, decide_eq_false_iff_not, Bool.not_eq_true', Bool.not_eq_false', Int.not_lt, Int.not_le, Decidable.not_not, beq_iff_eq, bne_iff_ne, ne_eq, beq_eq_false_iff_ne, WA.wd] at h768
            refine c_skip ?_
            refine c_seq ?_
            refine c_region ?_
            refine o_L (y_assign rfl) rfl rfl ?_
            refine o_nil0 rfl ?_
            refine c_ret ?_
            refine fun aX wX heX hsX => ret1 Tryz.results50 heX rfl (s_skip (s_take (s_take (s_take (s_take (s_take (s_take (s_take (s_take (s_take (s_take s_nil))))))))))) ?_
            exact ⟨congrArg Value.bool (by first | rfl | exact decide_eq_true rfl | exact decide_eq_true hclk), V, _, _, _, _, _, _, _, _, _, ⟨W.h, W.q, W.w, W.n, W.s, W.r, W.i.mono (by omega), W.o.mono (by omega), W.m.mono (by omega)⟩, rfl, rfl⟩

end Go.Proofs.Qxb6500351aGreat
