/- MADE BY PROGRAM (tools/gen.py over tools/specsw.py): walks. -/
import Derived.Test.Qxb6500351aGreatMd26
set_option linter.unusedVariables false
set_option linter.unusedSimpArgs false
namespace Go.Proofs.Qxb6500351aGreat
open Go.Eng
set_option maxRecDepth 20000
set_option maxHeartbeats 4000000
attribute [local irreducible] Hst.ent Hst.err Hst.infoC
/-- (*e2e/towerlaw.World).Deliver -/
theorem t38 (A : WA) (q : Bool) (x : Wrld) (V : WV) (m : Nat) (gh gq gw gn gs gr gi go gm : List Chunk) (W : WG A q x V m gh gq gw gn gs gr gi go gm) (hm : m ≤ 2700000000000) (hz : Szs x) (hb : HBnd x) (i : Int) (Z : Wrld → Prop) (D : DelOk x i Z) : Trip Tryz.prog 38 #[.pointer (some ⟨A.b, 0, none⟩), .int .i64 i] [[(A.b, .cells (A.wd q x V).enc 53 (0, 0))], gh, gq, gw, gn, gs, gr, gi, go, gm] (fun u S' => u = .bool true ∧ ∃ z, Z z ∧ WPost A q z V.cm (m + 200) S') := by
  refine fn_entry (args := [.pointer (some ⟨A.b, 0, none⟩), .int .i64 i]) Tryz.func38 rfl Tryz.ntmps38 rfl (fun w0 => ?_)
  refine c_seq ?_
  refine c_region ?_
  refine o_L (y_assign rfl) rfl rfl ?_
  refine o_nil0 rfl ?_
  refine c_seq ?_
  refine c_region ?_
  refine o_T (y_move rfl) rfl ?_
  refine o_T (y_nilck rfl) rfl ?_
  refine o_T (y_fa fl_53_5 rfl) rfl ?_
  refine o_ld one_43 rfl m0 Wd.g29 rfl ?_
  refine o_T (y_move rfl) rfl ?_
  refine o_call en_77 rfl (i77 W.w hz.wl i) (s_skip (s_skip (s_skip (s_take s_nil)))) rfl ?_
  rintro v S' (⟨ht_1, gw_1, rfl, hw_1, rfl⟩ | ⟨raw, ht_2, hrb, hrl, br_1, gw_2, rfl, hw_2, rfl⟩)
  · skip
    refine o_T (y_move rfl) rfl ?_
    refine o_T (y_extract rfl rfl) rfl ?_
    refine o_T (y_extract rfl rfl) rfl ?_
    refine o_L (y_assign rfl) rfl rfl ?_
    refine o_L (y_assign rfl) rfl rfl ?_
    refine o_nil0 rfl ?_
    refine c_seq ?_
    refine c_seq ?_
    refine c_region ?_
    refine o_T (y_move rfl) rfl ?_
    refine o_T (y_not rfl) rfl ?_
    refine o_T (y_move rfl) rfl ?_
    refine o_pass rfl rfl rfl rfl rfl ?_
    refine o_pass rfl rfl rfl rfl rfl ?_
    refine o_pass rfl rfl rfl rfl rfl ?_
    refine o_T (y_pickT rfl rfl) rfl ?_
    refine o_nil1 27 rfl rfl ?_
    refine c_condT rfl ?_
    refine c_seq ?_
    refine c_region ?_
    refine o_L (y_assign rfl) rfl rfl ?_
    refine o_nil0 rfl ?_
    refine c_ret ?_
    refine fun aX wX heX hsX => ret1 Tryz.results38 heX rfl (s_get (ks k0) (s_get (ks k0) (s_get (ks k0) (s_get k0 (s_get k0 (s_get k0 (s_get k0 (s_get k0 (s_get k0 (s_get k0 s_nil)))))))))) ?_
    exact ⟨rfl, _, D.rest, V, _, _, _, _, _, _, _, _, _, ⟨W.h, W.q, hw_1, W.n, W.s, W.r, W.i.mono (by omega), W.o.mono (by omega), W.m.mono (by omega)⟩, rfl, rfl⟩
  · skip
    refine o_T (y_move rfl) rfl ?_
    refine o_T (y_extract rfl rfl) rfl ?_
    refine o_T (y_extract rfl rfl) rfl ?_
    refine o_L (y_assign rfl) rfl rfl ?_
    refine o_L (y_assign rfl) rfl rfl ?_
    refine o_nil0 rfl ?_
    refine c_seq ?_
    refine c_seq ?_
    refine c_region ?_
    refine o_T (y_move rfl) rfl ?_
    refine o_T (y_not rfl) rfl ?_
    refine o_T (y_move rfl) rfl ?_
    refine o_take rfl rfl rfl ?_
    refine o_T (y_move rfl) rfl ?_
    refine o_take rfl rfl rfl ?_
    refine o_T (y_len Tryz.underlying81 rfl) rfl ?_
    refine o_take rfl rfl rfl ?_
    refine o_T (y_eql rfl rfl) rfl ?_
    refine o_T (y_pickF rfl rfl) rfl ?_
    refine o_nil1 27 rfl rfl ?_
    refine c_cond rfl (fun h399 => ?_) (fun h399 => ?_)
    · try simp only [decide_eq_true_eq, decide_eq_false_iff_not, Bool.not_eq_true', Bool.not_eq_false', Int.not_lt, Int.not_le, Decidable.not_not, beq_iff_eq, bne_iff_ne, ne_eq, beq_eq_false_iff_ne, WA.wd] at h399
      refine c_seq ?_
      refine c_region ?_
      refine o_L (y_assign rfl) rfl rfl ?_
      refine o_nil0 rfl ?_
      refine c_ret ?_
      refine fun aX wX heX hsX => ret1 Tryz.results38 heX rfl (s_get (ks (ks k0)) (s_get (ks (ks k0)) (s_get (ks (ks k0)) (s_get k0 (s_get (ks k0) (s_get (ks k0) (s_get (ks k0) (s_get (ks k0) (s_get (ks k0) (s_get (ks k0) s_nil)))))))))) ?_
      exact ⟨rfl, _, D.rest, V, _, _, _, _, _, _, _, _, _, ⟨W.h, W.q, hw_2, W.n, W.s, W.r, W.i.mono (by omega), W.o.mono (by omega), W.m.mono (by omega)⟩, rfl, rfl⟩
    · try simp only [decide_eq_true_eq, decide_eq_false_iff_not, Bool.not_eq_true', Bool.not_eq_false', Int.not_lt, Int.not_le, Decidable.not_not, beq_iff_eq, bne_iff_ne, ne_eq, beq_eq_false_iff_ne, WA.wd] at h399
      refine c_skip ?_
      refine c_seq ?_
      have hlen0 : 0 < raw.length := by omega
      have hrd := byte_at hrb 0
      refine c_region ?_
      refine o_T (y_move rfl) rfl ?_
      refine o_T (y_is sl_81 rfl rfl (by first | decide | omega) (by first | decide | omega)) rfl ?_
      refine o_ld one_5 rfl (ms m0) ((BytAt.ful (by first | rfl | assumption | omega) (by exact hrb) (by omega)).getD (i := 0) (by omega) rfl) rfl ?_
      refine o_T (y_conv Tryz.underlying5 Tryz.underlying3 rfl (w64y (BytAt.ful (by first | rfl | assumption | omega) (by exact hrb) (by omega)))) rfl ?_
      refine o_T (y_sub rfl rfl (w64 (by omega))) rfl ?_
      refine o_L (y_assign rfl) rfl rfl ?_
      refine o_nil0 rfl ?_
      refine c_seq ?_
      refine c_seq ?_
      refine c_region ?_
      refine o_T (y_move rfl) rfl ?_
      refine o_T (y_lss rfl rfl) rfl ?_
      refine o_T (y_move rfl) rfl ?_
      refine o_split 35 rfl (fun h403 => ?_) (fun h403 => ?_)
      · try simp only [decide_eq_true_eq, decide_eq_false_iff_not, Bool.not_eq_true', Bool.not_eq_false', Int.not_lt, Int.not_le, Decidable.not_not, beq_iff_eq, bne_iff_ne, ne_eq, beq_eq_false_iff_ne, WA.wd] at h403
        refine o_pass rfl rfl rfl rfl rfl ?_
        refine o_pass rfl rfl rfl rfl rfl ?_
        refine o_T (y_pickT rfl rfl) rfl ?_
        refine o_nil1 38 rfl rfl ?_
        refine c_condT rfl ?_
        refine c_seq ?_
        refine c_region ?_
        refine o_L (y_assign rfl) rfl rfl ?_
        refine o_nil0 rfl ?_
        refine c_ret ?_
        refine fun aX wX heX hsX => ret1 Tryz.results38 heX rfl (s_get (ks (ks k0)) (s_get (ks (ks k0)) (s_get (ks (ks k0)) (s_get k0 (s_get (ks k0) (s_get (ks k0) (s_get (ks k0) (s_get (ks k0) (s_get (ks k0) (s_get (ks k0) s_nil)))))))))) ?_
        exact ⟨rfl, _, D.rest, V, _, _, _, _, _, _, _, _, _, ⟨W.h, W.q, hw_2, W.n, W.s, W.r, W.i.mono (by omega), W.o.mono (by omega), W.m.mono (by omega)⟩, rfl, rfl⟩
      · try simp only [decide_eq_true_eq, decide_eq_false_iff_not, Bool.not_eq_true', Bool.not_eq_false', Int.not_lt, Int.not_le, Decidable.not_not, beq_iff_eq, bne_iff_ne, ne_eq, beq_eq_false_iff_ne, WA.wd] at h403
        refine o_take rfl rfl rfl ?_
        refine o_T (y_move rfl) rfl ?_
        refine o_take rfl rfl rfl ?_
        refine o_T (y_geq rfl rfl) rfl ?_
        refine o_T (y_pickF rfl rfl) rfl ?_
        refine o_nil1 38 rfl rfl ?_
        refine c_cond rfl (fun h403_1 => ?_) (fun h403_1 => ?_)
        · try simp only [decide_eq_true_eq, decide_eq_false_iff_not, Bool.not_eq_true', Bool.not_eq_false', Int.not_lt, Int.not_le, Decidable.not_not, beq_iff_eq, bne_iff_ne, ne_eq, beq_eq_false_iff_ne, WA.wd] at h403_1
          refine c_seq ?_
          refine c_region ?_
          refine o_L (y_assign rfl) rfl rfl ?_
          refine o_nil0 rfl ?_
          refine c_ret ?_
          refine fun aX wX heX hsX => ret1 Tryz.results38 heX rfl (s_get (ks (ks k0)) (s_get (ks (ks k0)) (s_get (ks (ks k0)) (s_get k0 (s_get (ks k0) (s_get (ks k0) (s_get (ks k0) (s_get (ks k0) (s_get (ks k0) (s_get (ks k0) s_nil)))))))))) ?_
          exact ⟨rfl, _, D.rest, V, _, _, _, _, _, _, _, _, _, ⟨W.h, W.q, hw_2, W.n, W.s, W.r, W.i.mono (by omega), W.o.mono (by omega), W.m.mono (by omega)⟩, rfl, rfl⟩
        · try simp only [decide_eq_true_eq, decide_eq_false_iff_not, Bool.not_eq_true', Bool.not_eq_false', Int.not_lt, Int.not_le, Decidable.not_not, beq_iff_eq, bne_iff_ne, ne_eq, beq_eq_false_iff_ne, WA.wd] at h403_1
          refine c_skip ?_
          refine c_seq ?_
          obtain ⟨d, hd, d3⟩ : ∃ d : Nat, raw.getD 0 0 - 1 = (d : Int) ∧ d < 3 := ⟨(raw.getD 0 0 - 1).toNat, by omega, by omega⟩
          obtain ⟨hDs, hFl, z, hLz, hLk, hZz⟩ := D.inp raw d ht_2 d3
          have hdl := hz.dl d
          rw [hd]
          obtain ⟨vn, gvn, gdn, hNn, hgn⟩ := W.n
          subst hgn
          refine c_front (s_get (ks (ks (ks (ks (ks k0))))) (s_get k0 (s_get k0 (s_get k0 (s_get k0 (s_get k0 (s_get k0 (s_get k0 (s_get k0 (s_get k0 (s_get k0 s_nil))))))))))) ?_
          refine c_cut3 (g1 := [(A.bn, .cells (Nt.mk vn x.dl).enc 80 (0, 0))]) (g2 := gvn) (g3 := gdn) ?_
          refine c_drawT #[true, true, true, true, true, true, true, true, true, true, true, true, true, true] rfl (n := 14) rfl ?_
          refine d_T 0 rfl (by kernel_rfl) rfl (y_move rfl) rfl ?_
          refine d_T 1 rfl (by kernel_rfl) rfl (y_nilck rfl) rfl ?_
          refine d_T 2 rfl (by kernel_rfl) rfl (y_fa fl_53_6 rfl) rfl ?_
          refine d_ld 3 rfl (by kernel_rfl) one_44 rfl (fun x hx => (ms hx)) (ms (ms (ms (ms m0)))) Wd.g30 rfl ?_
          refine d_T 4 rfl (by kernel_rfl) rfl (y_move rfl) rfl ?_
          refine d_T 5 rfl (by kernel_rfl) rfl (y_nilck rfl) rfl ?_
          refine d_T 6 rfl (by kernel_rfl) rfl (y_fa fl_80_1 rfl) rfl ?_
          refine d_T 7 rfl (by kernel_rfl) rfl (y_ia ar_45 rfl rfl (by omega) (by omega)) rfl ?_
          refine d_T 10 rfl (by kernel_rfl) rfl (y_nilck rfl) rfl ?_
          refine d_T 11 rfl (by kernel_rfl) rfl (y_fa fl_80_1 rfl) rfl ?_
          refine d_hard 8 rfl (by kernel_rfl) ?_
          refine o_ld one_3 rfl m0 ((Nt.gr_delivered _ (by omega) rfl).trans (congrArg some (show _ = Value.int .i64 (x.dl d) from rfl))) rfl ?_
          refine o_stop (fun _ => (fun x hx => (ms hx))) ?_
          refine d_T 9 rfl (by kernel_rfl) rfl (y_add rfl rfl (w64 (by omega))) rfl ?_
          refine d_T 12 rfl (by kernel_rfl) rfl (y_ia ar_45 rfl rfl (by omega) (by omega)) rfl ?_
          refine d_hard 13 rfl (by kernel_rfl) ?_
          refine o_st one_3 rfl rfl rfl r0 (Nt.sr_delivered _ (by omega) rfl) (by simp only [Nt.size]; omega) ?_
          refine o_stop (fun _ => (fun x hx => (ms hx))) ?_
          refine d_nil0 (by kernel_rfl) rfl ?_
          refine c_seq ?_
          refine c_glue3 ?_
          refine c_region ?_
          refine o_T (y_move rfl) rfl ?_
          refine o_call en_78 rfl (t78 br_1 0 raw.length raw.length 5 _ raw (BytAt.full hrb (by omega))) (s_skip (s_skip (s_take s_nil))) rfl ?_
          rintro v S' ⟨b_1, rfl, rfl⟩
          refine o_L (y_assign rfl) rfl rfl ?_
          refine o_nil0 rfl ?_
          refine c_seq ?_
          refine c_region ?_
          refine o_T (y_move rfl) rfl ?_
          refine o_T (y_move rfl) rfl ?_
          refine o_T (y_nilck rfl) rfl ?_
          refine o_T (y_fa fl_53_0 rfl) rfl ?_
          refine o_T (y_ia ar_34 rfl rfl (by omega) (by omega)) rfl ?_
          refine o_ld one_33 rfl (ms (ms (ms (ms m0)))) (Wd.g_h d (by omega) (by omega)) rfl ?_
          refine o_T (y_move rfl) rfl ?_
          refine o_call en_79 rfl (j79 W.h d3 (hb.ok _ d3).1 (by have := hb.b d d3; omega) b_1 raw hrb hrl (fun s g _ => hDs s g)) (s_get (ks (ks (ks (ks (ks k0))))) (s_get (ks k0) s_nil)) rfl ?_
          rintro v S' ⟨v_1, gv_1, gd_1, gx_1, rfl, hF_1, hx_1, rfl⟩
          refine o_L (y_assign rfl) rfl rfl ?_
          refine o_nil0 rfl ?_
          refine c_seq ?_
          refine c_region ?_
          refine o_T (y_move rfl) rfl ?_
          refine o_call en_80 rfl (t80 _ _ hrb (by omega)) (s_skip (s_skip (s_skip (s_take s_nil)))) rfl ?_
          rintro v S' ⟨l_1, rfl, hl_1, hb_1, rfl⟩
          refine o_nil0 rfl ?_
          refine c_seq ?_
          refine c_seq ?_
          refine c_region ?_
          refine o_T (y_move rfl) rfl ?_
          refine o_T (y_nilck rfl) rfl ?_
          refine o_T (y_fa fl_53_3 rfl) rfl ?_
          refine o_ld one_4 rfl (ms (ms (ms (ms (ms (ms (ms m0))))))) Wd.g27 rfl ?_
          refine o_nil1 67 rfl rfl ?_
          refine c_front (s_get (ks (ks (ks (ks (ks (ks (ks k0))))))) (s_get (ks (ks (ks (ks (ks (ks (ks k0))))))) (s_get (ks (ks (ks (ks (ks (ks (ks (ks (ks (ks (ks k0))))))))))) (s_get (ks (ks (ks (ks (ks (ks (ks (ks (ks (ks k0)))))))))) (s_get k0 (s_get k0 (s_get k0 (s_get k0 (s_get k0 (s_get k0 (s_get k0 (s_get k0 (s_get k0 (s_get k0 s_nil)))))))))))))) ?_
          refine c_joinD 4 (ι := Value × Value × List Chunk × List Chunk × List Chunk) (fun i => []) (fun i => [[(A.b, .cells (A.wd q x { V with mine := i.1, outs := i.2.1 }).enc 53 (0, 0))], i.2.2.1, i.2.2.2.1, i.2.2.2.2]) (fun i => (q = true → HsG (upA x.H d ((x.H d).inputH raw)) A.qv A.qb i.2.2.1) ∧ PM (m + 24) i.1 i.2.2.2.1 ∧ PO (m + 1) i.2.1 i.2.2.2.2) (fun _ _ h => h) ?_ ?_
          · skip
            refine c_cond rfl (fun h410 => ?_) (fun h410 => ?_)
            · try simp only [decide_eq_true_eq, decide_eq_false_iff_not, Bool.not_eq_true', Bool.not_eq_false', Int.not_lt, Int.not_le, Decidable.not_not, beq_iff_eq, bne_iff_ne, ne_eq, beq_eq_false_iff_ne, WA.wd] at h410
              refine c_seq ?_
              refine c_region ?_
              refine o_T (y_move rfl) rfl ?_
              refine o_call en_78 rfl (t78 br_1 0 raw.length raw.length 5 _ raw (BytAt.full hrb (by omega))) (s_skip (s_skip (s_skip (s_skip (s_skip (s_skip (s_skip (s_skip (s_take s_nil))))))))) rfl ?_
              rintro v S' ⟨b_2, rfl, rfl⟩
              refine o_L (y_assign rfl) rfl rfl ?_
              refine o_nil0 rfl ?_
              refine c_seq ?_
              refine c_region ?_
              refine o_T (y_move rfl) rfl ?_
              refine o_T (y_move rfl) rfl ?_
              refine o_T (y_nilck rfl) rfl ?_
              refine o_T (y_fa fl_53_2 rfl) rfl ?_
              refine o_T (y_ia ar_34 rfl rfl (by omega) (by omega)) rfl ?_
              refine o_ld one_33 rfl (ms (ms m0)) (Wd.g_q d (by omega) (by omega)) rfl ?_
              refine o_T (y_move rfl) rfl ?_
              refine o_call en_79 rfl (j79 (W.q h410) d3 (hb.ok _ d3).1 (by have := hb.b d d3; omega) b_2 raw hrb hrl (fun s g _ => hDs s g)) (s_get (ks (ks (ks k0))) (s_get (ks k0) s_nil)) rfl ?_
              rintro v S' ⟨v_2, gv_2, gd_2, gx_2, rfl, hF_2, hx_2, rfl⟩
              refine o_L (y_assign rfl) rfl rfl ?_
              refine o_nil0 rfl ?_
              refine c_seq ?_
              refine c_region ?_
              refine o_T (y_move rfl) rfl ?_
              refine o_call en_80 rfl (t80 _ _ hrb (by omega)) (s_skip (s_skip (s_skip (s_take s_nil)))) rfl ?_
              rintro v S' ⟨l_2, rfl, hl_2, hb_2, rfl⟩
              refine o_nil0 rfl ?_
              refine c_seq ?_
              refine c_seq ?_
              refine c_region ?_
              refine o_T (y_move rfl) rfl ?_
              refine o_T (y_move rfl) rfl ?_
              refine o_callrv en_81 rfl (t81 _ _ _ _ _ _ _ _ hF_1 hF_2) (s_get (ks (ks (ks (ks (ks (ks (ks (ks (ks k0))))))))) (s_get (ks (ks (ks (ks (ks (ks (ks (ks (ks k0))))))))) (s_get (ks k0) (s_get (ks k0) s_nil)))) rfl ?_
              refine o_T (y_not rfl) rfl ?_
              refine o_nil1 83 rfl rfl ?_
              refine c_cond rfl (fun h414 => ?_) (fun h414 => ?_)
              · try simp only [decide_eq_true_eq, decide_eq_false_iff_not, Bool.not_eq_true', Bool.not_eq_false', Int.not_lt, Int.not_le, Decidable.not_not, beq_iff_eq, bne_iff_ne, ne_eq, beq_eq_false_iff_ne, WA.wd] at h414
                first | exact absurd trivial h414 | exact absurd rfl h414 | (simp at h414; done)
              · try simp only [decide_eq_true_eq, decide_eq_false_iff_not, Bool.not_eq_true', Bool.not_eq_false', Int.not_lt, Int.not_le, Decidable.not_not, beq_iff_eq, bne_iff_ne, ne_eq, beq_eq_false_iff_ne, WA.wd] at h414
                refine c_skip ?_
                refine c_region ?_
                refine o_T (y_move rfl) rfl ?_
                refine o_T (y_move rfl) rfl ?_
                refine o_call en_82 rfl (t82 A q x V W.m W.o (by omega) (by omega) hF_2) (s_get (ks (ks (ks (ks (ks k0))))) (s_get (ks (ks (ks (ks (ks k0))))) (s_get (ks (ks (ks (ks (ks k0))))) (s_get (ks k0) (s_get (ks k0) s_nil))))) rfl ?_
                rintro v S' ⟨vm_1, vo_1, gm_1, go_1, rfl, hm_1, ho_1, rfl⟩
                refine o_nil0 rfl ?_
                refine ⟨(vm_1, vo_1, _, _, _), ⟨fun _ => hx_2, hm_1.mono (by omega), ho_1.mono (by omega)⟩, trivial, ⟨rfl, rfl⟩, _, ((s_get k0 (s_get (ks (ks (ks k0))) (s_get k0 (s_get k0 (s_get (ks (ks k0)) (s_get (ks (ks k0)) (s_get (ks (ks k0)) (s_get (ks (ks k0)) (s_get (ks k0) (s_get (ks k0) (s_get (ks k0) (s_get (ks k0) (s_get (ks k0) (s_get (ks k0) s_nil)))))))))))))))⟩
            · try simp only [decide_eq_true_eq, decide_eq_false_iff_not, Bool.not_eq_true', Bool.not_eq_false', Int.not_lt, Int.not_le, Decidable.not_not, beq_iff_eq, bne_iff_ne, ne_eq, beq_eq_false_iff_ne, WA.wd] at h410
              refine c_skip ?_
              refine ⟨(V.mine, V.outs, _, _, _), ⟨fun z => absurd (z.symm.trans h410) (fun y => nomatch y), W.m.mono (by omega), W.o.mono (by omega)⟩, trivial, ⟨rfl, rfl⟩, _, ((s_take (s_take (s_take (s_take (s_take (s_take (s_take (s_take (s_take (s_take (s_take (s_take (s_take (s_take s_nil)))))))))))))))⟩
          · rintro ⟨vm2, vo2, gq2, gm2, go2⟩ ⟨hq2, hm2, ho2⟩
            try dsimp only at hq2
            refine c_seq ?_
            refine c_region ?_
            refine o_T (y_move rfl) rfl ?_
            refine o_T (y_move rfl) rfl ?_
            refine o_T (y_move rfl) rfl ?_
            refine o_call en_83 rfl (t83 A q { x with H := upA x.H d ((x.H d).inputH raw), dl := upA x.dl d (x.dl d + 1), wr := wRest x.wr i } { V with mine := vm2, outs := vo2 } d d3 _ _ _ _ _ _ _ _ _ hF_1 (by omega) hw_2 (wRest_len hz.wl _) hm2 ho2 (by omega) (by omega) (by have := hz.out d d3; dsimp only; omega) (by have := hz.spilt; dsimp only; omega)) (s_get k0 (s_get (ks (ks (ks (ks (ks (ks (ks (ks (ks k0))))))))) (s_get (ks k0) (s_get (ks k0) (s_get (ks (ks k0)) (s_get (ks (ks k0)) s_nil)))))) rfl ?_
            rintro v S' ⟨vm_2, vo_2, gw_3, gm_2, go_2, rfl, hw_3, hm_2, ho_2, rfl⟩
            refine o_nil0 rfl ?_
            refine c_seq ?_
            refine c_region ?_
            refine o_T (y_move rfl) rfl ?_
            refine o_call en_14 rfl (t14L A q { V with mine := vm_2, outs := vo_2 } hLz hLk hx_1 (NtG.mk hNn) W.s W.r W.i (by omega)) (s_take (s_skip (s_skip (s_skip (s_skip (s_skip (s_take (s_skip (s_take (s_take (s_take (s_take s_nil)))))))))))) rfl ?_
            rintro v S' ⟨rfl, V_1, gn_1, gs_1, gr_1, gi_1, hV_1, hn_1, hs_1, hr_1, hi_1, rfl⟩
            refine o_L (y_assign rfl) rfl rfl ?_
            refine o_nil0 rfl ?_
            refine c_ret ?_
            refine fun aX wX heX hsX => ret1 Tryz.results38 heX rfl (s_get k0 (s_get k0 (s_get (ks (ks (ks (ks (ks (ks (ks k0))))))) (s_get (ks (ks (ks (ks k0)))) (s_get k0 (s_get k0 (s_get k0 (s_get k0 (s_get (ks k0) (s_get k0 s_nil)))))))))) ?_
            exact ⟨rfl, z, hZz, V_1, _, _, _, _, _, _, _, _, _, ⟨by rw [hLz.keeps.1]; exact hx_1, by rw [hLz.keeps.1]; exact hq2, by rw [hLz.keeps.2.2.1]; exact hw_3, hn_1, hs_1, hr_1, hi_1.mono (by omega), by rw [hV_1.1]; exact ho_2.mono (by omega), by rw [hV_1.2.1]; exact hm_2.mono (by omega)⟩, hV_1.2.2, rfl⟩

end Go.Proofs.Qxb6500351aGreat
