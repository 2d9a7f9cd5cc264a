/- MADE BY PROGRAM (tools/gen.py over tools/specsw.py): walks. -/
import Derived.Test.Qxb6500351aGreatW93
import Derived.Test.Qxb6500351aGreatW80
import Derived.Test.Qxb6500351aGreatW81
import Derived.Test.Qxb6500351aGreatW84
import Derived.Test.Qxb6500351aGreatW86
import Derived.Test.Qxb6500351aGreatW87
import Derived.Test.Qxb6500351aGreatW92
import Derived.Test.Qxb6500351aGreatMd29
set_option linter.unusedVariables false
set_option linter.unusedSimpArgs false
namespace Go.Proofs.Qxb6500351aGreat
open Go.Eng
set_option maxRecDepth 20000
set_option maxHeartbeats 4000000
attribute [local irreducible] Hst.ent Hst.err Hst.infoC
/-- (*e2e/towerlaw.World).Step -/
theorem t15 (A : WA) (q : Bool) (x : Wrld) (V : WV) (k : Nat) (gh gq gw gn gs gr gi go gm : List Chunk) (W : WG A q x V (200 * k) gh gq gw gn gs gr gi go gm) (L : LawK x k) (hk : k ≤ 10800000000) (kd oa ob oc : Int) (os ot : ByteArray) (hob : ob < 9223372036854775808) (hos : os.size ≤ 140737488355328) (st : Bool) : Trip Tryz.prog 15 #[.pointer (some ⟨A.b, 0, none⟩), .agg (Opn.mk kd oa ob oc os ot).enc, .bool st] [[(A.b, .cells (A.wd q x V).enc 53 (0, 0))], gh, gq, gw, gn, gs, gr, gi, go, gm] (fun u S' => u = .bool true ∧ ∃ z k', k' ≤ k + 7800 ∧ LawK z k' ∧ ∃ cm, WPost A q z cm (200 * k') S') := by
  refine fn_entry (args := [.pointer (some ⟨A.b, 0, none⟩), .agg (Opn.mk kd oa ob oc os ot).enc, .bool st]) Tryz.func15 rfl Tryz.ntmps15 rfl (fun w0 => ?_)
  refine c_seq ?_
  refine c_region ?_
  refine o_box rfl rfl rfl rfl (fun b_1 => ?_)
  refine o_L (y_assign rfl) rfl rfl ?_
  refine o_nil0 rfl ?_
  refine c_seq ?_
  refine c_seq ?_
  refine c_region ?_
  refine o_T (y_fa fl_32_0 rfl) rfl ?_
  refine o_ld one_3 rfl m0 Opn.g0 rfl ?_
  refine o_nil1 9 rfl rfl ?_
  refine c_block ?_
  refine c_seq ?_
  refine c_region ?_
  refine o_T (y_eql rfl rfl) rfl ?_
  refine o_L (y_assign rfl) rfl rfl ?_
  refine o_nil0 rfl ?_
  refine c_cond rfl (fun h782 => ?_) (fun h782 => ?_)
  · try simp only [decide_eq_true_eq, decide_eq_false_iff_not, Bool.not_eq_true', Bool.not_eq_false', Int.not_lt, Int.not_le, Decidable.not_not, beq_iff_eq, bne_iff_ne, ne_eq, beq_eq_false_iff_ne, WA.wd] at h782
    refine c_seq ?_
    refine c_region ?_
    refine o_T (y_move rfl) rfl ?_
    refine o_T (y_fa fl_32_1 rfl) rfl ?_
    refine o_ld one_3 rfl m0 Opn.g1 rfl ?_
    refine o_call en_38 rfl (t38 A q x V _ _ _ _ _ _ _ _ _ _ W (by omega) (L.szs (by omega)) (L.hb (by omega)) oa (fun z => LawK z (k + 1)) (L.del (by omega) oa)) (s_skip (s_take (s_take (s_take (s_take (s_take (s_take (s_take (s_take (s_take (s_take s_nil))))))))))) rfl ?_
    rintro v S' ⟨rfl, z_1, hZ_1, V_1, gh_1, gq_1, gw_1, gn_1, gs_1, gr_1, gi_1, go_1, gm_1, W_1, hc_1, rfl⟩
    refine o_L (y_assign rfl) rfl rfl ?_
    refine o_nil0 rfl ?_
    refine c_ret ?_
    refine fun aX wX heX hsX => ret1 Tryz.results15 heX rfl (s_take (s_take (s_take (s_take (s_take (s_take (s_take (s_take (s_take (s_take s_nil)))))))))) ?_
    exact ⟨rfl, z_1, k + 1, by omega, hZ_1, _, V_1, _, _, _, _, _, _, _, _, _, W_1.mono (by omega), rfl, rfl⟩
  · try simp only [decide_eq_true_eq, decide_eq_false_iff_not, Bool.not_eq_true', Bool.not_eq_false', Int.not_lt, Int.not_le, Decidable.not_not, beq_iff_eq, bne_iff_ne, ne_eq, beq_eq_false_iff_ne, WA.wd] at h782
    refine c_seq ?_
    refine c_region ?_
    refine o_T (y_eql rfl rfl) rfl ?_
    refine o_L (y_assign rfl) rfl rfl ?_
    refine o_nil0 rfl ?_
    refine c_cond rfl (fun h784 => ?_) (fun h784 => ?_)
    · try simp only [decide_eq_true_eq, decide_eq_false_iff_not, Bool.not_eq_true', Bool.not_eq_false', Int.not_lt, Int.not_le, Decidable.not_not, beq_iff_eq, bne_iff_ne, ne_eq, beq_eq_false_iff_ne, WA.wd] at h784
      refine c_seq ?_
      obtain ⟨zt, hT, hZt⟩ := L.tick (by omega)
      refine c_region ?_
      refine o_T (y_move rfl) rfl ?_
      refine o_call en_39 rfl (t39 A q x V _ _ _ _ _ _ _ _ _ _ W (by omega) (L.szs (by omega)) (tickX x) zt hT) (s_skip (s_take (s_take (s_take (s_take (s_take (s_take (s_take (s_take (s_take (s_take s_nil))))))))))) rfl ?_
      rintro v S' ⟨rfl, V_2, gh_2, gq_2, gw_2, gn_2, gs_2, gr_2, gi_2, go_2, gm_2, W_2, hc_2, rfl⟩
      refine o_L (y_assign rfl) rfl rfl ?_
      refine o_nil0 rfl ?_
      refine c_ret ?_
      refine fun aX wX heX hsX => ret1 Tryz.results15 heX rfl (s_take (s_take (s_take (s_take (s_take (s_take (s_take (s_take (s_take (s_take s_nil)))))))))) ?_
      exact ⟨rfl, zt, k + 1, by omega, hZt, _, V_2, _, _, _, _, _, _, _, _, _, W_2.mono (by omega), rfl, rfl⟩
    · try simp only [decide_eq_true_eq, decide_eq_false_iff_not, Bool.not_eq_true', Bool.not_eq_false', Int.not_lt, Int.not_le, Decidable.not_not, beq_iff_eq, bne_iff_ne, ne_eq, beq_eq_false_iff_ne, WA.wd] at h784
      refine c_seq ?_
      refine c_region ?_
      refine o_T (y_eql rfl rfl) rfl ?_
      refine o_L (y_assign rfl) rfl rfl ?_
      refine o_nil0 rfl ?_
      refine c_cond rfl (fun h786 => ?_) (fun h786 => ?_)
      · try simp only [decide_eq_true_eq, decide_eq_false_iff_not, Bool.not_eq_true', Bool.not_eq_false', Int.not_lt, Int.not_le, Decidable.not_not, beq_iff_eq, bne_iff_ne, ne_eq, beq_eq_false_iff_ne, WA.wd] at h786
        refine c_seq ?_
        refine c_region ?_
        refine o_T (y_move rfl) rfl ?_
        refine o_call en_40 rfl (t40 A q x V k _ _ _ _ _ _ _ _ _ W L hk) (s_skip (s_take (s_take (s_take (s_take (s_take (s_take (s_take (s_take (s_take (s_take s_nil))))))))))) rfl ?_
        rintro v S' ⟨rfl, y_1, kn_1, hk_1, hL_1, cm_1, V_3, gh_3, gq_3, gw_3, gn_3, gs_3, gr_3, gi_3, go_3, gm_3, W_3, hc_3, rfl⟩
        refine o_L (y_assign rfl) rfl rfl ?_
        refine o_nil0 rfl ?_
        refine c_ret ?_
        refine fun aX wX heX hsX => ret1 Tryz.results15 heX rfl (s_take (s_take (s_take (s_take (s_take (s_take (s_take (s_take (s_take (s_take s_nil)))))))))) ?_
        exact ⟨rfl, y_1, kn_1, hk_1, hL_1, _, V_3, _, _, _, _, _, _, _, _, _, W_3, rfl, rfl⟩
      · try simp only [decide_eq_true_eq, decide_eq_false_iff_not, Bool.not_eq_true', Bool.not_eq_false', Int.not_lt, Int.not_le, Decidable.not_not, beq_iff_eq, bne_iff_ne, ne_eq, beq_eq_false_iff_ne, WA.wd] at h786
        refine c_seq ?_
        refine c_region ?_
        refine o_T (y_eql rfl rfl) rfl ?_
        refine o_L (y_assign rfl) rfl rfl ?_
        refine o_nil0 rfl ?_
        refine c_cond rfl (fun h788 => ?_) (fun h788 => ?_)
        · try simp only [decide_eq_true_eq, decide_eq_false_iff_not, Bool.not_eq_true', Bool.not_eq_false', Int.not_lt, Int.not_le, Decidable.not_not, beq_iff_eq, bne_iff_ne, ne_eq, beq_eq_false_iff_ne, WA.wd] at h788
          refine c_seq ?_
          refine c_seq ?_
          refine c_region ?_
          refine o_T (y_move rfl) rfl ?_
          refine o_T (y_not rfl) rfl ?_
          refine o_nil1 27 rfl rfl ?_
          refine c_cond rfl (fun h789 => ?_) (fun h789 => ?_)
          · try simp only [decide_eq_true_eq, decide_eq_false_iff_not, Bool.not_eq_true', Bool.not_eq_false', Int.not_lt, Int.not_le, Decidable.not_not, beq_iff_eq, bne_iff_ne, ne_eq, beq_eq_false_iff_ne, WA.wd] at h789
            refine c_draw #[true, true, true, true, true, true, false] rfl (n := 7) rfl ?_
            refine d_T 0 rfl (by kernel_rfl) rfl (y_move rfl) rfl ?_
            refine d_T 1 rfl (by kernel_rfl) rfl (y_nilck rfl) rfl ?_
            refine d_T 2 rfl (by kernel_rfl) rfl (y_fa fl_53_5 rfl) rfl ?_
            refine d_ld 3 rfl (by kernel_rfl) one_43 rfl (fun x hx => hx) (ms m0) Wd.g29 rfl ?_
            refine d_T 4 rfl (by kernel_rfl) rfl (y_fa fl_32_1 rfl) rfl ?_
            refine d_ld 5 rfl (by kernel_rfl) one_3 rfl (fun x hx => hx) m0 Opn.g1 rfl ?_
            refine d_hard 6 rfl (by kernel_rfl) ?_
            refine o_call en_41 rfl (i41 W.w (L.szs (by omega)).wl oa) (s_skip (s_skip (s_skip (s_skip (s_take s_nil))))) rfl ?_
            rintro v S' ⟨rb_1, gw_4, rfl, hw_1, rfl⟩
            refine o_stop (fun h => nomatch h) ?_
            refine d_nil0 (by kernel_rfl) rfl ?_
            refine c_seq ?_
            refine c_region ?_
            refine o_L (y_assign rfl) rfl rfl ?_
            refine o_nil0 rfl ?_
            refine c_ret ?_
            refine fun aX wX heX hsX => ret1 Tryz.results15 heX rfl (s_get (ks (ks k0)) (s_get (ks (ks k0)) (s_get (ks (ks k0)) (s_get k0 (s_get (ks k0) (s_get (ks k0) (s_get (ks k0) (s_get (ks k0) (s_get (ks k0) (s_get (ks k0) s_nil)))))))))) ?_
            exact ⟨rfl, { x with wr := wRest x.wr oa }, k, by omega, L.rest oa, _, V, _, _, _, _, _, _, _, _, _, ⟨W.h, W.q, hw_1, W.n, W.s, W.r, W.i, W.o, W.m⟩, rfl, rfl⟩
          · try simp only [decide_eq_true_eq, decide_eq_false_iff_not, Bool.not_eq_true', Bool.not_eq_false', Int.not_lt, Int.not_le, Decidable.not_not, beq_iff_eq, bne_iff_ne, ne_eq, beq_eq_false_iff_ne, WA.wd] at h789
            refine c_skip ?_
            refine c_seq ?_
            refine c_region ?_
            refine o_L (y_assign rfl) rfl rfl ?_
            refine o_nil0 rfl ?_
            refine c_ret ?_
            refine fun aX wX heX hsX => ret1 Tryz.results15 heX rfl (s_skip (s_take (s_take (s_take (s_take (s_take (s_take (s_take (s_take (s_take (s_take s_nil))))))))))) ?_
            exact ⟨rfl, x, k, by omega, L, _, V, _, _, _, _, _, _, _, _, _, W, rfl, rfl⟩
        · try simp only [decide_eq_true_eq, decide_eq_false_iff_not, Bool.not_eq_true', Bool.not_eq_false', Int.not_lt, Int.not_le, Decidable.not_not, beq_iff_eq, bne_iff_ne, ne_eq, beq_eq_false_iff_ne, WA.wd] at h788
          refine c_seq ?_
          refine c_region ?_
          refine o_T (y_eql rfl rfl) rfl ?_
          refine o_L (y_assign rfl) rfl rfl ?_
          refine o_nil0 rfl ?_
          refine c_cond rfl (fun h793 => ?_) (fun h793 => ?_)
          · try simp only [decide_eq_true_eq, decide_eq_false_iff_not, Bool.not_eq_true', Bool.not_eq_false', Int.not_lt, Int.not_le, Decidable.not_not, beq_iff_eq, bne_iff_ne, ne_eq, beq_eq_false_iff_ne, WA.wd] at h793
            refine c_seq ?_
            refine c_seq ?_
            refine c_region ?_
            refine o_T (y_move rfl) rfl ?_
            refine o_T (y_not rfl) rfl ?_
            refine o_nil1 38 rfl rfl ?_
            refine c_cond rfl (fun h794 => ?_) (fun h794 => ?_)
            · try simp only [decide_eq_true_eq, decide_eq_false_iff_not, Bool.not_eq_true', Bool.not_eq_false', Int.not_lt, Int.not_le, Decidable.not_not, beq_iff_eq, bne_iff_ne, ne_eq, beq_eq_false_iff_ne, WA.wd] at h794
              refine c_draw #[true, true, true, true, true, true, false] rfl (n := 7) rfl ?_
              refine d_T 0 rfl (by kernel_rfl) rfl (y_move rfl) rfl ?_
              refine d_T 1 rfl (by kernel_rfl) rfl (y_nilck rfl) rfl ?_
              refine d_T 2 rfl (by kernel_rfl) rfl (y_fa fl_53_5 rfl) rfl ?_
              refine d_ld 3 rfl (by kernel_rfl) one_43 rfl (fun x hx => hx) (ms m0) Wd.g29 rfl ?_
              refine d_T 4 rfl (by kernel_rfl) rfl (y_fa fl_32_1 rfl) rfl ?_
              refine d_ld 5 rfl (by kernel_rfl) one_3 rfl (fun x hx => hx) m0 Opn.g1 rfl ?_
              refine d_hard 6 rfl (by kernel_rfl) ?_
              refine o_call en_42 rfl (i42 W.w (L.szs (by omega)).wl oa) (s_skip (s_skip (s_skip (s_skip (s_take s_nil))))) rfl ?_
              rintro v S' ⟨rb_2, gw_5, rfl, hw_2, rfl⟩
              refine o_stop (fun h => nomatch h) ?_
              refine d_nil0 (by kernel_rfl) rfl ?_
              refine c_seq ?_
              refine c_region ?_
              refine o_L (y_assign rfl) rfl rfl ?_
              refine o_nil0 rfl ?_
              refine c_ret ?_
              refine fun aX wX heX hsX => ret1 Tryz.results15 heX rfl (s_get (ks (ks k0)) (s_get (ks (ks k0)) (s_get (ks (ks k0)) (s_get k0 (s_get (ks k0) (s_get (ks k0) (s_get (ks k0) (s_get (ks k0) (s_get (ks k0) (s_get (ks k0) s_nil)))))))))) ?_
              exact ⟨rfl, { x with wr := wDouble x.wr oa }, k, by omega, L.double oa, _, V, _, _, _, _, _, _, _, _, _, ⟨W.h, W.q, hw_2, W.n, W.s, W.r, W.i, W.o, W.m⟩, rfl, rfl⟩
            · try simp only [decide_eq_true_eq, decide_eq_false_iff_not, Bool.not_eq_true', Bool.not_eq_false', Int.not_lt, Int.not_le, Decidable.not_not, beq_iff_eq, bne_iff_ne, ne_eq, beq_eq_false_iff_ne, WA.wd] at h794
              refine c_skip ?_
              refine c_seq ?_
              refine c_region ?_
              refine o_L (y_assign rfl) rfl rfl ?_
              refine o_nil0 rfl ?_
              refine c_ret ?_
              refine fun aX wX heX hsX => ret1 Tryz.results15 heX rfl (s_skip (s_take (s_take (s_take (s_take (s_take (s_take (s_take (s_take (s_take (s_take s_nil))))))))))) ?_
              exact ⟨rfl, x, k, by omega, L, _, V, _, _, _, _, _, _, _, _, _, W, rfl, rfl⟩
          · try simp only [decide_eq_true_eq, decide_eq_false_iff_not, Bool.not_eq_true', Bool.not_eq_false', Int.not_lt, Int.not_le, Decidable.not_not, beq_iff_eq, bne_iff_ne, ne_eq, beq_eq_false_iff_ne, WA.wd] at h793
            refine c_seq ?_
            refine c_region ?_
            refine o_T (y_eql rfl rfl) rfl ?_
            refine o_L (y_assign rfl) rfl rfl ?_
            refine o_nil0 rfl ?_
            refine c_cond rfl (fun h798 => ?_) (fun h798 => ?_)
            · try simp only [decide_eq_true_eq, decide_eq_false_iff_not, Bool.not_eq_true', Bool.not_eq_false', Int.not_lt, Int.not_le, Decidable.not_not, beq_iff_eq, bne_iff_ne, ne_eq, beq_eq_false_iff_ne, WA.wd] at h798
              refine c_seq ?_
              refine c_seq ?_
              refine c_region ?_
              refine o_T (y_move rfl) rfl ?_
              refine o_T (y_not rfl) rfl ?_
              refine o_nil1 49 rfl rfl ?_
              refine c_cond rfl (fun h799 => ?_) (fun h799 => ?_)
              · try simp only [decide_eq_true_eq, decide_eq_false_iff_not, Bool.not_eq_true', Bool.not_eq_false', Int.not_lt, Int.not_le, Decidable.not_not, beq_iff_eq, bne_iff_ne, ne_eq, beq_eq_false_iff_ne, WA.wd] at h799
                refine c_draw #[true, true, true, true, true, true, true, true, false] rfl (n := 9) rfl ?_
                refine d_T 0 rfl (by kernel_rfl) rfl (y_move rfl) rfl ?_
                refine d_T 1 rfl (by kernel_rfl) rfl (y_nilck rfl) rfl ?_
                refine d_T 2 rfl (by kernel_rfl) rfl (y_fa fl_53_5 rfl) rfl ?_
                refine d_ld 3 rfl (by kernel_rfl) one_43 rfl (fun x hx => hx) (ms m0) Wd.g29 rfl ?_
                refine d_T 4 rfl (by kernel_rfl) rfl (y_fa fl_32_1 rfl) rfl ?_
                refine d_ld 5 rfl (by kernel_rfl) one_3 rfl (fun x hx => hx) m0 Opn.g1 rfl ?_
                refine d_T 6 rfl (by kernel_rfl) rfl (y_fa fl_32_2 rfl) rfl ?_
                refine d_ld 7 rfl (by kernel_rfl) one_3 rfl (fun x hx => hx) m0 Opn.g2 rfl ?_
                refine d_hard 8 rfl (by kernel_rfl) ?_
                refine o_call en_43 rfl (i43 W.w (L.szs (by omega)).wl oa ob hob) (s_skip (s_skip (s_skip (s_skip (s_take s_nil))))) rfl ?_
                rintro v S' ⟨rb_3, gw_6, rfl, hw_3, rfl⟩
                refine o_stop (fun h => nomatch h) ?_
                refine d_nil0 (by kernel_rfl) rfl ?_
                refine c_seq ?_
                refine c_region ?_
                refine o_L (y_assign rfl) rfl rfl ?_
                refine o_nil0 rfl ?_
                refine c_ret ?_
                refine fun aX wX heX hsX => ret1 Tryz.results15 heX rfl (s_get (ks (ks k0)) (s_get (ks (ks k0)) (s_get (ks (ks k0)) (s_get k0 (s_get (ks k0) (s_get (ks k0) (s_get (ks k0) (s_get (ks k0) (s_get (ks k0) (s_get (ks k0) s_nil)))))))))) ?_
                exact ⟨rfl, { x with wr := wFlip x.wr oa ob }, k, by omega, L.flip oa ob, _, V, _, _, _, _, _, _, _, _, _, ⟨W.h, W.q, hw_3, W.n, W.s, W.r, W.i, W.o, W.m⟩, rfl, rfl⟩
              · try simp only [decide_eq_true_eq, decide_eq_false_iff_not, Bool.not_eq_true', Bool.not_eq_false', Int.not_lt, Int.not_le, Decidable.not_not, beq_iff_eq, bne_iff_ne, ne_eq, beq_eq_false_iff_ne, WA.wd] at h799
                refine c_skip ?_
                refine c_seq ?_
                refine c_region ?_
                refine o_L (y_assign rfl) rfl rfl ?_
                refine o_nil0 rfl ?_
                refine c_ret ?_
                refine fun aX wX heX hsX => ret1 Tryz.results15 heX rfl (s_skip (s_take (s_take (s_take (s_take (s_take (s_take (s_take (s_take (s_take (s_take s_nil))))))))))) ?_
                exact ⟨rfl, x, k, by omega, L, _, V, _, _, _, _, _, _, _, _, _, W, rfl, rfl⟩
            · try simp only [decide_eq_true_eq, decide_eq_false_iff_not, Bool.not_eq_true', Bool.not_eq_false', Int.not_lt, Int.not_le, Decidable.not_not, beq_iff_eq, bne_iff_ne, ne_eq, beq_eq_false_iff_ne, WA.wd] at h798
              refine c_skip ?_
              refine c_seq ?_
              refine c_seq ?_
              refine c_region ?_
              refine o_T (y_fa fl_32_3 rfl) rfl ?_
              refine o_ld one_3 rfl m0 Opn.g3 rfl ?_
              refine o_T (y_lss rfl rfl) rfl ?_
              refine o_T (y_move rfl) rfl ?_
              refine o_split 62 rfl (fun h804 => ?_) (fun h804 => ?_)
              · try simp only [decide_eq_true_eq, decide_eq_false_iff_not, Bool.not_eq_true', Bool.not_eq_false', Int.not_lt, Int.not_le, Decidable.not_not, beq_iff_eq, bne_iff_ne, ne_eq, beq_eq_false_iff_ne, WA.wd] at h804
                refine o_pass rfl rfl rfl rfl rfl ?_
                refine o_pass rfl rfl rfl rfl rfl ?_
                refine o_pass rfl rfl rfl rfl rfl ?_
                refine o_T (y_pickT rfl rfl) rfl ?_
                refine o_nil1 66 rfl rfl ?_
                refine c_condT rfl ?_
                refine c_seq ?_
                refine c_region ?_
                refine o_L (y_assign rfl) rfl rfl ?_
                refine o_nil0 rfl ?_
                refine c_ret ?_
                refine fun aX wX heX hsX => ret1 Tryz.results15 heX rfl (s_skip (s_take (s_take (s_take (s_take (s_take (s_take (s_take (s_take (s_take (s_take s_nil))))))))))) ?_
                exact ⟨rfl, x, k, by omega, L, _, V, _, _, _, _, _, _, _, _, _, W, rfl, rfl⟩
              · try simp only [decide_eq_true_eq, decide_eq_false_iff_not, Bool.not_eq_true', Bool.not_eq_false', Int.not_lt, Int.not_le, Decidable.not_not, beq_iff_eq, bne_iff_ne, ne_eq, beq_eq_false_iff_ne, WA.wd] at h804
                refine o_take rfl rfl rfl ?_
                refine o_T (y_fa fl_32_3 rfl) rfl ?_
                refine o_take rfl rfl rfl ?_
                refine o_ld one_3 rfl m0 Opn.g3 rfl ?_
                refine o_take rfl rfl rfl ?_
                refine o_T (y_geq rfl rfl) rfl ?_
                refine o_T (y_pickF rfl rfl) rfl ?_
                refine o_nil1 66 rfl rfl ?_
                refine c_cond rfl (fun h804_1 => ?_) (fun h804_1 => ?_)
                · try simp only [decide_eq_true_eq, decide_eq_false_iff_not, Bool.not_eq_true', Bool.not_eq_false', Int.not_lt, Int.not_le, Decidable.not_not, beq_iff_eq, bne_iff_ne, ne_eq, beq_eq_false_iff_ne, WA.wd] at h804_1
                  refine c_seq ?_
                  refine c_region ?_
                  refine o_L (y_assign rfl) rfl rfl ?_
                  refine o_nil0 rfl ?_
                  refine c_ret ?_
                  refine fun aX wX heX hsX => ret1 Tryz.results15 heX rfl (s_skip (s_take (s_take (s_take (s_take (s_take (s_take (s_take (s_take (s_take (s_take s_nil))))))))))) ?_
                  exact ⟨rfl, x, k, by omega, L, _, V, _, _, _, _, _, _, _, _, _, W, rfl, rfl⟩
                · try simp only [decide_eq_true_eq, decide_eq_false_iff_not, Bool.not_eq_true', Bool.not_eq_false', Int.not_lt, Int.not_le, Decidable.not_not, beq_iff_eq, bne_iff_ne, ne_eq, beq_eq_false_iff_ne, WA.wd] at h804_1
                  refine c_skip ?_
                  refine c_seq ?_
                  obtain ⟨c, rfl⟩ : ∃ c : Nat, oc = (c : Int) := ⟨oc.toNat, by omega⟩
                  have c3 : c < 3 := by omega
                  have hz := L.szs (by omega)
                  have hb := L.hb (by omega)
                  refine c_region ?_
                  refine o_L (y_assign rfl) rfl rfl ?_
                  refine o_nil0 rfl ?_
                  refine c_seq ?_
                  refine c_seq ?_
                  refine c_region ?_
                  refine o_T (y_fa fl_32_0 rfl) rfl ?_
                  refine o_ld one_3 rfl m0 Opn.g0 rfl ?_
                  refine o_nil1 68 rfl rfl ?_
                  refine c_front (s_get (ks k0) (s_get (ks k0) (s_get (ks k0) (s_get (ks k0) (s_get (ks k0) (s_get (ks k0) (s_get (ks k0) (s_get (ks k0) (s_get (ks k0) (s_get (ks k0) (s_get k0 s_nil))))))))))) ?_
                  refine c_joinD 10 (ι := WS) (fun i => [(7, .bool true)]) (fun i => [[(A.b, .cells (A.wd q i.x i.V).enc 53 (0, 0))], i.gh, i.gq, i.gw, i.gn, i.gs, i.gr, i.gi, i.go, i.gm]) (fun i => NextK i.x k ∧ WG A q i.x i.V (200 * k + 100) i.gh i.gq i.gw i.gn i.gs i.gr i.gi i.go i.gm) (fun _ _ h => h) ?_ ?_
                  · skip
                    refine c_block ?_
                    refine c_seq ?_
                    refine c_region ?_
                    refine o_T (y_eql rfl rfl) rfl ?_
                    refine o_L (y_assign rfl) rfl rfl ?_
                    refine o_nil0 rfl ?_
                    refine c_cond rfl (fun h809 => ?_) (fun h809 => ?_)
                    · try simp only [decide_eq_true_eq, decide_eq_false_iff_not, Bool.not_eq_true', Bool.not_eq_false', Int.not_lt, Int.not_le, Decidable.not_not, beq_iff_eq, bne_iff_ne, ne_eq, beq_eq_false_iff_ne, WA.wd] at h809
                      obtain ⟨p1, p2, p3, pN⟩ := L.listen (by omega) c3 oa
                      refine c_region ?_
                      refine o_T (y_move rfl) rfl ?_
                      refine o_T (y_fa fl_32_3 rfl) rfl ?_
                      refine o_ld one_3 rfl (ms (ms (ms (ms (ms (ms (ms (ms (ms (ms m0)))))))))) Opn.g3 rfl ?_
                      refine o_T (y_fa fl_32_1 rfl) rfl ?_
                      refine o_ld one_3 rfl (ms (ms (ms (ms (ms (ms (ms (ms (ms (ms m0)))))))))) Opn.g1 rfl ?_
                      refine o_call en_44 rfl (t44 A q x V _ _ _ c c3 oa W.h hb.ok W.q W.s (hb.b c c3).2.2 pN.ok p1 p2 p3) (s_take (s_take (s_take (s_skip (s_skip (s_take s_nil)))))) rfl ?_
                      rintro v S' ⟨rfl, gh_4, gq_4, hh_1, hq_1, rfl⟩
                      refine o_L (y_assign rfl) rfl rfl ?_
                      refine o_nil0 rfl ?_
                      refine ⟨⟨{ x with H := (upA x.H c { (x.H c) with t := ((x.H c).t.listen oa).2.2 }) }, V, k, gh_4, gq_4, gw, gn, gs, gr, gi, go, gm⟩, ⟨pN, ⟨hh_1, hq_1, W.w, W.n, W.s, W.r, W.i.mono (by omega), W.o.mono (by omega), W.m.mono (by omega)⟩⟩, ⟨by first | rfl | exact gteI rfl (by omega), trivial⟩, ⟨rfl, rfl⟩, _, ((s_get k0 (s_get k0 (s_get k0 (s_get (ks k0) (s_get (ks k0) (s_get k0 (s_get k0 (s_get k0 (s_get k0 (s_get k0 (s_get k0 s_nil))))))))))))⟩
                    · try simp only [decide_eq_true_eq, decide_eq_false_iff_not, Bool.not_eq_true', Bool.not_eq_false', Int.not_lt, Int.not_le, Decidable.not_not, beq_iff_eq, bne_iff_ne, ne_eq, beq_eq_false_iff_ne, WA.wd] at h809
                      refine c_seq ?_
                      refine c_region ?_
                      refine o_T (y_eql rfl rfl) rfl ?_
                      refine o_L (y_assign rfl) rfl rfl ?_
                      refine o_nil0 rfl ?_
                      refine c_cond rfl (fun h811 => ?_) (fun h811 => ?_)
                      · try simp only [decide_eq_true_eq, decide_eq_false_iff_not, Bool.not_eq_true', Bool.not_eq_false', Int.not_lt, Int.not_le, Decidable.not_not, beq_iff_eq, bne_iff_ne, ne_eq, beq_eq_false_iff_ne, WA.wd] at h811
                        obtain ⟨p1, p2, p3, p4, p5, p6, p7, p8, p9⟩ := L.connect (by omega) c3 oa ob
                        refine c_region ?_
                        refine o_T (y_move rfl) rfl ?_
                        refine o_T (y_fa fl_32_3 rfl) rfl ?_
                        refine o_ld one_3 rfl (ms (ms (ms (ms (ms (ms (ms (ms (ms (ms m0)))))))))) Opn.g3 rfl ?_
                        refine o_T (y_fa fl_32_1 rfl) rfl ?_
                        refine o_ld one_3 rfl (ms (ms (ms (ms (ms (ms (ms (ms (ms (ms m0)))))))))) Opn.g1 rfl ?_
                        refine o_T (y_fa fl_32_2 rfl) rfl ?_
                        refine o_ld one_3 rfl (ms (ms (ms (ms (ms (ms (ms (ms (ms (ms m0)))))))))) Opn.g2 rfl ?_
                        refine o_call en_45 rfl (t45 A q x V _ _ _ _ _ _ _ _ _ _ W (by omega) hz hb c c3 oa ob (fun y => NextK y k) p9 p1 p2 p3 p4 p5 p6 p7 p8) (s_take (s_take (s_take (s_take (s_take (s_take (s_take (s_take (s_take (s_take s_nil)))))))))) rfl ?_
                        rintro v S' ⟨rfl, y_2, hY_1, V_4, gh_5, gq_5, gw_7, gn_4, gs_4, gr_4, gi_4, go_4, gm_4, W_4, hc_4, rfl⟩
                        refine o_L (y_assign rfl) rfl rfl ?_
                        refine o_nil0 rfl ?_
                        refine ⟨⟨y_2, V_4, k, gh_5, gq_5, gw_7, gn_4, gs_4, gr_4, gi_4, go_4, gm_4⟩, ⟨hY_1, W_4.mono (by omega)⟩, ⟨by first | rfl | exact gteI rfl (by omega), trivial⟩, ⟨rfl, rfl⟩, _, ((s_take (s_take (s_take (s_take (s_take (s_take (s_take (s_take (s_take (s_take (s_take s_nil))))))))))))⟩
                      · try simp only [decide_eq_true_eq, decide_eq_false_iff_not, Bool.not_eq_true', Bool.not_eq_false', Int.not_lt, Int.not_le, Decidable.not_not, beq_iff_eq, bne_iff_ne, ne_eq, beq_eq_false_iff_ne, WA.wd] at h811
                        refine c_seq ?_
                        refine c_region ?_
                        refine o_T (y_eql rfl rfl) rfl ?_
                        refine o_L (y_assign rfl) rfl rfl ?_
                        refine o_nil0 rfl ?_
                        refine c_cond rfl (fun h813 => ?_) (fun h813 => ?_)
                        · try simp only [decide_eq_true_eq, decide_eq_false_iff_not, Bool.not_eq_true', Bool.not_eq_false', Int.not_lt, Int.not_le, Decidable.not_not, beq_iff_eq, bne_iff_ne, ne_eq, beq_eq_false_iff_ne, WA.wd] at h813
                          obtain ⟨p1, p2, p3, pN⟩ := L.accept (by omega) c3 oa
                          refine c_region ?_
                          refine o_T (y_move rfl) rfl ?_
                          refine o_T (y_fa fl_32_3 rfl) rfl ?_
                          refine o_ld one_3 rfl (ms (ms (ms (ms (ms (ms (ms (ms (ms (ms m0)))))))))) Opn.g3 rfl ?_
                          refine o_T (y_fa fl_32_1 rfl) rfl ?_
                          refine o_ld one_3 rfl (ms (ms (ms (ms (ms (ms (ms (ms (ms (ms m0)))))))))) Opn.g1 rfl ?_
                          refine o_call en_46 rfl (t46 A q x V _ _ _ c c3 oa W.h hb.ok W.q W.r p3 (L.kids c3 _) p1 p2) (s_take (s_take (s_take (s_skip (s_skip (s_skip (s_take s_nil))))))) rfl ?_
                          rintro v S' ⟨rfl, gh_6, gq_6, hh_2, hq_2, rfl⟩
                          refine o_L (y_assign rfl) rfl rfl ?_
                          refine o_nil0 rfl ?_
                          refine ⟨⟨{ x with H := (upA x.H c { (x.H c) with t := ((x.H c).t.accept oa).2.2 }) }, V, k, gh_6, gq_6, gw, gn, gs, gr, gi, go, gm⟩, ⟨pN, ⟨hh_2, hq_2, W.w, W.n, W.s, W.r, W.i.mono (by omega), W.o.mono (by omega), W.m.mono (by omega)⟩⟩, ⟨by first | rfl | exact gteI rfl (by omega), trivial⟩, ⟨rfl, rfl⟩, _, ((s_get k0 (s_get k0 (s_get k0 (s_get (ks k0) (s_get (ks k0) (s_get (ks k0) (s_get k0 (s_get k0 (s_get k0 (s_get k0 (s_get k0 s_nil))))))))))))⟩
                        · try simp only [decide_eq_true_eq, decide_eq_false_iff_not, Bool.not_eq_true', Bool.not_eq_false', Int.not_lt, Int.not_le, Decidable.not_not, beq_iff_eq, bne_iff_ne, ne_eq, beq_eq_false_iff_ne, WA.wd] at h813
                          refine c_seq ?_
                          refine c_region ?_
                          refine o_T (y_eql rfl rfl) rfl ?_
                          refine o_L (y_assign rfl) rfl rfl ?_
                          refine o_nil0 rfl ?_
                          refine c_cond rfl (fun h815 => ?_) (fun h815 => ?_)
                          · try simp only [decide_eq_true_eq, decide_eq_false_iff_not, Bool.not_eq_true', Bool.not_eq_false', Int.not_lt, Int.not_le, Decidable.not_not, beq_iff_eq, bne_iff_ne, ne_eq, beq_eq_false_iff_ne, WA.wd] at h815
                            obtain ⟨p1, p2, p3, p4, p5, p6, p7, p8⟩ := L.send (by omega) c3 oa (s2b_bytes os)
                            refine c_region ?_
                            refine o_T (y_move rfl) rfl ?_
                            refine o_T (y_fa fl_32_3 rfl) rfl ?_
                            refine o_ld one_3 rfl (ms (ms (ms (ms (ms (ms (ms (ms (ms (ms m0)))))))))) Opn.g3 rfl ?_
                            refine o_T (y_fa fl_32_1 rfl) rfl ?_
                            refine o_ld one_3 rfl (ms (ms (ms (ms (ms (ms (ms (ms (ms (ms m0)))))))))) Opn.g1 rfl ?_
                            refine o_T (y_fa fl_32_4 rfl) rfl ?_
                            refine o_ld one_9 rfl (ms (ms (ms (ms (ms (ms (ms (ms (ms (ms m0)))))))))) Opn.g4 rfl ?_
                            refine o_s2b Tryz.underlying9 Tryz.underlying81 Tryz.underlying5 rfl hos rfl (fun bS capS csS fzS hS => ?_)
                            refine o_call en_47 rfl (t47 A q x V _ _ _ _ _ _ _ _ _ _ W (by omega) hz hb c c3 oa bS capS _ csS fzS _ hS (fun y => NextK y k) p1 p2 p3 p4 p5 p6 p7 p8) (s_get (ks k0) (s_get (ks k0) (s_get (ks k0) (s_get (ks k0) (s_get (ks k0) (s_get (ks k0) (s_get (ks k0) (s_get (ks k0) (s_get (ks k0) (s_get (ks k0) (s_get k0 s_nil))))))))))) rfl ?_
                            rintro v S' ⟨rfl, y_3, hY_2, V_5, gh_7, gq_7, gw_8, gn_5, gs_5, gr_5, gi_5, go_5, gm_5, W_5, hc_5, rfl⟩
                            refine o_L (y_assign rfl) rfl rfl ?_
                            refine o_nil0 rfl ?_
                            refine ⟨⟨y_3, V_5, k, gh_7, gq_7, gw_8, gn_5, gs_5, gr_5, gi_5, go_5, gm_5⟩, ⟨hY_2, W_5.mono (by omega)⟩, ⟨by first | rfl | exact gteI rfl (by omega), trivial⟩, ⟨rfl, rfl⟩, _, ((s_take (s_take (s_take (s_take (s_take (s_take (s_take (s_take (s_take (s_take (s_take s_nil))))))))))))⟩
                          · try simp only [decide_eq_true_eq, decide_eq_false_iff_not, Bool.not_eq_true', Bool.not_eq_false', Int.not_lt, Int.not_le, Decidable.not_not, beq_iff_eq, bne_iff_ne, ne_eq, beq_eq_false_iff_ne, WA.wd] at h815
                            refine c_seq ?_
                            refine c_region ?_
                            refine o_T (y_eql rfl rfl) rfl ?_
                            refine o_L (y_assign rfl) rfl rfl ?_
                            refine o_nil0 rfl ?_
                            refine c_cond rfl (fun h817 => ?_) (fun h817 => ?_)
                            · try simp only [decide_eq_true_eq, decide_eq_false_iff_not, Bool.not_eq_true', Bool.not_eq_false', Int.not_lt, Int.not_le, Decidable.not_not, beq_iff_eq, bne_iff_ne, ne_eq, beq_eq_false_iff_ne, WA.wd] at h817
                              obtain ⟨p1, p2, p3, p4, p5, p6, p7, p8, p9, p10⟩ := L.recv (by omega) c3 oa ob
                              refine c_region ?_
                              refine o_T (y_move rfl) rfl ?_
                              refine o_T (y_fa fl_32_3 rfl) rfl ?_
                              refine o_ld one_3 rfl (ms (ms (ms (ms (ms (ms (ms (ms (ms (ms m0)))))))))) Opn.g3 rfl ?_
                              refine o_T (y_fa fl_32_1 rfl) rfl ?_
                              refine o_ld one_3 rfl (ms (ms (ms (ms (ms (ms (ms (ms (ms (ms m0)))))))))) Opn.g1 rfl ?_
                              refine o_T (y_fa fl_32_2 rfl) rfl ?_
                              refine o_ld one_3 rfl (ms (ms (ms (ms (ms (ms (ms (ms (ms (ms m0)))))))))) Opn.g2 rfl ?_
                              refine o_call en_48 rfl (t48 A q x V _ _ _ _ _ _ _ _ _ _ W (by omega) hz hb c c3 oa ob (fun y => NextK y k) p1 p2 p3 p4 p5 p6 p7 p8 p9 p10) (s_take (s_take (s_take (s_take (s_take (s_take (s_take (s_take (s_take (s_take s_nil)))))))))) rfl ?_
                              rintro v S' ⟨rfl, y_4, hY_3, V_6, gh_8, gq_8, gw_9, gn_6, gs_6, gr_6, gi_6, go_6, gm_6, W_6, hc_6, rfl⟩
                              refine o_L (y_assign rfl) rfl rfl ?_
                              refine o_nil0 rfl ?_
                              refine ⟨⟨y_4, V_6, k, gh_8, gq_8, gw_9, gn_6, gs_6, gr_6, gi_6, go_6, gm_6⟩, ⟨hY_3, W_6.mono (by omega)⟩, ⟨by first | rfl | exact gteI rfl (by omega), trivial⟩, ⟨rfl, rfl⟩, _, ((s_take (s_take (s_take (s_take (s_take (s_take (s_take (s_take (s_take (s_take (s_take s_nil))))))))))))⟩
                            · try simp only [decide_eq_true_eq, decide_eq_false_iff_not, Bool.not_eq_true', Bool.not_eq_false', Int.not_lt, Int.not_le, Decidable.not_not, beq_iff_eq, bne_iff_ne, ne_eq, beq_eq_false_iff_ne, WA.wd] at h817
                              refine c_seq ?_
                              refine c_region ?_
                              refine o_T (y_eql rfl rfl) rfl ?_
                              refine o_L (y_assign rfl) rfl rfl ?_
                              refine o_nil0 rfl ?_
                              refine c_cond rfl (fun h819 => ?_) (fun h819 => ?_)
                              · try simp only [decide_eq_true_eq, decide_eq_false_iff_not, Bool.not_eq_true', Bool.not_eq_false', Int.not_lt, Int.not_le, Decidable.not_not, beq_iff_eq, bne_iff_ne, ne_eq, beq_eq_false_iff_ne, WA.wd] at h819
                                refine c_region ?_
                                refine o_T (y_move rfl) rfl ?_
                                refine o_T (y_fa fl_32_3 rfl) rfl ?_
                                refine o_ld one_3 rfl (ms (ms (ms (ms (ms (ms (ms (ms (ms (ms m0)))))))))) Opn.g3 rfl ?_
                                refine o_T (y_fa fl_32_1 rfl) rfl ?_
                                refine o_ld one_3 rfl (ms (ms (ms (ms (ms (ms (ms (ms (ms (ms m0)))))))))) Opn.g1 rfl ?_
                                refine o_call en_49 rfl (t49c W (by omega) L (by omega) c c3 oa) (s_take (s_take (s_take (s_take (s_take (s_take (s_take (s_take (s_take (s_take s_nil)))))))))) rfl ?_
                                rintro v S' ⟨rfl, y_5, hY_4, V_7, gh_9, gq_9, gw_10, gn_7, gs_7, gr_7, gi_7, go_7, gm_7, W_7, hc_7, rfl⟩
                                refine o_L (y_assign rfl) rfl rfl ?_
                                refine o_nil0 rfl ?_
                                refine ⟨⟨y_5, V_7, k, gh_9, gq_9, gw_10, gn_7, gs_7, gr_7, gi_7, go_7, gm_7⟩, ⟨hY_4, W_7.mono (by omega)⟩, ⟨by first | rfl | exact gteI rfl (by omega), trivial⟩, ⟨rfl, rfl⟩, _, ((s_take (s_take (s_take (s_take (s_take (s_take (s_take (s_take (s_take (s_take (s_take s_nil))))))))))))⟩
                              · try simp only [decide_eq_true_eq, decide_eq_false_iff_not, Bool.not_eq_true', Bool.not_eq_false', Int.not_lt, Int.not_le, Decidable.not_not, beq_iff_eq, bne_iff_ne, ne_eq, beq_eq_false_iff_ne, WA.wd] at h819
                                refine c_seq ?_
                                refine c_region ?_
                                refine o_T (y_eql rfl rfl) rfl ?_
                                refine o_L (y_assign rfl) rfl rfl ?_
                                refine o_nil0 rfl ?_
                                refine c_cond rfl (fun h821 => ?_) (fun h821 => ?_)
                                · try simp only [decide_eq_true_eq, decide_eq_false_iff_not, Bool.not_eq_true', Bool.not_eq_false', Int.not_lt, Int.not_le, Decidable.not_not, beq_iff_eq, bne_iff_ne, ne_eq, beq_eq_false_iff_ne, WA.wd] at h821
                                  refine c_region ?_
                                  refine o_T (y_move rfl) rfl ?_
                                  refine o_T (y_fa fl_32_3 rfl) rfl ?_
                                  refine o_ld one_3 rfl (ms (ms (ms (ms (ms (ms (ms (ms (ms (ms m0)))))))))) Opn.g3 rfl ?_
                                  refine o_T (y_fa fl_32_1 rfl) rfl ?_
                                  refine o_ld one_3 rfl (ms (ms (ms (ms (ms (ms (ms (ms (ms (ms m0)))))))))) Opn.g1 rfl ?_
                                  refine o_call en_49 rfl (t49a W (by omega) L (by omega) c c3 oa) (s_take (s_take (s_take (s_take (s_take (s_take (s_take (s_take (s_take (s_take s_nil)))))))))) rfl ?_
                                  rintro v S' ⟨rfl, y_6, hY_5, V_8, gh_10, gq_10, gw_11, gn_8, gs_8, gr_8, gi_8, go_8, gm_8, W_8, hc_8, rfl⟩
                                  refine o_L (y_assign rfl) rfl rfl ?_
                                  refine o_nil0 rfl ?_
                                  refine ⟨⟨y_6, V_8, k, gh_10, gq_10, gw_11, gn_8, gs_8, gr_8, gi_8, go_8, gm_8⟩, ⟨hY_5, W_8.mono (by omega)⟩, ⟨by first | rfl | exact gteI rfl (by omega), trivial⟩, ⟨rfl, rfl⟩, _, ((s_take (s_take (s_take (s_take (s_take (s_take (s_take (s_take (s_take (s_take (s_take s_nil))))))))))))⟩
                                · try simp only [decide_eq_true_eq, decide_eq_false_iff_not, Bool.not_eq_true', Bool.not_eq_false', Int.not_lt, Int.not_le, Decidable.not_not, beq_iff_eq, bne_iff_ne, ne_eq, beq_eq_false_iff_ne, WA.wd] at h821
                                  refine c_seq ?_
                                  refine c_seq ?_
                                  refine c_region ?_
                                  refine o_T (y_eql rfl rfl) rfl ?_
                                  refine o_L (y_assign rfl) rfl rfl ?_
                                  refine o_nil0 rfl ?_
                                  refine c_cond rfl (fun h823 => ?_) (fun h823 => ?_)
                                  · try simp only [decide_eq_true_eq, decide_eq_false_iff_not, Bool.not_eq_true', Bool.not_eq_false', Int.not_lt, Int.not_le, Decidable.not_not, beq_iff_eq, bne_iff_ne, ne_eq, beq_eq_false_iff_ne, WA.wd] at h823
                                    refine c_skip ?_
                                    refine c_cond rfl (fun h823_1 => ?_) (fun h823_1 => ?_)
                                    · try simp only [decide_eq_true_eq, decide_eq_false_iff_not, Bool.not_eq_true', Bool.not_eq_false', Int.not_lt, Int.not_le, Decidable.not_not, beq_iff_eq, bne_iff_ne, ne_eq, beq_eq_false_iff_ne, WA.wd] at h823_1
                                      refine c_seq ?_
                                      refine c_region ?_
                                      refine o_T (y_move rfl) rfl ?_
                                      refine o_T (y_fa fl_32_3 rfl) rfl ?_
                                      refine o_ld one_3 rfl (ms (ms (ms (ms (ms (ms (ms (ms (ms (ms m0)))))))))) Opn.g3 rfl ?_
                                      refine o_ldw ag_32 rfl (ms (ms (ms (ms (ms (ms (ms (ms (ms (ms m0)))))))))) rfl rfl ?_
                                      refine o_call en_50 rfl (t50 A q x V _ _ _ _ _ _ _ _ _ _ W (by omega) hb c c3 kd oa ob (c : Int) os ot (L.chk c3).1 (L.chk c3).2) (s_take (s_take (s_take (s_take (s_take (s_take (s_take (s_take (s_take (s_take s_nil)))))))))) rfl ?_
                                      rintro v S' ⟨rfl, V_9, gh_11, gq_11, gw_12, gn_9, gs_9, gr_9, gi_9, go_9, gm_9, W_9, hc_9, rfl⟩
                                      refine o_L (y_assign rfl) rfl rfl ?_
                                      refine o_nil0 rfl ?_
                                      refine c_ret ?_
                                      refine fun aX wX heX hsX => ret1 Tryz.results15 heX rfl (s_take (s_take (s_take (s_take (s_take (s_take (s_take (s_take (s_take (s_take s_nil)))))))))) ?_
                                      exact ⟨rfl, x, k + 1, by omega, L.mono (by omega), _, V_9, _, _, _, _, _, _, _, _, _, W_9.mono (by omega), rfl, rfl⟩
                                    · try simp only [decide_eq_true_eq, decide_eq_false_iff_not, Bool.not_eq_true', Bool.not_eq_false', Int.not_lt, Int.not_le, Decidable.not_not, beq_iff_eq, bne_iff_ne, ne_eq, beq_eq_false_iff_ne, WA.wd] at h823_1
                                      exact absurd h823 h823_1
                                  · try simp only [decide_eq_true_eq, decide_eq_false_iff_not, Bool.not_eq_true', Bool.not_eq_false', Int.not_lt, Int.not_le, Decidable.not_not, beq_iff_eq, bne_iff_ne, ne_eq, beq_eq_false_iff_ne, WA.wd] at h823
                                    refine c_seq ?_
                                    refine c_region ?_
                                    refine o_T (y_eql rfl rfl) rfl ?_
                                    refine o_L (y_assign rfl) rfl rfl ?_
                                    refine o_nil0 rfl ?_
                                    refine c_cond rfl (fun h823_1 => ?_) (fun h823_1 => ?_)
                                    · try simp only [decide_eq_true_eq, decide_eq_false_iff_not, Bool.not_eq_true', Bool.not_eq_false', Int.not_lt, Int.not_le, Decidable.not_not, beq_iff_eq, bne_iff_ne, ne_eq, beq_eq_false_iff_ne, WA.wd] at h823_1
                                      refine c_skip ?_
                                      refine c_cond rfl (fun h823_2 => ?_) (fun h823_2 => ?_)
                                      · try simp only [decide_eq_true_eq, decide_eq_false_iff_not, Bool.not_eq_true', Bool.not_eq_false', Int.not_lt, Int.not_le, Decidable.not_not, beq_iff_eq, bne_iff_ne, ne_eq, beq_eq_false_iff_ne, WA.wd] at h823_2
                                        refine c_seq ?_
                                        refine c_region ?_
                                        refine o_T (y_move rfl) rfl ?_
                                        refine o_T (y_fa fl_32_3 rfl) rfl ?_
                                        refine o_ld one_3 rfl (ms (ms (ms (ms (ms (ms (ms (ms (ms (ms m0)))))))))) Opn.g3 rfl ?_
                                        refine o_ldw ag_32 rfl (ms (ms (ms (ms (ms (ms (ms (ms (ms (ms m0)))))))))) rfl rfl ?_
                                        refine o_call en_50 rfl (t50 A q x V _ _ _ _ _ _ _ _ _ _ W (by omega) hb c c3 kd oa ob (c : Int) os ot (L.chk c3).1 (L.chk c3).2) (s_take (s_take (s_take (s_take (s_take (s_take (s_take (s_take (s_take (s_take s_nil)))))))))) rfl ?_
                                        rintro v S' ⟨rfl, V_10, gh_12, gq_12, gw_13, gn_10, gs_10, gr_10, gi_10, go_10, gm_10, W_10, hc_10, rfl⟩
                                        refine o_L (y_assign rfl) rfl rfl ?_
                                        refine o_nil0 rfl ?_
                                        refine c_ret ?_
                                        refine fun aX wX heX hsX => ret1 Tryz.results15 heX rfl (s_take (s_take (s_take (s_take (s_take (s_take (s_take (s_take (s_take (s_take s_nil)))))))))) ?_
                                        exact ⟨rfl, x, k + 1, by omega, L.mono (by omega), _, V_10, _, _, _, _, _, _, _, _, _, W_10.mono (by omega), rfl, rfl⟩
                                      · try simp only [decide_eq_true_eq, decide_eq_false_iff_not, Bool.not_eq_true', Bool.not_eq_false', Int.not_lt, Int.not_le, Decidable.not_not, beq_iff_eq, bne_iff_ne, ne_eq, beq_eq_false_iff_ne, WA.wd] at h823_2
                                        exact absurd h823_1 h823_2
                                    · try simp only [decide_eq_true_eq, decide_eq_false_iff_not, Bool.not_eq_true', Bool.not_eq_false', Int.not_lt, Int.not_le, Decidable.not_not, beq_iff_eq, bne_iff_ne, ne_eq, beq_eq_false_iff_ne, WA.wd] at h823_1
                                      refine c_seq ?_
                                      refine c_region ?_
                                      refine o_T (y_eql rfl rfl) rfl ?_
                                      refine o_L (y_assign rfl) rfl rfl ?_
                                      refine o_nil0 rfl ?_
                                      refine c_cond rfl (fun h823_2 => ?_) (fun h823_2 => ?_)
                                      · try simp only [decide_eq_true_eq, decide_eq_false_iff_not, Bool.not_eq_true', Bool.not_eq_false', Int.not_lt, Int.not_le, Decidable.not_not, beq_iff_eq, bne_iff_ne, ne_eq, beq_eq_false_iff_ne, WA.wd] at h823_2
                                        refine c_skip ?_
                                        refine c_cond rfl (fun h823_3 => ?_) (fun h823_3 => ?_)
                                        · try simp only [decide_eq_true_eq, decide_eq_false_iff_not, Bool.not_eq_true', Bool.not_eq_false', Int.not_lt, Int.not_le, Decidable.not_not, beq_iff_eq, bne_iff_ne, ne_eq, beq_eq_false_iff_ne, WA.wd] at h823_3
                                          refine c_seq ?_
                                          refine c_region ?_
                                          refine o_T (y_move rfl) rfl ?_
                                          refine o_T (y_fa fl_32_3 rfl) rfl ?_
                                          refine o_ld one_3 rfl (ms (ms (ms (ms (ms (ms (ms (ms (ms (ms m0)))))))))) Opn.g3 rfl ?_
                                          refine o_ldw ag_32 rfl (ms (ms (ms (ms (ms (ms (ms (ms (ms (ms m0)))))))))) rfl rfl ?_
                                          refine o_call en_50 rfl (t50 A q x V _ _ _ _ _ _ _ _ _ _ W (by omega) hb c c3 kd oa ob (c : Int) os ot (L.chk c3).1 (L.chk c3).2) (s_take (s_take (s_take (s_take (s_take (s_take (s_take (s_take (s_take (s_take s_nil)))))))))) rfl ?_
                                          rintro v S' ⟨rfl, V_11, gh_13, gq_13, gw_14, gn_11, gs_11, gr_11, gi_11, go_11, gm_11, W_11, hc_11, rfl⟩
                                          refine o_L (y_assign rfl) rfl rfl ?_
                                          refine o_nil0 rfl ?_
                                          refine c_ret ?_
                                          refine fun aX wX heX hsX => ret1 Tryz.results15 heX rfl (s_take (s_take (s_take (s_take (s_take (s_take (s_take (s_take (s_take (s_take s_nil)))))))))) ?_
                                          exact ⟨rfl, x, k + 1, by omega, L.mono (by omega), _, V_11, _, _, _, _, _, _, _, _, _, W_11.mono (by omega), rfl, rfl⟩
                                        · try simp only [decide_eq_true_eq, decide_eq_false_iff_not, Bool.not_eq_true', Bool.not_eq_false', Int.not_lt, Int.not_le, Decidable.not_not, beq_iff_eq, bne_iff_ne, ne_eq, beq_eq_false_iff_ne, WA.wd] at h823_3
                                          exact absurd h823_2 h823_3
                                      · try simp only [decide_eq_true_eq, decide_eq_false_iff_not, Bool.not_eq_true', Bool.not_eq_false', Int.not_lt, Int.not_le, Decidable.not_not, beq_iff_eq, bne_iff_ne, ne_eq, beq_eq_false_iff_ne, WA.wd] at h823_2
                                        refine c_seq ?_
                                        refine c_region ?_
                                        refine o_T (y_eql rfl rfl) rfl ?_
                                        refine o_L (y_assign rfl) rfl rfl ?_
                                        refine o_nil0 rfl ?_
                                        refine c_cond rfl (fun h823_3 => ?_) (fun h823_3 => ?_)
                                        · try simp only [decide_eq_true_eq, decide_eq_false_iff_not, Bool.not_eq_true', Bool.not_eq_false', Int.not_lt, Int.not_le, Decidable.not_not, beq_iff_eq, bne_iff_ne, ne_eq, beq_eq_false_iff_ne, WA.wd] at h823_3
                                          refine c_skip ?_
                                          refine c_cond rfl (fun h823_4 => ?_) (fun h823_4 => ?_)
                                          · try simp only [decide_eq_true_eq, decide_eq_false_iff_not, Bool.not_eq_true', Bool.not_eq_false', Int.not_lt, Int.not_le, Decidable.not_not, beq_iff_eq, bne_iff_ne, ne_eq, beq_eq_false_iff_ne, WA.wd] at h823_4
                                            refine c_seq ?_
                                            refine c_region ?_
                                            refine o_T (y_move rfl) rfl ?_
                                            refine o_T (y_fa fl_32_3 rfl) rfl ?_
                                            refine o_ld one_3 rfl (ms (ms (ms (ms (ms (ms (ms (ms (ms (ms m0)))))))))) Opn.g3 rfl ?_
                                            refine o_ldw ag_32 rfl (ms (ms (ms (ms (ms (ms (ms (ms (ms (ms m0)))))))))) rfl rfl ?_
                                            refine o_call en_50 rfl (t50 A q x V _ _ _ _ _ _ _ _ _ _ W (by omega) hb c c3 kd oa ob (c : Int) os ot (L.chk c3).1 (L.chk c3).2) (s_take (s_take (s_take (s_take (s_take (s_take (s_take (s_take (s_take (s_take s_nil)))))))))) rfl ?_
                                            rintro v S' ⟨rfl, V_12, gh_14, gq_14, gw_15, gn_12, gs_12, gr_12, gi_12, go_12, gm_12, W_12, hc_12, rfl⟩
                                            refine o_L (y_assign rfl) rfl rfl ?_
                                            refine o_nil0 rfl ?_
                                            refine c_ret ?_
                                            refine fun aX wX heX hsX => ret1 Tryz.results15 heX rfl (s_take (s_take (s_take (s_take (s_take (s_take (s_take (s_take (s_take (s_take s_nil)))))))))) ?_
                                            exact ⟨rfl, x, k + 1, by omega, L.mono (by omega), _, V_12, _, _, _, _, _, _, _, _, _, W_12.mono (by omega), rfl, rfl⟩
                                          · try simp only [decide_eq_true_eq, decide_eq_false_iff_not, Bool.not_eq_true', Bool.not_eq_false', Int.not_lt, Int.not_le, Decidable.not_not, beq_iff_eq, bne_iff_ne, ne_eq, beq_eq_false_iff_ne, WA.wd] at h823_4
                                            exact absurd h823_3 h823_4
                                        · try simp only [decide_eq_true_eq, decide_eq_false_iff_not, Bool.not_eq_true', Bool.not_eq_false', Int.not_lt, Int.not_le, Decidable.not_not, beq_iff_eq, bne_iff_ne, ne_eq, beq_eq_false_iff_ne, WA.wd] at h823_3
                                          refine c_region ?_
                                          refine o_T (y_eql rfl rfl) rfl ?_
                                          refine o_L (y_assign rfl) rfl rfl ?_
                                          refine o_nil0 rfl ?_
                                          refine c_cond rfl (fun h823_4 => ?_) (fun h823_4 => ?_)
                                          · try simp only [decide_eq_true_eq, decide_eq_false_iff_not, Bool.not_eq_true', Bool.not_eq_false', Int.not_lt, Int.not_le, Decidable.not_not, beq_iff_eq, bne_iff_ne, ne_eq, beq_eq_false_iff_ne, WA.wd] at h823_4
                                            refine c_seq ?_
                                            refine c_region ?_
                                            refine o_T (y_move rfl) rfl ?_
                                            refine o_T (y_fa fl_32_3 rfl) rfl ?_
                                            refine o_ld one_3 rfl (ms (ms (ms (ms (ms (ms (ms (ms (ms (ms m0)))))))))) Opn.g3 rfl ?_
                                            refine o_ldw ag_32 rfl (ms (ms (ms (ms (ms (ms (ms (ms (ms (ms m0)))))))))) rfl rfl ?_
                                            refine o_call en_50 rfl (t50 A q x V _ _ _ _ _ _ _ _ _ _ W (by omega) hb c c3 kd oa ob (c : Int) os ot (L.chk c3).1 (L.chk c3).2) (s_take (s_take (s_take (s_take (s_take (s_take (s_take (s_take (s_take (s_take s_nil)))))))))) rfl ?_
                                            rintro v S' ⟨rfl, V_13, gh_15, gq_15, gw_16, gn_13, gs_13, gr_13, gi_13, go_13, gm_13, W_13, hc_13, rfl⟩
                                            refine o_L (y_assign rfl) rfl rfl ?_
                                            refine o_nil0 rfl ?_
                                            refine c_ret ?_
                                            refine fun aX wX heX hsX => ret1 Tryz.results15 heX rfl (s_take (s_take (s_take (s_take (s_take (s_take (s_take (s_take (s_take (s_take s_nil)))))))))) ?_
                                            exact ⟨rfl, x, k + 1, by omega, L.mono (by omega), _, V_13, _, _, _, _, _, _, _, _, _, W_13.mono (by omega), rfl, rfl⟩
                                          · try simp only [decide_eq_true_eq, decide_eq_false_iff_not, Bool.not_eq_true', Bool.not_eq_false', Int.not_lt, Int.not_le, Decidable.not_not, beq_iff_eq, bne_iff_ne, ne_eq, beq_eq_false_iff_ne, WA.wd] at h823_4
                                            refine c_seq ?_
                                            refine c_region ?_
                                            refine o_L (y_assign rfl) rfl rfl ?_
                                            refine o_nil0 rfl ?_
                                            refine c_ret ?_
                                            refine fun aX wX heX hsX => ret1 Tryz.results15 heX rfl (s_take (s_take (s_take (s_take (s_take (s_take (s_take (s_take (s_take (s_take s_nil)))))))))) ?_
                                            exact ⟨rfl, x, k, by omega, L, _, V, _, _, _, _, _, _, _, _, _, W, rfl, rfl⟩
                  · rintro ⟨y2, V2, k2, gh2, gq2, gw2, gn2, gs2, gr2, gi2, go2, gm2⟩ ⟨hN, W2⟩
                    try dsimp only at hN
                    refine c_seq ?_
                    obtain ⟨zN, hLz, hLk, hZN⟩ := hN
                    refine c_region ?_
                    refine o_T (y_move rfl) rfl ?_
                    refine o_T (y_move rfl) rfl ?_
                    refine o_take rfl rfl rfl ?_
                    refine o_T (y_move rfl) rfl ?_
                    refine o_take rfl rfl rfl ?_
                    refine o_call en_14 rfl (t14L A q V2 hLz hLk W2.h W2.n W2.s W2.r W2.i (by omega)) (s_take (s_take (s_skip (s_skip (s_take (s_take (s_take (s_take s_nil)))))))) rfl ?_
                    rintro v S' ⟨rfl, V_14, gn_14, gs_14, gr_14, gi_14, hV_1, hn_1, hs_1, hr_1, hi_1, rfl⟩
                    refine o_T (y_pickT rfl rfl) rfl ?_
                    refine o_L (y_assign rfl) rfl rfl ?_
                    refine o_nil0 rfl ?_
                    refine c_ret ?_
                    refine fun aX wX heX hsX => ret1 Tryz.results15 heX rfl (s_get k0 (s_get k0 (s_get (ks (ks (ks (ks k0)))) (s_get (ks (ks (ks (ks k0)))) (s_get k0 (s_get k0 (s_get k0 (s_get k0 (s_get k0 (s_get k0 s_nil)))))))))) ?_
                    exact ⟨rfl, zN, k + 1, by omega, hZN, _, V_14, _, _, _, _, _, _, _, _, _, ⟨by rw [hLz.keeps.1]; exact W2.h, by rw [hLz.keeps.1]; exact W2.q, by rw [hLz.keeps.2.2.1]; exact W2.w, hn_1, hs_1, hr_1, hi_1.mono (by omega), by rw [hV_1.1]; exact W2.o.mono (by omega), by rw [hV_1.2.1]; exact W2.m.mono (by omega)⟩, rfl, rfl⟩

end Go.Proofs.Qxb6500351aGreat
