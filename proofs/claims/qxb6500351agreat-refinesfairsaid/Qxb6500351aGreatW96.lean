/- MADE BY PROGRAM (tools/gen.py over tools/specsw.py): walks. -/
import Derived.Test.Qxb6500351aGreatFacts
import Derived.Test.Qxb6500351aGreatMd31
set_option linter.unusedVariables false
set_option linter.unusedSimpArgs false
namespace Go.Proofs.Qxb6500351aGreat
open Go.Eng
set_option maxRecDepth 20000
set_option maxHeartbeats 4000000
attribute [local irreducible] Hst.ent Hst.err Hst.infoC
/-- e2e/towerlaw.NewWorld -/
theorem t13 (q : Bool) : Trip Tryz.prog 13 #[.bool q] [] (fun u S' => ∃ A : WA, u = .pointer (some ⟨A.b, 0, none⟩) ∧ WPost A q Wrld.init 0 0 S') := by
  refine fn_entry (args := [.bool q]) Tryz.func13 rfl Tryz.ntmps13 rfl (fun w0 => ?_)
  refine c_seq ?_
  refine c_region ?_
  refine o_L (y_assign rfl) rfl rfl ?_
  refine o_nil0 rfl ?_
  refine c_seq ?_
  refine c_region ?_
  refine o_call en_20 rfl (i20 ) s_nil rfl ?_
  rintro v S' ⟨bw_1, gw_1, rfl, hw_1, rfl⟩
  refine o_L (y_assign rfl) rfl rfl ?_
  refine o_nil0 rfl ?_
  refine c_seq ?_
  refine c_region ?_
  refine o_call en_21 rfl (i21 ) s_nil rfl ?_
  rintro v S' ⟨bn_1, gn_1, rfl, hn_1, rfl⟩
  refine o_L (y_assign rfl) rfl rfl ?_
  refine o_nil0 rfl ?_
  refine c_seq ?_
  refine c_region ?_
  refine o_T (y_move rfl) rfl ?_
  refine o_T (y_move rfl) rfl ?_
  refine o_T (y_move rfl) rfl ?_
  refine o_T (y_build st_53 rfl (fb rfl rfl rfl Wd.s27 (fb rfl rfl rfl Wd.s29 (fb rfl rfl rfl Wd.s30 fb0)))) rfl ?_
  refine o_box rfl rfl rfl rfl (fun b_1 => ?_)
  refine o_L (y_assign rfl) rfl rfl ?_
  refine o_nil0 rfl ?_
  refine c_seq ?_
  refine c_seq ?_
  refine c_row (g' := [(b_1, .cells (wd0 Wd.zero.h Wd.zero.b Wd.zero.q q bw_1 bn_1).enc 53 (0, 0))]) q0 rfl ?_
  refine c_emp ?_
  refine c_region ?_
  refine o_L (y_assign rfl) rfl rfl ?_
  refine o_nil0 rfl ?_
  refine c_block ?_
  refine c_loopG (ι := Nat × (Nat → Value) × (Nat → Bl) × (Nat → Value) × (Nat → Bl) × List Chunk × List Chunk) (fun i => [(6, .int .i64 (i.1 : Int))]) (fun i => [[(b_1, .cells (wd0 i.2.1 i.2.2.1 i.2.2.2.1 q bw_1 bn_1).enc 53 (0, 0))], i.2.2.2.2.2.1, i.2.2.2.2.2.2]) (fun i => i.1 ≤ 3 ∧ HsN i.1 i.2.1 i.2.2.1 i.2.2.2.2.2.1 ∧ (q = true → HsN i.1 i.2.2.2.1 i.2.2.2.2.1 i.2.2.2.2.2.2)) (fun i => 3 - i.1) (0, Wd.zero.h, Wd.zero.b, Wd.zero.q, Wd.zero.b, [], []) (by exact ⟨Nat.zero_le _, HsN.zero, fun _ => HsN.zero⟩) ⟨by first | rfl | exact gteI rfl (by omega), trivial⟩ (s_get (ks (ks k0)) (s_get k0 (s_get k0 (s_get k0 (s_get k0 s_nil))))) ?_
  rintro ⟨j1, hv, bv, qv, qb, gh, gq⟩ ⟨f1, f2, f3⟩
  try dsimp only [List.cons_append, List.nil_append] at *
  refine c_seq ?_
  refine c_seq ?_
  refine c_region ?_
  refine o_T (y_move rfl) rfl ?_
  refine o_T (y_lss rfl rfl) rfl ?_
  refine o_nil1 15 rfl rfl ?_
  refine c_cond rfl (fun h84 => ?_) (fun h84 => ?_)
  · try simp only [decide_eq_true_eq, decide_eq_false_iff_not, Bool.not_eq_true', Bool.not_eq_false', Int.not_lt, Int.not_le, Decidable.not_not, beq_iff_eq, bne_iff_ne, ne_eq, beq_eq_false_iff_ne, WA.wd] at h84
    refine c_skip ?_
    refine c_seq ?_
    refine c_block ?_
    refine c_seq ?_
    refine c_draw #[true, true, true, true, false, true, true, true, false] rfl (n := 9) rfl ?_
    refine d_T 0 rfl (by kernel_rfl) rfl (y_move rfl) rfl ?_
    refine d_T 1 rfl (by kernel_rfl) rfl (y_move rfl) rfl ?_
    refine d_T 2 rfl (by kernel_rfl) rfl (y_move rfl) rfl ?_
    refine d_T 3 rfl (by kernel_rfl) rfl (y_add rfl rfl (w64 (by omega))) rfl ?_
    refine d_T 5 rfl (by kernel_rfl) rfl (y_nilck rfl) rfl ?_
    refine d_T 6 rfl (by kernel_rfl) rfl (y_fa fl_53_1 rfl) rfl ?_
    refine d_hard 4 rfl (by kernel_rfl) ?_
    refine o_call en_22 rfl (t22 _ (by omega)) s_nil rfl ?_
    rintro v S' ⟨q_1, rfl, rfl⟩
    refine o_stop (fun h => nomatch h) ?_
    refine d_T 7 rfl (by kernel_rfl) rfl (y_ia ar_42 rfl rfl (by omega) (by omega)) rfl ?_
    refine d_hard 8 rfl (by kernel_rfl) ?_
    refine o_sta ag_41 rfl rfl rfl rfl (rs (rs (rs (rs r0)))) (Wd.S_b j1 (by omega) (by omega)) (by simp only [Wd.size]; omega) ?_
    refine o_stop (fun h => nomatch h) ?_
    refine d_nil0 (by kernel_rfl) rfl ?_
    refine c_seq ?_
    refine c_row (g' := [(b_1, .cells (wd0 hv (upA bv j1 q_1.bl) qv q bw_1 bn_1).enc 53 (0, 0))]) (qs (qs (qs (qs q0)))) rfl ?_
    refine c_draw #[true, true, true, true, true, true, true, true, true, true, false, true, true, true, false] rfl (n := 15) rfl ?_
    refine d_T 0 rfl (by kernel_rfl) rfl (y_move rfl) rfl ?_
    refine d_T 1 rfl (by kernel_rfl) rfl (y_move rfl) rfl ?_
    refine d_T 2 rfl (by kernel_rfl) rfl (y_move rfl) rfl ?_
    refine d_T 3 rfl (by kernel_rfl) rfl (y_add rfl rfl (w64 (by omega))) rfl ?_
    refine d_T 4 rfl (by kernel_rfl) rfl (y_move rfl) rfl ?_
    refine d_T 5 rfl (by kernel_rfl) rfl (y_move rfl) rfl ?_
    refine d_T 6 rfl (by kernel_rfl) rfl (y_nilck rfl) rfl ?_
    refine d_T 7 rfl (by kernel_rfl) rfl (y_fa fl_53_1 rfl) rfl ?_
    refine d_T 8 rfl (by kernel_rfl) rfl (y_ia ar_42 rfl rfl (by omega) (by omega)) rfl ?_
    refine d_lda 9 rfl (by kernel_rfl) ag_41 rfl (fun x hx => hx) (ms (ms (ms (ms m0)))) ((Wd.E_b j1 (by omega) (by omega) (by omega)).trans (congrArg Bl.enc (upA_at _ _ q_1.bl))) (by simp only [Wd.size]; omega) rfl ?_
    refine d_T 11 rfl (by kernel_rfl) rfl (y_nilck rfl) rfl ?_
    refine d_T 12 rfl (by kernel_rfl) rfl (y_fa fl_53_0 rfl) rfl ?_
    refine d_hard 10 rfl (by kernel_rfl) ?_
    refine o_call en_23 rfl (t23 ((j1 : Int) + 1) q_1) s_nil rfl ?_
    rintro v S' ⟨b_2, rfl, rfl⟩
    refine o_stop (fun h => nomatch h) ?_
    refine d_T 13 rfl (by kernel_rfl) rfl (y_ia ar_34 rfl rfl (by omega) (by omega)) rfl ?_
    refine d_hard 14 rfl (by kernel_rfl) ?_
    refine o_st one_33 rfl rfl rfl (rs (rs (rs (rs (rs r0))))) (Wd.s_h j1 (by omega) (by omega)) (by simp only [Wd.size]; omega) ?_
    refine o_stop (fun h => nomatch h) ?_
    refine d_nil0 (by kernel_rfl) rfl ?_
    refine c_seq ?_
    refine c_front (s_get k0 (s_get k0 (s_get k0 (s_get k0 (s_get k0 (s_get (ks k0) (s_get k0 (s_get k0 (s_get k0 (s_get k0 s_nil)))))))))) ?_
    refine c_hs ?_
    refine c_row (g' := gh ++ hN (q_1.lay b_2) ((j1 : Int) + 1)) q0 (congrArg (fun z => gh ++ z) (hN_lay _ _ _)) ?_
    refine c_row (g' := [(b_1, .cells (wd0 (upA hv j1 (q_1.lay b_2).v) (upA bv j1 (q_1.lay b_2).bl) qv q bw_1 bn_1).enc 53 (0, 0))]) (qs q0) rfl ?_
    refine c_region ?_
    refine o_T (y_move rfl) rfl ?_
    refine o_nil1 40 rfl rfl ?_
    refine c_cond rfl (fun h87 => ?_) (fun h87 => ?_)
    · try simp only [decide_eq_true_eq, decide_eq_false_iff_not, Bool.not_eq_true', Bool.not_eq_false', Int.not_lt, Int.not_le, Decidable.not_not, beq_iff_eq, bne_iff_ne, ne_eq, beq_eq_false_iff_ne, WA.wd] at h87
      refine c_draw #[true, true, true, true, false, true, true, true, false] rfl (n := 9) rfl ?_
      refine d_T 0 rfl (by kernel_rfl) rfl (y_move rfl) rfl ?_
      refine d_T 1 rfl (by kernel_rfl) rfl (y_move rfl) rfl ?_
      refine d_T 2 rfl (by kernel_rfl) rfl (y_move rfl) rfl ?_
      refine d_T 3 rfl (by kernel_rfl) rfl (y_add rfl rfl (w64 (by omega))) rfl ?_
      refine d_T 5 rfl (by kernel_rfl) rfl (y_nilck rfl) rfl ?_
      refine d_T 6 rfl (by kernel_rfl) rfl (y_fa fl_53_2 rfl) rfl ?_
      refine d_hard 4 rfl (by kernel_rfl) ?_
      refine o_call en_24 rfl (t24 _ (by omega)) s_nil rfl ?_
      rintro v S' ⟨q_2, rfl, rfl⟩
      refine o_stop (fun h => nomatch h) ?_
      refine d_T 7 rfl (by kernel_rfl) rfl (y_ia ar_34 rfl rfl (by omega) (by omega)) rfl ?_
      refine d_hard 8 rfl (by kernel_rfl) ?_
      refine o_st one_33 rfl rfl rfl (rs (rs (rs (rs (rs (rs r0)))))) (Wd.s_q j1 (by omega) (by omega)) (by simp only [Wd.size]; omega) ?_
      refine o_stop (fun h => nomatch h) ?_
      refine d_nil0 (by kernel_rfl) rfl ?_
      refine c_front (s_get k0 (s_get k0 (s_get k0 (s_get k0 (s_get k0 (s_get (ks (ks k0)) (s_get k0 (s_get k0 (s_get k0 (s_get k0 s_nil)))))))))) ?_
      refine c_hs ?_
      refine c_row (g' := gq ++ hN q_2 ((j1 : Int) + 1)) q0 (congrArg (fun z => gq ++ z) (hN_new _ _)) ?_
      refine c_row (g' := [(b_1, .cells (wd0 (upA hv j1 (q_1.lay b_2).v) (upA bv j1 (q_1.lay b_2).bl) (upA qv j1 q_2.v) q bw_1 bn_1).enc 53 (0, 0))]) (qs (qs q0)) rfl ?_
      refine c_region ?_
      refine o_T (y_move rfl) rfl ?_
      refine o_T (y_add rfl rfl (w64 (by omega))) rfl ?_
      refine o_L (y_assign rfl) rfl rfl ?_
      refine o_nil0 rfl ?_
      refine ⟨(j1 + 1, upA hv j1 (q_1.lay b_2).v, upA bv j1 (q_1.lay b_2).bl, upA qv j1 q_2.v, upA qb j1 q_2.bl, gh ++ hN (q_1.lay b_2) ((j1 : Int) + 1), gq ++ hN q_2 ((j1 : Int) + 1)), ⟨⟨by omega, f2.step (q_1.lay b_2), fun e => (f3 e).step q_2⟩, by dsimp only; omega⟩, ⟨gteI rfl (by dsimp only; omega), trivial⟩, ⟨rfl, rfl⟩, _, ((s_get (ks (ks k0)) (s_get (ks k0) (s_get k0 (s_get k0 (s_get k0 s_nil))))))⟩
    · try simp only [decide_eq_true_eq, decide_eq_false_iff_not, Bool.not_eq_true', Bool.not_eq_false', Int.not_lt, Int.not_le, Decidable.not_not, beq_iff_eq, bne_iff_ne, ne_eq, beq_eq_false_iff_ne, WA.wd] at h87
      refine c_skip ?_
      refine c_region ?_
      refine o_T (y_move rfl) rfl ?_
      refine o_T (y_add rfl rfl (w64 (by omega))) rfl ?_
      refine o_L (y_assign rfl) rfl rfl ?_
      refine o_nil0 rfl ?_
      refine ⟨(j1 + 1, upA hv j1 (q_1.lay b_2).v, upA bv j1 (q_1.lay b_2).bl, qv, qb, gh ++ hN (q_1.lay b_2) ((j1 : Int) + 1), gq), ⟨⟨by omega, f2.step (q_1.lay b_2), fun e => absurd (e.symm.trans h87) (fun y => nomatch y)⟩, by dsimp only; omega⟩, ⟨gteI rfl (by dsimp only; omega), trivial⟩, ⟨rfl, rfl⟩, _, ((s_get (ks k0) (s_get k0 (s_get k0 (s_get k0 (s_get k0 s_nil))))))⟩
  · try simp only [decide_eq_true_eq, decide_eq_false_iff_not, Bool.not_eq_true', Bool.not_eq_false', Int.not_lt, Int.not_le, Decidable.not_not, beq_iff_eq, bne_iff_ne, ne_eq, beq_eq_false_iff_ne, WA.wd] at h84
    refine c_exit ?_
    refine c_seq ?_
    obtain rfl : j1 = 3 := by omega
    refine c_row (g' := [(b_1, .cells ((⟨b_1, hv, bv, qv, qb, bw_1, bn_1⟩ : WA).wd q Wrld.init V0).enc 53 (0, 0))]) q0 (congrArg (fun z => [(b_1, Obj.cells (Wd.enc z) 53 (0, 0))]) (wd0_eq b_1 bw_1 bn_1 hv qv bv qb q)) ?_
    refine c_front (s_get k0 (s_get k0 (s_get k0 (s_get (ks k0) (s_get k0 s_nil))))) ?_
    refine c_region ?_
    refine o_T (y_move rfl) rfl ?_
    refine o_L (y_assign rfl) rfl rfl ?_
    refine o_nil0 rfl ?_
    refine c_ret ?_
    refine fun aX wX heX hsX => ret1 Tryz.results13 heX rfl sel_ten ?_
    exact ⟨⟨b_1, hv, bv, qv, qb, bw_1, bn_1⟩, rfl, V0, _, _, _, _, _, _, _, _, _, wg_init f2 f3 hw_1 hn_1, rfl, rfl⟩

end Go.Proofs.Qxb6500351aGreat
