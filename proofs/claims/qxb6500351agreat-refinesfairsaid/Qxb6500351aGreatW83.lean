/- MADE BY PROGRAM (tools/gen.py over tools/specsw.py): walks. -/
import Derived.Test.Qxb6500351aGreatMd26
set_option linter.unusedVariables false
set_option linter.unusedSimpArgs false
namespace Go.Proofs.Qxb6500351aGreat
open Go.Eng
set_option maxRecDepth 20000
set_option maxHeartbeats 4000000
attribute [local irreducible] Hst.ent Hst.err Hst.infoC
/-- (*e2e/towerlaw.World).Tick -/
theorem t39 (A : WA) (q : Bool) (x : Wrld) (V : WV) (m : Nat) (gh gq gw gn gs gr gi go gm : List Chunk) (W : WG A q x V m gh gq gw gn gs gr gi go gm) (hm : m ≤ 2700000000000) (hz : Szs x) (X : Nat → Wrld) (z : Wrld) (T : TickOk x X z) : Trip Tryz.prog 39 #[.pointer (some ⟨A.b, 0, none⟩)] [[(A.b, .cells (A.wd q x V).enc 53 (0, 0))], gh, gq, gw, gn, gs, gr, gi, go, gm] (fun u S' => u = .bool true ∧ WPost A q z V.cm (m + 200) S') := by
  have htk := hz.ticks
  refine fn_entry (args := [.pointer (some ⟨A.b, 0, none⟩)]) Tryz.func39 rfl Tryz.ntmps39 rfl (fun w0 => ?_)
  refine c_seq ?_
  refine c_region ?_
  refine o_L (y_assign rfl) rfl rfl ?_
  refine o_nil0 rfl ?_
  refine c_seq ?_
  refine c_region ?_
  refine o_T (y_move rfl) rfl ?_
  refine o_T (y_nilck rfl) rfl ?_
  refine o_T (y_fa fl_53_5 rfl) rfl ?_
  refine o_ld one_43 rfl m0 Wd.g29 rfl ?_
  refine o_call en_84 rfl (i84 W.w hz.wl) (s_skip (s_skip (s_skip (s_take s_nil)))) rfl ?_
  rintro v S' ⟨gw_1, rfl, hw_1, rfl⟩
  refine o_nil0 rfl ?_
  refine c_seq ?_
  refine c_region ?_
  refine o_T (y_move rfl) rfl ?_
  refine o_T (y_nilck rfl) rfl ?_
  refine o_T (y_fa fl_53_11 rfl) rfl ?_
  refine o_ld one_3 rfl (ms m0) Wd.g43 rfl ?_
  refine o_T (y_add rfl rfl (w64 (by omega))) rfl ?_
  refine o_T (y_nilck rfl) rfl ?_
  refine o_T (y_fa fl_53_11 rfl) rfl ?_
  refine o_st one_3 rfl rfl rfl (rs r0) Wd.s43 (of_blt rfl) ?_
  refine o_nil0 rfl ?_
  refine c_seq ?_
  refine c_seq ?_
  have T0 := T.same 0 (by omega)
  have T3 := T.same 3 (by omega)
  have hXH0 : (X 0).H = x.H := by rw [T.X0]; rfl
  refine c_row (g' := [(A.b, .cells (A.wd q (X 0) { V with mine := V.mine, outs := V.outs }).enc 53 (0, 0))]) (qs q0) (by rw [T.X0]; rfl) ?_
  refine c_region ?_
  refine o_L (y_assign rfl) rfl rfl ?_
  refine o_nil0 rfl ?_
  refine c_block ?_
  refine c_loopG (ι := Nat × Value × Value × List Chunk × List Chunk × List Chunk × List Chunk × List Chunk) (fun i_ => [(3, .int .i64 (i_.1 : Int))]) (fun i_ => [[(A.b, .cells (A.wd q (X i_.1) { V with mine := i_.2.1, outs := i_.2.2.1 }).enc 53 (0, 0))], i_.2.2.2.1, i_.2.2.2.2.1, i_.2.2.2.2.2.1, i_.2.2.2.2.2.2.1, i_.2.2.2.2.2.2.2]) (fun i_ => i_.1 ≤ 3 ∧ HsG (X i_.1).H A.hv A.bv i_.2.2.2.1 ∧ (q = true → HsG (X i_.1).H A.qv A.qb i_.2.2.2.2.1) ∧ WrG A.bw (X i_.1).wr i_.2.2.2.2.2.1 ∧ PM (m + 48 * i_.1) i_.2.1 i_.2.2.2.2.2.2.1 ∧ PO (m + 2 * i_.1) i_.2.2.1 i_.2.2.2.2.2.2.2) (fun i_ => 3 - i_.1) (0, V.mine, V.outs, gh, gq, gw_1, gm, go) (by exact ⟨Nat.zero_le _, by rw [hXH0]; exact W.h, by rw [hXH0]; exact W.q, by rw [T.X0]; exact hw_1, W.m, W.o⟩) ⟨by first | rfl | exact gteI rfl (by omega), trivial⟩ (s_get (ks k0) (s_get (ks k0) (s_get (ks k0) (s_get k0 (s_get (ks (ks (ks (ks (ks k0))))) (s_get (ks (ks (ks (ks k0)))) (s_get k0 (s_get k0 (s_get k0 (s_get k0 s_nil)))))))))) ?_
  rintro ⟨k, vm1, vo1, gh1, gq1, gw1, gm1, go1⟩ ⟨e1, e2, e3, e4, e5, e6⟩
  try dsimp only [List.cons_append, List.nil_append] at *
  refine c_seq ?_
  refine c_seq ?_
  refine c_region ?_
  refine o_T (y_move rfl) rfl ?_
  refine o_T (y_lss rfl rfl) rfl ?_
  refine o_nil1 19 rfl rfl ?_
  refine c_cond rfl (fun h427 => ?_) (fun h427 => ?_)
  · try simp only [decide_eq_true_eq, decide_eq_false_iff_not, Bool.not_eq_true', Bool.not_eq_false', Int.not_lt, Int.not_le, Decidable.not_not, beq_iff_eq, bne_iff_ne, ne_eq, beq_eq_false_iff_ne, WA.wd] at h427
    refine c_skip ?_
    refine c_seq ?_
    refine c_block ?_
    refine c_seq ?_
    have hk3 : k < 3 := by omega
    obtain ⟨F1, F2, F3, F4, F5, F6⟩ := T.F k hk3
    have hwl := T.wl k (by omega)
    have hsp := T.sp k (by omega)
    refine c_region ?_
    refine o_T (y_move rfl) rfl ?_
    refine o_T (y_move rfl) rfl ?_
    refine o_T (y_nilck rfl) rfl ?_
    refine o_T (y_fa fl_53_0 rfl) rfl ?_
    refine o_T (y_ia ar_34 rfl rfl (by omega) (by omega)) rfl ?_
    refine o_ld one_33 rfl m0 (Wd.g_h k (by omega) (by omega)) rfl ?_
    refine o_call en_85 rfl (j85 e2 hk3 F1 F2 F3 F4 F5) (s_skip (s_take s_nil)) rfl ?_
    rintro v S' ⟨v_1, gv_1, gd_1, gx_1, rfl, hF_1, hx_1, rfl⟩
    refine o_L (y_assign rfl) rfl rfl ?_
    refine o_nil0 rfl ?_
    refine c_seq ?_
    refine c_seq ?_
    refine c_region ?_
    refine o_T (y_move rfl) rfl ?_
    refine o_T (y_nilck rfl) rfl ?_
    refine o_T (y_fa fl_53_3 rfl) rfl ?_
    refine o_ld one_4 rfl (ms (ms (ms m0))) Wd.g27 rfl ?_
    refine o_nil1 32 rfl rfl ?_
    refine c_front (s_get (ks (ks (ks k0))) (s_get (ks (ks (ks k0))) (s_get (ks (ks (ks (ks k0)))) (s_get (ks (ks (ks (ks k0)))) (s_get k0 (s_get k0 (s_get k0 (s_get k0 (s_get k0 (s_get k0 (s_get k0 (s_get k0 s_nil)))))))))))) ?_
    refine c_joinD 4 (ι := Value × Value × List Chunk × List Chunk × List Chunk) (fun i => []) (fun i => [[(A.b, .cells (A.wd q (X k) { V with mine := i.1, outs := i.2.1 }).enc 53 (0, 0))], i.2.2.1, i.2.2.2.1, i.2.2.2.2]) (fun i => (q = true → HsG (upA (X k).H k (((X k).H k).tick0.tickH ((X k).H k).t.list)) A.qv A.qb i.2.2.1) ∧ PM (m + 48 * k + 24) i.1 i.2.2.2.1 ∧ PO (m + 2 * k + 1) i.2.1 i.2.2.2.2) (fun _ _ h => h) ?_ ?_
    · skip
      refine c_cond rfl (fun h429 => ?_) (fun h429 => ?_)
      · try simp only [decide_eq_true_eq, decide_eq_false_iff_not, Bool.not_eq_true', Bool.not_eq_false', Int.not_lt, Int.not_le, Decidable.not_not, beq_iff_eq, bne_iff_ne, ne_eq, beq_eq_false_iff_ne, WA.wd] at h429
        refine c_seq ?_
        refine c_region ?_
        refine o_T (y_move rfl) rfl ?_
        refine o_T (y_move rfl) rfl ?_
        refine o_T (y_nilck rfl) rfl ?_
        refine o_T (y_fa fl_53_2 rfl) rfl ?_
        refine o_T (y_ia ar_34 rfl rfl (by omega) (by omega)) rfl ?_
        refine o_ld one_33 rfl m0 (Wd.g_q k (by omega) (by omega)) rfl ?_
        refine o_call en_85 rfl (j85 (e3 h429) hk3 F1 F2 F3 F4 F5) (s_skip (s_take s_nil)) rfl ?_
        rintro v S' ⟨v_2, gv_2, gd_2, gx_2, rfl, hF_2, hx_2, rfl⟩
        refine o_L (y_assign rfl) rfl rfl ?_
        refine o_nil0 rfl ?_
        refine c_seq ?_
        refine c_seq ?_
        refine c_region ?_
        refine o_T (y_move rfl) rfl ?_
        refine o_T (y_move rfl) rfl ?_
        refine o_callrv en_81 rfl (t81 _ _ _ _ _ _ _ _ hF_1 hF_2) (s_get (ks (ks (ks (ks (ks (ks k0)))))) (s_get (ks (ks (ks (ks (ks (ks k0)))))) (s_get k0 (s_get k0 s_nil)))) rfl ?_
        refine o_T (y_not rfl) rfl ?_
        refine o_nil1 43 rfl rfl ?_
        refine c_cond rfl (fun h431 => ?_) (fun h431 => ?_)
        · try simp only [decide_eq_true_eq, decide_eq_false_iff_not, Bool.not_eq_true', Bool.not_eq_false', Int.not_lt, Int.not_le, Decidable.not_not, beq_iff_eq, bne_iff_ne, ne_eq, beq_eq_false_iff_ne, WA.wd] at h431
          first | exact absurd trivial h431 | exact absurd rfl h431 | (simp at h431; done)
        · try simp only [decide_eq_true_eq, decide_eq_false_iff_not, Bool.not_eq_true', Bool.not_eq_false', Int.not_lt, Int.not_le, Decidable.not_not, beq_iff_eq, bne_iff_ne, ne_eq, beq_eq_false_iff_ne, WA.wd] at h431
          refine c_skip ?_
          refine c_region ?_
          refine o_T (y_move rfl) rfl ?_
          refine o_T (y_move rfl) rfl ?_
          refine o_call en_82 rfl (t82 A q (X k) { V with mine := vm1, outs := vo1 } e5 e6 (by omega) (by omega) hF_2) (s_get (ks (ks (ks k0))) (s_get (ks (ks (ks k0))) (s_get (ks (ks (ks k0))) (s_get k0 (s_get k0 s_nil))))) rfl ?_
          rintro v S' ⟨vm_1, vo_1, gm_1, go_1, rfl, hm_1, ho_1, rfl⟩
          refine o_nil0 rfl ?_
          refine ⟨(vm_1, vo_1, _, _, _), ⟨fun _ => hx_2, hm_1.mono (by omega), ho_1.mono (by omega)⟩, trivial, ⟨rfl, rfl⟩, _, ((s_get k0 (s_get (ks (ks k0)) (s_get k0 (s_get k0 (s_get k0 (s_get k0 (s_get k0 (s_get k0 (s_get k0 (s_get k0 (s_get k0 (s_get k0 s_nil)))))))))))))⟩
      · try simp only [decide_eq_true_eq, decide_eq_false_iff_not, Bool.not_eq_true', Bool.not_eq_false', Int.not_lt, Int.not_le, Decidable.not_not, beq_iff_eq, bne_iff_ne, ne_eq, beq_eq_false_iff_ne, WA.wd] at h429
        refine c_skip ?_
        refine ⟨(vm1, vo1, _, _, _), ⟨fun z => absurd (z.symm.trans h429) (fun y => nomatch y), e5.mono (by omega), e6.mono (by omega)⟩, trivial, ⟨rfl, rfl⟩, _, ((s_take (s_take (s_take (s_take (s_take (s_take (s_take (s_take (s_take (s_take (s_take (s_take s_nil)))))))))))))⟩
    · rintro ⟨vm2, vo2, gq2, gm2, go2⟩ ⟨hq2, hm2, ho2⟩
      try dsimp only at hq2
      refine c_seq ?_
      refine c_region ?_
      refine o_T (y_move rfl) rfl ?_
      refine o_T (y_move rfl) rfl ?_
      refine o_T (y_nilck rfl) rfl ?_
      refine o_T (y_fa fl_53_10 rfl) rfl ?_
      refine o_T (y_ia ar_45 rfl rfl (by omega) (by omega)) rfl ?_
      refine o_st one_3 rfl rfl rfl r0 (Wd.s_out k (by omega) (by omega)) (by simp only [Wd.size]; omega) ?_
      refine o_nil0 rfl ?_
      refine c_region ?_
      refine o_T (y_move rfl) rfl ?_
      refine o_T (y_move rfl) rfl ?_
      refine o_T (y_move rfl) rfl ?_
      refine o_call en_83 rfl (t83 A q { X k with H := (upA (X k).H k (((X k).H k).tick0.tickH ((X k).H k).t.list)), out := upA (X k).out k 0 } { V with mine := vm2, outs := vo2 } k hk3 _ _ _ _ _ _ _ _ _ hF_1 (by omega) e4 hwl hm2 ho2 (by omega) (by omega) (by dsimp only; rw [upA_at]; omega) (by dsimp only; omega)) (s_get k0 (s_get (ks (ks (ks (ks (ks (ks k0)))))) (s_get (ks k0) (s_get (ks k0) (s_get (ks k0) (s_get (ks k0) s_nil)))))) rfl ?_
      rintro v S' ⟨vm_2, vo_2, gw_2, gm_2, go_2, rfl, hw_2, hm_2, ho_2, rfl⟩
      refine o_nil0 rfl ?_
      refine c_row (g' := [(A.b, .cells (A.wd q (X (k + 1)) { V with mine := vm_2, outs := vo_2 }).enc 53 (0, 0))]) q0 (by rw [T.Xs k hk3]; rfl) ?_
      refine c_region ?_
      refine o_T (y_move rfl) rfl ?_
      refine o_T (y_add rfl rfl (w64 (by omega))) rfl ?_
      refine o_L (y_assign rfl) rfl rfl ?_
      refine o_nil0 rfl ?_
      refine ⟨(k + 1, vm_2, vo_2, gx_1, gq2, gw_2, gm_2, go_2), ⟨⟨by omega, by rw [T.Xs k hk3]; exact hx_1, by rw [T.Xs k hk3]; exact hq2, by rw [T.Xs k hk3]; exact hw_2, hm_2.mono (by dsimp only; omega), ho_2.mono (by dsimp only; omega)⟩, by dsimp only; omega⟩, ⟨gteI rfl (by dsimp only; omega), trivial⟩, ⟨rfl, rfl⟩, _, ((s_get k0 (s_get (ks (ks (ks (ks k0)))) (s_get (ks (ks (ks k0))) (s_get k0 (s_get k0 (s_get k0 (s_get k0 (s_get k0 (s_get k0 (s_get k0 s_nil)))))))))))⟩
  · try simp only [decide_eq_true_eq, decide_eq_false_iff_not, Bool.not_eq_true', Bool.not_eq_false', Int.not_lt, Int.not_le, Decidable.not_not, beq_iff_eq, bne_iff_ne, ne_eq, beq_eq_false_iff_ne, WA.wd] at h427
    refine c_exit ?_
    refine c_seq ?_
    obtain rfl : k = 3 := by omega
    refine c_region ?_
    refine o_T (y_move rfl) rfl ?_
    refine o_call en_14 rfl (t14L A q { V with mine := vm1, outs := vo1 } T.look T.lk e2 (by rw [T3.1, T3.2.1]; exact W.n) (by rw [T3.2.2.1]; exact W.s) (by rw [T3.2.2.2]; exact W.r) W.i (by omega)) (s_take (s_take (s_skip (s_skip (s_skip (s_skip (s_take (s_take (s_take (s_take s_nil)))))))))) rfl ?_
    rintro v S' ⟨rfl, V_1, gn_1, gs_1, gr_1, gi_1, hV_1, hn_1, hs_1, hr_1, hi_1, rfl⟩
    refine o_L (y_assign rfl) rfl rfl ?_
    refine o_nil0 rfl ?_
    refine c_ret ?_
    refine fun aX wX heX hsX => ret1 Tryz.results39 heX rfl (s_get k0 (s_get k0 (s_get (ks (ks (ks (ks k0)))) (s_get (ks (ks (ks (ks k0)))) (s_get k0 (s_get k0 (s_get k0 (s_get k0 (s_get (ks k0) (s_get k0 s_nil)))))))))) ?_
    exact ⟨rfl, V_1, _, _, _, _, _, _, _, _, _, ⟨by rw [T.look.keeps.1]; exact e2, by rw [T.look.keeps.1]; exact e3, by rw [T.look.keeps.2.2.1]; exact e4, hn_1, hs_1, hr_1, hi_1.mono (by omega), by rw [hV_1.1]; exact e6.mono (by omega), by rw [hV_1.2.1]; exact e5.mono (by omega)⟩, hV_1.2.2, rfl⟩

end Go.Proofs.Qxb6500351aGreat
