/- MADE BY PROGRAM (tools/gen.py over tools/specsw.py): walks. -/
import Derived.Test.Qxb6500351aGreatMd29
import Derived.Test.Qxb6500351aGreatW99
import Derived.Test.Qxb6500351aGreatW83
set_option linter.unusedVariables false
set_option linter.unusedSimpArgs false
namespace Go.Proofs.Qxb6500351aGreat
open Go.Eng
set_option maxRecDepth 20000
set_option maxHeartbeats 4000000
attribute [local irreducible] Hst.ent Hst.err Hst.infoC
theorem ne3_eq {a b : Nat → Int} (h : ne3 a b = false) : ∀ h, h < 3 → a h = b h := fun i i3 => by
  unfold ne3 at h
  have : i = 0 ∨ i = 1 ∨ i = 2 := by omega
  by_cases z1 : a 0 = b 0 <;> by_cases z2 : a 1 = b 1 <;> by_cases z3 : a 2 = b 2 <;> simp [z1, z2, z3] at h
  rcases this with rfl | rfl | rfl <;> assumption
/-- (*e2e/towerlaw.World).Settle -/
theorem t40p (A : WA) (q : Bool) (x : Wrld) (V : WV) (k : Nat) (gh gq gw gn gs gr gi go gm : List Chunk) (W : WG A q x V (200 * k) gh gq gw gn gs gr gi go gm) (L : LawK x k) (hk : k ≤ 10800000000) : Trip Tryz.prog 40 #[.pointer (some ⟨A.b, 0, none⟩)] [[(A.b, .cells (A.wd q x V).enc 53 (0, 0))], gh, gq, gw, gn, gs, gr, gi, go, gm] (fun u S' => u = .bool true ∧ ∃ z k', k' ≤ k + 7800 ∧ LawK z k' ∧ ∃ cm, WPost A q z cm (200 * k') S' ∧ (90 ≤ cm → nSettled z.N)) := by
  obtain ⟨Ts, J0⟩ := JB.start L
  refine fn_entry (args := [.pointer (some ⟨A.b, 0, none⟩)]) Tryz.func40 rfl Tryz.ntmps40 rfl (fun w0 => ?_)
  refine c_seq ?_
  refine c_region ?_
  refine o_L (y_assign rfl) rfl rfl ?_
  refine o_nil0 rfl ?_
  refine c_seq ?_
  refine c_region ?_
  refine o_L (y_assign rfl) rfl rfl ?_
  refine o_nil0 rfl ?_
  refine c_seq ?_
  refine c_seq ?_
  refine c_region ?_
  refine o_L (y_assign rfl) rfl rfl ?_
  refine o_nil0 rfl ?_
  refine c_block ?_
  refine c_loopG (ι := Nat × Int × WS) (fun i => [(3, .int .i64 i.2.1), (4, .int .i64 (i.1 : Int))]) (fun i => [[(A.b, .cells (A.wd q i.2.2.x i.2.2.V).enc 53 (0, 0))], i.2.2.gh, i.2.2.gq, i.2.2.gw, i.2.2.gn, i.2.2.gs, i.2.2.gr, i.2.2.gi, i.2.2.go, i.2.2.gm]) (fun i => JB Ts i.1 i.2.1 i.2.2.k i.2.2.x ∧ i.1 ≤ 120 ∧ i.2.2.k ≤ k + 65 * i.1 ∧ 0 ≤ i.2.1 ∧ i.2.1 ≤ (i.1 : Int) ∧ WG A q i.2.2.x i.2.2.V (200 * i.2.2.k) i.2.2.gh i.2.2.gq i.2.2.gw i.2.2.gn i.2.2.gs i.2.2.gr i.2.2.gi i.2.2.go i.2.2.gm) (fun i => 120 - i.1) (0, 0, ⟨x, V, k, gh, gq, gw, gn, gs, gr, gi, go, gm⟩) (by exact ⟨J0, by dsimp only; omega, by dsimp only; omega, by dsimp only; omega, by dsimp only; omega, W⟩) ⟨rfl, gteI rfl (by dsimp only; omega), trivial⟩ (s_take (s_take (s_take (s_take (s_take (s_take (s_take (s_take (s_take (s_take s_nil)))))))))) ?_
  rintro ⟨r1, cm, x1, V1, k1, gh1, gq1, gw1, gn1, gs1, gr1, gi1, go1, gm1⟩ ⟨J1, f1, f2, f3, f4, W1⟩
  have L1 := J1.law
  try dsimp only [List.cons_append, List.nil_append] at *
  have hwl1 := (L1.szs (by omega)).wl
  refine c_seq ?_
  refine c_seq ?_
  refine c_region ?_
  refine o_T (y_move rfl) rfl ?_
  refine o_T (y_lss rfl rfl) rfl ?_
  refine o_nil1 9 rfl rfl ?_
  refine c_cond rfl (fun h445 => ?_) (fun h445 => ?_)
  · try simp only [decide_eq_true_eq, decide_eq_false_iff_not, Bool.not_eq_true', Bool.not_eq_false', Int.not_lt, Int.not_le, Decidable.not_not, beq_iff_eq, bne_iff_ne, ne_eq, beq_eq_false_iff_ne, WA.wd] at h445
    refine c_skip ?_
    refine c_seq ?_
    refine c_block ?_
    refine c_seq ?_
    refine c_draw #[true, true, true, true, true, true, true, true, true, true, false] rfl (n := 11) rfl ?_
    refine d_T 0 rfl (by kernel_rfl) rfl (y_move rfl) rfl ?_
    refine d_T 1 rfl (by kernel_rfl) rfl (y_nilck rfl) rfl ?_
    refine d_T 2 rfl (by kernel_rfl) rfl (y_fa fl_53_13 rfl) rfl ?_
    refine d_ld 3 rfl (by kernel_rfl) one_3 rfl (fun x hx => hx) m0 Wd.g45 rfl ?_
    refine d_T 4 rfl (by kernel_rfl) rfl (y_move rfl) rfl ?_
    refine d_T 5 rfl (by kernel_rfl) rfl (y_nilck rfl) rfl ?_
    refine d_T 6 rfl (by kernel_rfl) rfl (y_fa fl_53_9 rfl) rfl ?_
    refine d_lda 7 rfl (by kernel_rfl) ag_45 rfl (fun x hx => hx) m0 (wd_lost _ _ _ _) (of_ble rfl) rfl ?_
    refine d_hardA 8 rfl (by kernel_rfl) ze_45 rfl rfl (fun b_1 => ?_)
    refine d_L 9 rfl (by kernel_rfl) rfl (y_assign rfl) rfl rfl ?_
    refine d_hard 10 rfl (by kernel_rfl) ?_
    refine o_sta ag_45 rfl rfl rfl rfl r0 (setAll_full _ _ rfl) (of_ble rfl) ?_
    refine o_stop (fun h => nomatch h) ?_
    refine d_nil0 (by kernel_rfl) rfl ?_
    refine c_seq ?_
    refine c_seq ?_
    refine c_region ?_
    refine o_T (y_move rfl) rfl ?_
    refine o_T (y_nilck rfl) rfl ?_
    refine o_T (y_fa fl_53_5 rfl) rfl ?_
    refine o_ld one_43 rfl (ms m0) Wd.g29 rfl ?_
    refine o_callrv en_86 rfl (i86 W1.w) (s_skip (s_skip (s_skip (s_skip (s_take s_nil))))) rfl ?_
    refine o_L (y_assign rfl) rfl rfl ?_
    refine o_nil0 rfl ?_
    refine c_block ?_
    refine c_loopG (ι := Nat × WS) (fun i_ => [(7, .int .i64 (i_.1 : Int))]) (fun i_ => [[(A.b, .cells (A.wd q i_.2.x i_.2.V).enc 53 (0, 0))], i_.2.gh, i_.2.gq, i_.2.gw, i_.2.gn, i_.2.gs, i_.2.gr, i_.2.gi, i_.2.go, i_.2.gm]) (fun i_ => JM Ts r1 cm x1.spilt x1.lost i_.1 i_.2.k i_.2.x ∧ i_.2.k + i_.1 ≤ k1 + 64 ∧ WG A q i_.2.x i_.2.V (200 * i_.2.k) i_.2.gh i_.2.gq i_.2.gw i_.2.gn i_.2.gs i_.2.gr i_.2.gi i_.2.go i_.2.gm) (fun i_ => i_.1) (x1.wr.length, ⟨x1, V1, k1, gh1, gq1, gw1, gn1, gs1, gr1, gi1, go1, gm1⟩) (by exact ⟨J1.mid, by dsimp only; omega, W1⟩) ⟨rfl, trivial⟩ (s_get (ks k0) (s_get (ks k0) (s_get (ks k0) (s_get (ks k0) (s_get (ks k0) (s_get (ks k0) (s_get (ks k0) (s_get (ks k0) (s_get (ks k0) (s_get (ks k0) (s_get k0 s_nil))))))))))) ?_
    rintro ⟨j2, x2, V2, k2, gh2, gq2, gw2, gn2, gs2, gr2, gi2, go2, gm2⟩ ⟨J2, g1, W2⟩
    have L2 := J2.law
    try dsimp only [List.cons_append, List.nil_append] at *
    refine c_seq ?_
    refine c_seq ?_
    refine c_region ?_
    refine o_T (y_move rfl) rfl ?_
    refine o_T (y_gtr rfl rfl) rfl ?_
    refine o_nil1 26 rfl rfl ?_
    refine c_cond rfl (fun h447 => ?_) (fun h447 => ?_)
    · try simp only [decide_eq_true_eq, decide_eq_false_iff_not, Bool.not_eq_true', Bool.not_eq_false', Int.not_lt, Int.not_le, Decidable.not_not, beq_iff_eq, bne_iff_ne, ne_eq, beq_eq_false_iff_ne, WA.wd] at h447
      refine c_skip ?_
      refine c_seq ?_
      refine c_block ?_
      refine c_seq ?_
      refine c_region ?_
      refine o_T (y_move rfl) rfl ?_
      refine o_call en_38 rfl (t38p A q x2 V2 _ _ _ _ _ _ _ _ _ _ W2 (by omega) (L2.szs (by omega)) (L2.hb (by omega)) 0 (fun z => JM Ts r1 cm x1.spilt x1.lost (j2 - 1) (k2 + 1) z) (J2.del (by omega) (by omega))) (s_take (s_take (s_take (s_take (s_take (s_take (s_take (s_take (s_take (s_take s_nil)))))))))) rfl ?_
      rintro v S' ⟨rfl, z_1, hZ_1, V_1, gh_1, gq_1, gw_1, gn_1, gs_1, gr_1, gi_1, go_1, gm_1, W_1, hc_1, rfl⟩
      refine o_T (y_not rfl) rfl ?_
      refine o_nil1 31 rfl rfl ?_
      refine c_condF rfl ?_
      refine c_skip ?_
      refine c_region ?_
      refine o_T (y_move rfl) rfl ?_
      refine o_T (y_sub rfl rfl (w64 (by omega))) rfl ?_
      refine o_L (y_assign rfl) rfl rfl ?_
      refine o_nil0 rfl ?_
      refine ⟨(j2 - 1, ⟨z_1, V_1, k2 + 1, gh_1, gq_1, gw_1, gn_1, gs_1, gr_1, gi_1, go_1, gm_1⟩), ⟨⟨hZ_1, by dsimp only; omega, W_1.mono (by dsimp only; omega)⟩, by dsimp only; omega⟩, ⟨gteI rfl (by dsimp only; omega), trivial⟩, ⟨rfl, rfl⟩, _, ((s_take (s_take (s_take (s_take (s_take (s_take (s_take (s_take (s_take (s_take (s_take s_nil))))))))))))⟩
    · try simp only [decide_eq_true_eq, decide_eq_false_iff_not, Bool.not_eq_true', Bool.not_eq_false', Int.not_lt, Int.not_le, Decidable.not_not, beq_iff_eq, bne_iff_ne, ne_eq, beq_eq_false_iff_ne, WA.wd] at h447
      refine c_exit ?_
      refine c_seq ?_
      refine c_seq ?_
      obtain ⟨zt, hT, hB0, hB1⟩ := J2.tick (by omega) (by omega)
      refine c_region ?_
      refine o_T (y_move rfl) rfl ?_
      refine o_call en_39 rfl (t39 A q x2 V2 _ _ _ _ _ _ _ _ _ _ W2 (by omega) (L2.szs (by omega)) (tickX x2) zt hT) (s_take (s_take (s_take (s_take (s_take (s_take (s_take (s_take (s_take (s_take s_nil)))))))))) rfl ?_
      rintro v S' ⟨rfl, V_2, gh_2, gq_2, gw_2, gn_2, gs_2, gr_2, gi_2, go_2, gm_2, W_2, hc_2, rfl⟩
      refine o_T (y_not rfl) rfl ?_
      refine o_nil1 34 rfl rfl ?_
      refine c_condF rfl ?_
      refine c_skip ?_
      refine c_seq ?_
      refine c_region ?_
      refine o_T (y_move rfl) rfl ?_
      refine o_T (y_add rfl rfl (w64 (by omega))) rfl ?_
      refine o_L (y_assign rfl) rfl rfl ?_
      refine o_nil0 rfl ?_
      refine c_seq ?_
      refine c_draw #[true, true, true, true, true, true, true, true, true, true, true, true, true, true] rfl (n := 14) rfl ?_
      refine d_T 0 rfl (by kernel_rfl) rfl (y_move rfl) rfl ?_
      refine d_T 1 rfl (by kernel_rfl) rfl (y_nilck rfl) rfl ?_
      refine d_T 2 rfl (by kernel_rfl) rfl (y_fa fl_53_13 rfl) rfl ?_
      refine d_ld 3 rfl (by kernel_rfl) one_3 rfl (fun x hx => hx) m0 Wd.g45 rfl ?_
      refine d_T 4 rfl (by kernel_rfl) rfl (y_move rfl) rfl ?_
      refine d_T 5 rfl (by kernel_rfl) rfl (y_neq rfl rfl) rfl ?_
      refine d_T 6 rfl (by kernel_rfl) rfl (y_move rfl) rfl ?_
      refine d_split 43 rfl (fun h456 => ?_) (fun h456 => ?_)
      · try simp only [decide_eq_true_eq, decide_eq_false_iff_not, Bool.not_eq_true', Bool.not_eq_false', Int.not_lt, Int.not_le, Decidable.not_not, beq_iff_eq, bne_iff_ne, ne_eq, beq_eq_false_iff_ne, WA.wd] at h456
        refine d_pass 7 rfl rfl rfl rfl rfl (by kernel_rfl) (fun x hx => hx) rfl ?_
        refine d_pass 8 rfl rfl rfl rfl rfl (by kernel_rfl) (fun x hx => hx) rfl ?_
        refine d_pass 9 rfl rfl rfl rfl rfl (by kernel_rfl) (fun x hx => hx) rfl ?_
        refine d_pass 10 rfl rfl rfl rfl rfl (by kernel_rfl) (fun x hx => hx) rfl ?_
        refine d_pass 11 rfl rfl rfl rfl rfl (by kernel_rfl) (fun x hx => hx) rfl ?_
        refine d_pass 12 rfl rfl rfl rfl rfl (by kernel_rfl) (fun x hx => hx) rfl ?_
        refine d_T 13 rfl (by kernel_rfl) rfl (y_pickT rfl rfl) rfl ?_
        refine d_nil1 50 (by kernel_rfl) rfl rfl ?_
        refine c_condT rfl ?_
        refine c_region ?_
        refine o_L (y_assign rfl) rfl rfl ?_
        refine o_nil0 rfl ?_
        refine c_region ?_
        refine o_T (y_move rfl) rfl ?_
        refine o_T (y_add rfl rfl (w64 (by omega))) rfl ?_
        refine o_L (y_assign rfl) rfl rfl ?_
        refine o_nil0 rfl ?_
        refine ⟨(r1 + 1, _, ⟨zt, V_2, k2 + 1, gh_2, gq_2, gw_2, gn_2, gs_2, gr_2, gi_2, go_2, gm_2⟩), ⟨⟨hB0, by omega, by dsimp only; omega, by dsimp only; omega, by dsimp only; omega, W_2.mono (by dsimp only; omega)⟩, by dsimp only; omega⟩, ⟨rfl, gteI rfl (by dsimp only; omega), trivial⟩, ⟨rfl, rfl⟩, _, ((s_take (s_take (s_take (s_take (s_take (s_take (s_take (s_take (s_take (s_take s_nil)))))))))))⟩
      · try simp only [decide_eq_true_eq, decide_eq_false_iff_not, Bool.not_eq_true', Bool.not_eq_false', Int.not_lt, Int.not_le, Decidable.not_not, beq_iff_eq, bne_iff_ne, ne_eq, beq_eq_false_iff_ne, WA.wd] at h456
        refine d_Tg 7 rfl rfl rfl rfl (by kernel_rfl) rfl (y_move rfl) rfl ?_
        refine d_Tg 8 rfl rfl rfl rfl (by kernel_rfl) rfl (y_nilck rfl) rfl ?_
        refine d_Tg 9 rfl rfl rfl rfl (by kernel_rfl) rfl (y_fa fl_53_9 rfl) rfl ?_
        refine d_ldat 10 rfl rfl rfl rfl (by kernel_rfl) ag_45 rfl (fun x hx => hx) m0 (wd_lost _ _ _ _) (of_ble rfl) rfl ?_
        refine d_ldat 11 rfl rfl rfl rfl (by kernel_rfl) ag_45 rfl (fun x hx => hx) (ms (ms (ms (ms (ms (ms (ms (ms (ms (ms m0)))))))))) rfl (Nat.le_refl _) rfl ?_
        refine d_Tg 12 rfl rfl rfl rfl (by kernel_rfl) rfl (y_neq3 (a := zt.lost) (b := x1.lost) Tryz.underlying45 Tryz.underlying3 one_3 (by kernel_rfl) rfl rfl) rfl ?_
        refine d_T 13 rfl (by kernel_rfl) rfl (y_pickF rfl rfl) rfl ?_
        refine d_nil1 50 (by kernel_rfl) rfl rfl ?_
        refine c_cond rfl (fun h456_1 => ?_) (fun h456_1 => ?_)
        · try simp only [decide_eq_true_eq, decide_eq_false_iff_not, Bool.not_eq_true', Bool.not_eq_false', Int.not_lt, Int.not_le, Decidable.not_not, beq_iff_eq, bne_iff_ne, ne_eq, beq_eq_false_iff_ne, WA.wd] at h456_1
          refine c_region ?_
          refine o_L (y_assign rfl) rfl rfl ?_
          refine o_nil0 rfl ?_
          refine c_region ?_
          refine o_T (y_move rfl) rfl ?_
          refine o_T (y_add rfl rfl (w64 (by omega))) rfl ?_
          refine o_L (y_assign rfl) rfl rfl ?_
          refine o_nil0 rfl ?_
          refine ⟨(r1 + 1, _, ⟨zt, V_2, k2 + 1, gh_2, gq_2, gw_2, gn_2, gs_2, gr_2, gi_2, go_2, gm_2⟩), ⟨⟨hB0, by omega, by dsimp only; omega, by dsimp only; omega, by dsimp only; omega, W_2.mono (by dsimp only; omega)⟩, by dsimp only; omega⟩, ⟨rfl, gteI rfl (by dsimp only; omega), trivial⟩, ⟨rfl, rfl⟩, _, ((s_take (s_take (s_take (s_take (s_take (s_take (s_take (s_take (s_take (s_take s_nil)))))))))))⟩
        · try simp only [decide_eq_true_eq, decide_eq_false_iff_not, Bool.not_eq_true', Bool.not_eq_false', Int.not_lt, Int.not_le, Decidable.not_not, beq_iff_eq, bne_iff_ne, ne_eq, beq_eq_false_iff_ne, WA.wd] at h456_1
          refine c_skip ?_
          refine c_region ?_
          refine o_T (y_move rfl) rfl ?_
          refine o_T (y_add rfl rfl (w64 (by omega))) rfl ?_
          refine o_L (y_assign rfl) rfl rfl ?_
          refine o_nil0 rfl ?_
          refine ⟨(r1 + 1, _, ⟨zt, V_2, k2 + 1, gh_2, gq_2, gw_2, gn_2, gs_2, gr_2, gi_2, go_2, gm_2⟩), ⟨⟨hB1 (by omega) (fun h h3 => ne3_eq (by simpa using h456_1) h h3), by omega, by dsimp only; omega, by dsimp only; omega, by dsimp only; omega, W_2.mono (by dsimp only; omega)⟩, by dsimp only; omega⟩, ⟨rfl, gteI rfl (by dsimp only; omega), trivial⟩, ⟨rfl, rfl⟩, _, ((s_take (s_take (s_take (s_take (s_take (s_take (s_take (s_take (s_take (s_take s_nil)))))))))))⟩
  · try simp only [decide_eq_true_eq, decide_eq_false_iff_not, Bool.not_eq_true', Bool.not_eq_false', Int.not_lt, Int.not_le, Decidable.not_not, beq_iff_eq, bne_iff_ne, ne_eq, beq_eq_false_iff_ne, WA.wd] at h445
    refine c_exit ?_
    refine c_seq ?_
    refine c_region ?_
    refine o_T (y_move rfl) rfl ?_
    refine o_T (y_move rfl) rfl ?_
    refine o_T (y_nilck rfl) rfl ?_
    refine o_T (y_fa fl_53_4 rfl) rfl ?_
    refine o_st one_3 rfl rfl rfl r0 Wd.s28 (of_blt rfl) ?_
    refine o_nil0 rfl ?_
    refine c_seq ?_
    refine c_row (g' := [(A.b, .cells (A.wd q x1 { V1 with cm := cm }).enc 53 (0, 0))]) q0 rfl ?_
    refine c_region ?_
    refine o_L (y_assign rfl) rfl rfl ?_
    refine o_nil0 rfl ?_
    refine c_ret ?_
    refine fun aX wX heX hsX => ret1 Tryz.results40 heX rfl (s_take (s_take (s_take (s_take (s_take (s_take (s_take (s_take (s_take (s_take s_nil)))))))))) ?_
    exact ⟨rfl, x1, k1, by omega, L1, cm, ⟨{ V1 with cm := cm }, _, _, _, _, _, _, _, _, _, ⟨W1.h, W1.q, W1.w, W1.n, W1.s, W1.r, W1.i, W1.o, W1.m⟩, rfl, rfl⟩, fun h90 => J1.settled (by omega) h90⟩

end Go.Proofs.Qxb6500351aGreat
