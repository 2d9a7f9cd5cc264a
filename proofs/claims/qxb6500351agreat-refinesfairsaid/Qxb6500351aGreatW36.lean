/- MADE BY PROGRAM (tools/gen.py over tools/specs351.py): walks. -/
import Derived.Test.Qxb6500351aGreatFacts
import Derived.Test.Qxb6500351aGreatW12
import Derived.Test.Qxb6500351aGreatW35
set_option linter.unusedVariables false
set_option linter.unusedSimpArgs false
namespace Go.Proofs.Qxb6500351aGreat
open Go.Eng
set_option maxRecDepth 20000
set_option maxHeartbeats 4000000
/-- (*e2e/host.Host).toListener -/
theorem t120 (q : HP) (H : Hst) (lk : Lk) (dr : Nat → Int) (v : Value) (fr : List (List Int)) (gv gd : List Chunk) (src : Int) (b : Nat) (g : Seg) (ok : H.Ok) (hlk : lk.addr = H.addr) (hl : Lst 81 1 rowR v fr gv gd) (hfr : fr.length ≤ 900000) (hlo : H.lost + 50 ≤ 1152921504606846976) (hg : g.Ok) (hgf : g.flags = 1) (h1 : 0 ≤ src ∧ src < 256) (h5 : H.t.nextSd < 1152921504606846976) (h6 : ¬ H.t.lrow g.dp = -1 → H.t.free ≠ H.t.lrow g.dp) (h7 : (H.t.child g.dp src g.sp).2.1 = 0 → ((H.t.child g.dp src g.sp).2.2.get (H.t.child g.dp src g.sp).1).2 = 0 ∧ (0 ≤ ((H.t.child g.dp src g.sp).2.2.get (H.t.child g.dp src g.sp).1).1.slot ∧ ((H.t.child g.dp src g.sp).2.2.get (H.t.child g.dp src g.sp).1).1.slot < 4) ∧ (H.c ((H.t.child g.dp src g.sp).2.2.get (H.t.child g.dp src g.sp).1).1.slot.toNat).x.st = 0) : Trip Tryz.prog 120 #[.pointer (some ⟨q.h, 0, none⟩), v, .int .i64 src, .agg (segC b g).enc] [[(q.h, .cells (q.hs H dr).enc 111 (0, 0))], [(q.l, .cells lk.enc 146 (0, 0))], [(q.p, .cells H.p.enc 153 (0, 0))], [(q.t, .cells H.t.enc 159 (0, 0))], q.csG H.c, gv, gd, byG b g.data 5] (fun u S' => ∃ (lk' : Lk) (dr' : Nat → Int) (v' : Value) (gv' gd' : List Chunk), lk'.addr = H.addr ∧ u = v' ∧ Lst 81 1 rowR v' (fr ++ H.toLisF src g) gv' gd' ∧ S' = [gv', gd', [(q.h, .cells (q.hs (H.toLisH src g) dr').enc 111 (0, 0))], [(q.l, .cells lk'.enc 146 (0, 0))], [(q.p, .cells ((H.toLisH src g)).p.enc 153 (0, 0))], [(q.t, .cells ((H.toLisH src g)).t.enc 159 (0, 0))], q.csG ((H.toLisH src g)).c]) := by
  have ok0 := ok
  have oa := ok.addr
  have oc := ok.clock
  have ol := ok.lost
  have op := ok.p
  have opa := ok.pa
  have oc4 := ok.c
  have ot := ok.t
  have hd := BytAt.full hg.bytes (by have := hg.len; omega)
  have hg1 := hg.sp
  have hg2 := hg.dp
  refine fn_entry (args := [.pointer (some ⟨q.h, 0, none⟩), v, .int .i64 src, .agg (segC b g).enc]) Tryz.func120 rfl Tryz.ntmps120 rfl (fun w0 => ?_)
  refine c_seq ?_
  refine c_region ?_
  refine o_box rfl rfl rfl rfl (fun b_1 => ?_)
  refine o_L (y_assign rfl) rfl rfl ?_
  refine o_nil0 rfl ?_
  refine c_seq ?_
  refine c_draw #[true, true, true, true, true, true, true, true, true, false, true, true, true, true, true] rfl (n := 15) rfl ?_
  refine d_T 0 rfl (by kernel_rfl) rfl (y_move rfl) rfl ?_
  refine d_T 1 rfl (by kernel_rfl) rfl (y_nilck rfl) rfl ?_
  refine d_T 2 rfl (by kernel_rfl) rfl (y_fa fl_111_7 rfl) rfl ?_
  refine d_ld 3 rfl (by kernel_rfl) one_39 rfl (fun x hx => hx) (ms m0) Hs.g17 rfl ?_
  refine d_T 4 rfl (by kernel_rfl) rfl (y_fa fl_178_1 rfl) rfl ?_
  refine d_ld 5 rfl (by kernel_rfl) one_3 rfl (fun x hx => hx) m0 Sg.g1 rfl ?_
  refine d_T 6 rfl (by kernel_rfl) rfl (y_move rfl) rfl ?_
  refine d_T 7 rfl (by kernel_rfl) rfl (y_fa fl_178_0 rfl) rfl ?_
  refine d_ld 8 rfl (by kernel_rfl) one_3 rfl (fun x hx => hx) m0 Sg.g0 rfl ?_
  refine d_hard 9 rfl (by kernel_rfl) ?_
  refine o_call en_160 rfl (t160 _ _ _ _ _ (by assumption) (by omega) (by omega) (by omega) (by omega) (by assumption)) (s_skip (s_skip (s_skip (s_skip (s_take s_nil))))) rfl ?_
  rintro v S' ⟨t_1, ht_1, kt_1, rfl, rfl⟩
  refine o_stop (fun h => nomatch h) ?_
  refine d_T 10 rfl (by kernel_rfl) rfl (y_move rfl) rfl ?_
  refine d_T 11 rfl (by kernel_rfl) rfl (y_extract rfl rfl) rfl ?_
  refine d_T 12 rfl (by kernel_rfl) rfl (y_extract rfl rfl) rfl ?_
  refine d_L 13 rfl (by kernel_rfl) rfl (y_assign rfl) rfl rfl ?_
  refine d_L 14 rfl (by kernel_rfl) rfl (y_assign rfl) rfl rfl ?_
  refine d_nil0 (by kernel_rfl) rfl ?_
  refine c_seq ?_
  refine c_seq ?_
  refine c_region ?_
  refine o_T (y_move rfl) rfl ?_
  refine o_T (y_neq rfl rfl) rfl ?_
  refine o_nil1 27 rfl rfl ?_
  refine c_cond rfl (fun h70 => ?_) (fun h70 => ?_)
  · try simp only [decide_eq_true_eq, decide_eq_false_iff_not, Bool.not_eq_true', Bool.not_eq_false', Int.not_lt, Int.not_le, Decidable.not_not, beq_iff_eq, bne_iff_ne, ne_eq, beq_eq_false_iff_ne] at h70
    refine c_seq ?_
    refine c_draw #[true, true, true, true, true, true, true, true, true, false] rfl (n := 10) rfl ?_
    refine d_T 0 rfl (by kernel_rfl) rfl (y_move rfl) rfl ?_
    refine d_T 1 rfl (by kernel_rfl) rfl (y_nilck rfl) rfl ?_
    refine d_T 2 rfl (by kernel_rfl) rfl (y_fa fl_111_3 rfl) rfl ?_
    refine d_T 3 rfl (by kernel_rfl) rfl (y_ia ar_109 rfl rfl (by omega) (by omega)) rfl ?_
    refine d_ld 4 rfl (by kernel_rfl) one_3 rfl (fun x hx => hx) (ms (ms m0)) (Hs.gr_dropped _ (by omega) rfl) rfl ?_
    refine d_T 5 rfl (by kernel_rfl) rfl (y_add rfl rfl rfl) rfl ?_
    refine d_T 6 rfl (by kernel_rfl) rfl (y_nilck rfl) rfl ?_
    refine d_T 7 rfl (by kernel_rfl) rfl (y_fa fl_111_3 rfl) rfl ?_
    refine d_T 8 rfl (by kernel_rfl) rfl (y_ia ar_109 rfl rfl (by omega) (by omega)) rfl ?_
    refine d_hard 9 rfl (by kernel_rfl) ?_
    refine o_st one_3 rfl rfl rfl (rs (rs r0)) (Hs.sr_dropped _ (by omega) rfl) (by simp only [Hs.size]; omega) ?_
    refine o_stop (fun h => nomatch h) ?_
    refine d_nil0 (by kernel_rfl) rfl ?_
    refine c_seq ?_
    refine c_region ?_
    refine o_T (y_move rfl) rfl ?_
    refine o_L (y_assign rfl) rfl rfl ?_
    refine o_nil0 rfl ?_
    refine c_ret ?_
    refine fun aX wX heX hsX => ret1 Tryz.results120 heX rfl (s_get (ks (ks (ks (ks (ks (ks k0)))))) (s_get (ks (ks (ks (ks (ks (ks k0)))))) (s_get (ks (ks k0)) (s_get (ks (ks k0)) (s_get (ks (ks k0)) (s_get k0 (s_get (ks k0) s_nil))))))) ?_
    subst ht_1
    have e1 : H.toLisF src g = [] := by unfold Hst.toLisF; rw [if_pos h70]
    have e2 : H.toLisH src g = { H with t := (H.t.child g.dp src g.sp).2.2 } := by unfold Hst.toLisH; rw [if_pos h70]
    rw [e1, e2]
    exact ⟨_, _, _, _, _, hlk, rfl, by rw [List.append_nil]; exact hl, rfl⟩
  · try simp only [decide_eq_true_eq, decide_eq_false_iff_not, Bool.not_eq_true', Bool.not_eq_false', Int.not_lt, Int.not_le, Decidable.not_not, beq_iff_eq, bne_iff_ne, ne_eq, beq_eq_false_iff_ne] at h70
    refine c_skip ?_
    refine c_seq ?_
    have h8 := h7 (by omega)
    obtain ⟨h9, h10, h11⟩ := h8
    refine c_region ?_
    refine o_T (y_move rfl) rfl ?_
    refine o_T (y_nilck rfl) rfl ?_
    refine o_T (y_fa fl_111_7 rfl) rfl ?_
    refine o_ld one_39 rfl (ms (ms m0)) Hs.g17 rfl ?_
    refine o_T (y_move rfl) rfl ?_
    refine o_call en_66 rfl (t66 _ _ _) (s_take s_nil) rfl ?_
    rintro v S' ⟨en_1, er_1, hen_1, her_1, rfl, rfl⟩
    refine o_T (y_move rfl) rfl ?_
    refine o_T (y_extract rfl rfl) rfl ?_
    refine o_T (y_extract rfl rfl) rfl ?_
    refine o_alloc ze_66 rfl rfl (fun b_2 => ?_)
    refine o_sta ag_66 rfl rfl rfl rfl r0 (setAll_full _ _ rfl) (of_ble rfl) ?_
    refine o_L (y_assign rfl) rfl rfl ?_
    refine o_nil0 rfl ?_
    refine c_seq ?_
    refine c_seq ?_
    rw [ht_1] at her_1 hen_1
    rw [← her_1] at h9
    rw [← hen_1] at h10 h11
    have henk : en_1.Ok := by rw [hen_1, ← ht_1]; exact Tb.get_ok kt_1 _
    refine c_region ?_
    refine o_T (y_move rfl) rfl ?_
    refine o_T (y_neq rfl rfl) rfl ?_
    refine o_nil1 48 rfl rfl ?_
    refine c_cond rfl (fun h75 => ?_) (fun h75 => ?_)
    · try simp only [decide_eq_true_eq, decide_eq_false_iff_not, Bool.not_eq_true', Bool.not_eq_false', Int.not_lt, Int.not_le, Decidable.not_not, beq_iff_eq, bne_iff_ne, ne_eq, beq_eq_false_iff_ne] at h75
      first | (exfalso; omega) | exact absurd rfl h75 | exact absurd h75 (by decide)
    · try simp only [decide_eq_true_eq, decide_eq_false_iff_not, Bool.not_eq_true', Bool.not_eq_false', Int.not_lt, Int.not_le, Decidable.not_not, beq_iff_eq, bne_iff_ne, ne_eq, beq_eq_false_iff_ne] at h75
      refine c_skip ?_
      refine c_seq ?_
      have okk := oc4 en_1.slot.toNat
      have hsgs := (Conn.ok_openP okk (H.clock % 256) g).2
      have hln : (Conn.openP ⟨(H.c en_1.slot.toNat).x, (H.c en_1.slot.toNat).s, (H.c en_1.slot.toNat).r⟩ (H.clock % 256) g).2.length ≤ 14 := Conn.openP_len _ _ _
      refine c_front (s_get (ks (ks (ks (ks (ks (ks k0)))))) (s_get k0 (s_get k0 (s_get k0 (s_get k0 (s_get k0 (s_get k0 (s_get k0 (s_get k0 (s_get k0 s_nil)))))))))) ?_
      refine c_open q (H.c) (k := en_1.slot.toNat) (by omega) ?_
      refine c_draw #[true, true, true, true, true, true, true, true, true, true, true, true, true, false, true, true, true, true, true] rfl (n := 19) rfl ?_
      refine d_T 0 rfl (by kernel_rfl) rfl (y_move rfl) rfl ?_
      refine d_T 1 rfl (by kernel_rfl) rfl (y_fa fl_66_5 rfl) rfl ?_
      refine d_ld 2 rfl (by kernel_rfl) one_3 rfl (fun x hx => hx) (ms (ms (ms (ms m0)))) En.g5 rfl ?_
      refine d_T 3 rfl (by kernel_rfl) rfl (y_nilck rfl) rfl ?_
      refine d_T 4 rfl (by kernel_rfl) rfl (y_fa fl_111_6 rfl) rfl ?_
      refine d_T 5 rfl (by kernel_rfl) rfl (y_ia ar_38 rfl rfl (by omega) (by omega)) rfl ?_
      refine d_ld 6 rfl (by kernel_rfl) one_37 rfl (fun x hx => hx) (ms (ms (ms (ms (ms (ms (ms m0))))))) (Hs.gr_c _ (by omega) rfl) rfl ?_
      refine d_T 7 rfl (by kernel_rfl) rfl (y_move rfl) rfl ?_
      refine d_T 8 rfl (by kernel_rfl) rfl (y_nilck rfl) rfl ?_
      refine d_T 9 rfl (by kernel_rfl) rfl (y_fa fl_111_1 rfl) rfl ?_
      refine d_ld 10 rfl (by kernel_rfl) one_3 rfl (fun x hx => hx) (ms (ms (ms (ms (ms (ms (ms m0))))))) Hs.g1 rfl ?_
      refine d_T 11 rfl (by kernel_rfl) rfl (y_rem rfl rfl (by decide) (tm (by omega))) rfl ?_
      refine d_ldw 12 rfl (by kernel_rfl) ag_178 rfl (fun x hx => hx) (ms (ms (ms (ms (ms (ms m0)))))) rfl rfl ?_
      refine d_hard 13 rfl (by kernel_rfl) ?_
      refine o_call en_161 rfl (t161 _ (q.s en_1.slot.toNat) (q.r en_1.slot.toNat) ((H.c) en_1.slot.toNat).x _ _ _ _ _ okk hg (by assumption) (by assumption)) (s_take (s_take (s_take s_nil))) rfl ?_
      rintro v S' ⟨v_1, gv_1, gd_1, rfl, hl_1, rfl, hk_1⟩
      have hk_1_s := hk_1.s
      have hk_1_r := hk_1.r
      obtain ⟨hk_1_x1, hk_1_x2, hk_1_x3, hk_1_x4, hk_1_x5, hk_1_x6, hk_1_x7⟩ := hk_1.x
      try dsimp only at hk_1_s hk_1_r
      refine o_stop (fun h => nomatch h) ?_
      refine d_T 14 rfl (by kernel_rfl) rfl (y_move rfl) rfl ?_
      refine d_T 15 rfl (by kernel_rfl) rfl (y_extract rfl rfl) rfl ?_
      refine d_T 16 rfl (by kernel_rfl) rfl (y_extract rfl rfl) rfl ?_
      refine d_L 17 rfl (by kernel_rfl) rfl (y_assign rfl) rfl rfl ?_
      refine d_L 18 rfl (by kernel_rfl) rfl (y_assign rfl) rfl rfl ?_
      refine d_nil0 (by kernel_rfl) rfl ?_
      refine c_seq ?_
      refine c_seq ?_
      refine c_region ?_
      refine o_T (y_move rfl) rfl ?_
      refine o_T (y_neq rfl rfl) rfl ?_
      refine o_nil1 68 rfl rfl ?_
      refine c_cond rfl (fun h79 => ?_) (fun h79 => ?_)
      · try simp only [decide_eq_true_eq, decide_eq_false_iff_not, Bool.not_eq_true', Bool.not_eq_false', Int.not_lt, Int.not_le, Decidable.not_not, beq_iff_eq, bne_iff_ne, ne_eq, beq_eq_false_iff_ne] at h79
        first | (exfalso; omega) | exact absurd rfl h79 | exact absurd h79 (by decide)
      · try simp only [decide_eq_true_eq, decide_eq_false_iff_not, Bool.not_eq_true', Bool.not_eq_false', Int.not_lt, Int.not_le, Decidable.not_not, beq_iff_eq, bne_iff_ne, ne_eq, beq_eq_false_iff_ne] at h79
        refine c_skip ?_
        refine c_seq ?_
        refine c_front (s_get (ks (ks k0)) (s_get (ks (ks k0)) (s_get (ks (ks k0)) (s_get (ks (ks k0)) (s_get k0 (s_get k0 (s_get k0 (s_get k0 (s_get k0 (s_get k0 (s_get k0 (s_get k0 (s_get k0 (s_get k0 (s_get k0 s_nil))))))))))))))) ?_
        refine c_shut q (H.c) (k := en_1.slot.toNat) (by omega) (((H.c en_1.slot.toNat).openP (H.clock % 256) g).1) ?_
        refine c_region ?_
        refine o_T (y_move rfl) rfl ?_
        refine o_T (y_move rfl) rfl ?_
        refine o_ldw ag_66 rfl (ms (ms (ms m0))) rfl rfl ?_
        refine o_T (y_move rfl) rfl ?_
        refine o_call en_127 rfl (t127 _ _ _ _ _ _ _ _ _ _ _ _ _ (by assumption) (by assumption) hl (by assumption) hl_1 (by assumption) (by first | exact len_bnd hfr hln | omega) (by first | exact lost_bnd hlo hln | omega)) (s_get (ks (ks (ks (ks (ks (ks k0)))))) (s_get (ks (ks (ks (ks (ks (ks k0)))))) (s_get (ks (ks (ks (ks (ks (ks k0)))))) (s_get (ks (ks (ks (ks (ks (ks k0)))))) (s_get (ks (ks (ks (ks (ks (ks k0)))))) (s_get (ks k0) (s_get (ks k0) s_nil))))))) rfl ?_
        rintro v S' ⟨lk_1, dr_1, v_2, gv_2, gd_2, hlk_1, rfl, hl_2, rfl⟩
        refine o_L (y_assign rfl) rfl rfl ?_
        refine o_nil0 rfl ?_
        refine c_ret ?_
        refine fun aX wX heX hsX => ret1 Tryz.results120 heX rfl (s_get k0 (s_get k0 (s_get k0 (s_get k0 (s_get k0 (s_get (ks (ks k0)) (s_get k0 s_nil))))))) ?_
        subst her_1
        subst hen_1
        subst ht_1
        have hc0 : ¬ (H.t.child g.dp src g.sp).2.1 ≠ 0 := by omega
        unfold Hst.toLisF Hst.toLisH
        rw [if_neg hc0, if_neg hc0]
        exact ⟨_, _, _, _, _, by assumption, rfl, hl_2, rfl⟩

end Go.Proofs.Qxb6500351aGreat
