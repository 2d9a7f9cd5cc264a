/- MADE BY PROGRAM (tools/gen.py over tools/specs351.py): walks. -/
import Derived.Test.Qxb6500351aGreatFacts
import Derived.Test.Qxb6500351aGreatW12
import Derived.Test.Qxb6500351aGreatW34
set_option linter.unusedVariables false
set_option linter.unusedSimpArgs false
namespace Go.Proofs.Qxb6500351aGreat
open Go.Eng
set_option maxRecDepth 20000
set_option maxHeartbeats 4000000
/-- (*e2e/host.Host).toRow -/
theorem t118 (q : HP) (H : Hst) (lk : Lk) (dr : Nat → Int) (v : Value) (fr : List (List Int)) (gv gd : List Chunk) (sd : Int) (b : Nat) (g : Seg) (ok : H.Ok) (hlk : lk.addr = H.addr) (hl : Lst 81 1 rowR v fr gv gd) (hfr : fr.length ≤ 900000) (hlo : H.lost + 50 ≤ 1152921504606846976) (hg : g.Ok) (h0 : H.err sd = 0) (hsl : 0 ≤ (H.ent sd).slot ∧ (H.ent sd).slot < 4) (hn : (H.ent sd).parent ≠ 0 → (H.ent sd).ready = false → (H.t.rows (H.t.lrow (H.t.rows (H.t.find sd).toNat).e.lPort).toNat).n < 2) : Trip Tryz.prog 118 #[.pointer (some ⟨q.h, 0, none⟩), v, .int .i64 sd, .agg (segC b g).enc] [[(q.h, .cells (q.hs H dr).enc 111 (0, 0))], [(q.l, .cells lk.enc 146 (0, 0))], [(q.p, .cells H.p.enc 153 (0, 0))], [(q.t, .cells H.t.enc 159 (0, 0))], q.csG H.c, gv, gd, byG b g.data 5] (fun u S' => ∃ (lk' : Lk) (dr' : Nat → Int) (v' : Value) (gv' gd' : List Chunk), lk'.addr = H.addr ∧ u = v' ∧ Lst 81 1 rowR v' (fr ++ H.toRowF sd g) gv' gd' ∧ S' = [gv', gd', [(q.h, .cells (q.hs (H.toRowH sd g) dr').enc 111 (0, 0))], [(q.l, .cells lk'.enc 146 (0, 0))], [(q.p, .cells ((H.toRowH sd g)).p.enc 153 (0, 0))], [(q.t, .cells ((H.toRowH sd g)).t.enc 159 (0, 0))], q.csG ((H.toRowH sd g)).c]) := by
  have ok0 := ok
  have oa := ok.addr
  have oc := ok.clock
  have ol := ok.lost
  have op := ok.p
  have opa := ok.pa
  have oc4 := ok.c
  have ot := ok.t
  have hd := BytAt.full hg.bytes (by have := hg.len; omega)
  refine fn_entry (args := [.pointer (some ⟨q.h, 0, none⟩), v, .int .i64 sd, .agg (segC b g).enc]) Tryz.func118 rfl Tryz.ntmps118 rfl (fun w0 => ?_)
  refine c_seq ?_
  refine c_region ?_
  refine o_box rfl rfl rfl rfl (fun b_1 => ?_)
  refine o_L (y_assign rfl) rfl rfl ?_
  refine o_nil0 rfl ?_
  refine c_seq ?_
  refine c_region ?_
  refine o_T (y_move rfl) rfl ?_
  refine o_T (y_nilck rfl) rfl ?_
  refine o_T (y_fa fl_111_7 rfl) rfl ?_
  refine o_ld one_39 rfl (ms m0) Hs.g17 rfl ?_
  refine o_T (y_move rfl) rfl ?_
  refine o_call en_66 rfl (t66 _ _ _) (s_skip (s_skip (s_skip (s_skip (s_take s_nil))))) rfl ?_
  rintro v S' ⟨en_1, er_1, hen_1, her_1, rfl, rfl⟩
  refine o_T (y_move rfl) rfl ?_
  refine o_T (y_extract rfl rfl) rfl ?_
  refine o_T (y_extract rfl rfl) rfl ?_
  refine o_alloc ze_66 rfl rfl (fun b_2 => ?_)
  refine o_sta ag_66 rfl rfl rfl rfl r0 (setAll_full _ _ rfl) (of_ble rfl) ?_
  refine o_L (y_assign rfl) rfl rfl ?_
  refine o_nil0 rfl ?_
  refine c_seq ?_
  refine c_seq ?_
  unfold Hst.err at h0
  unfold Hst.ent at hsl hn
  rw [← her_1] at h0
  rw [← hen_1] at hsl hn
  have henk : en_1.Ok := by rw [hen_1]; exact Tb.get_ok ot sd
  refine c_region ?_
  refine o_T (y_move rfl) rfl ?_
  refine o_T (y_neq rfl rfl) rfl ?_
  refine o_nil1 22 rfl rfl ?_
  refine c_cond rfl (fun h55 => ?_) (fun h55 => ?_)
  · try simp only [decide_eq_true_eq, decide_eq_false_iff_not, Bool.not_eq_true', Bool.not_eq_false', Int.not_lt, Int.not_le, Decidable.not_not, beq_iff_eq, bne_iff_ne, ne_eq, beq_eq_false_iff_ne] at h55
    exfalso; omega
  · try simp only [decide_eq_true_eq, decide_eq_false_iff_not, Bool.not_eq_true', Bool.not_eq_false', Int.not_lt, Int.not_le, Decidable.not_not, beq_iff_eq, bne_iff_ne, ne_eq, beq_eq_false_iff_ne] at h55
    refine c_skip ?_
    refine c_seq ?_
    have okk := oc4 en_1.slot.toNat
    have hln : (Conn.input ⟨(H.c en_1.slot.toNat).x, (H.c en_1.slot.toNat).s, (H.c en_1.slot.toNat).r⟩ g).2.length ≤ 14 := Conn.input_len okk hg
    have hsgs := (Conn.ok_input okk hg).2
    refine c_front (s_get (ks (ks (ks (ks (ks (ks k0)))))) (s_get k0 (s_get k0 (s_get k0 (s_get k0 (s_get k0 (s_get k0 (s_get k0 (s_get k0 (s_get k0 s_nil)))))))))) ?_
    refine c_open q (H.c) (k := en_1.slot.toNat) (by omega) ?_
    refine c_draw #[true, true, true, true, true, true, true, true, false, true] rfl (n := 10) rfl ?_
    refine d_T 0 rfl (by kernel_rfl) rfl (y_move rfl) rfl ?_
    refine d_T 1 rfl (by kernel_rfl) rfl (y_fa fl_66_5 rfl) rfl ?_
    refine d_ld 2 rfl (by kernel_rfl) one_3 rfl (fun x hx => hx) (ms (ms (ms (ms m0)))) En.g5 rfl ?_
    refine d_T 3 rfl (by kernel_rfl) rfl (y_nilck rfl) rfl ?_
    refine d_T 4 rfl (by kernel_rfl) rfl (y_fa fl_111_6 rfl) rfl ?_
    refine d_T 5 rfl (by kernel_rfl) rfl (y_ia ar_38 rfl rfl (by omega) (by omega)) rfl ?_
    refine d_ld 6 rfl (by kernel_rfl) one_37 rfl (fun x hx => hx) (ms (ms (ms (ms (ms (ms (ms m0))))))) (Hs.gr_c _ (by omega) rfl) rfl ?_
    refine d_ldw 7 rfl (by kernel_rfl) ag_178 rfl (fun x hx => hx) (ms (ms (ms (ms (ms (ms m0)))))) rfl rfl ?_
    refine d_hard 8 rfl (by kernel_rfl) ?_
    refine o_call en_157 rfl (t157 _ (q.s en_1.slot.toNat) (q.r en_1.slot.toNat) ((H.c) en_1.slot.toNat).x _ _ _ _ okk hg) (s_take (s_take (s_take (s_skip (s_skip (s_skip (s_skip (s_skip (s_skip (s_skip (s_skip (s_skip (s_take s_nil))))))))))))) rfl ?_
    rintro v S' ⟨gv_1, gd_1, hl_1, rfl, hk_1⟩
    have hk_1_s := hk_1.s
    have hk_1_r := hk_1.r
    obtain ⟨hk_1_x1, hk_1_x2, hk_1_x3, hk_1_x4, hk_1_x5, hk_1_x6, hk_1_x7⟩ := hk_1.x
    try dsimp only at hk_1_s hk_1_r
    refine o_stop (fun h => nomatch h) ?_
    refine d_L 9 rfl (by kernel_rfl) rfl (y_assign rfl) rfl rfl ?_
    refine d_nil0 (by kernel_rfl) rfl ?_
    refine c_seq ?_
    refine c_seq ?_
    refine c_region ?_
    refine o_T (y_fa fl_66_6 rfl) rfl ?_
    refine o_ld one_3 rfl (ms (ms (ms (ms (ms (ms (ms m0))))))) En.g6 rfl ?_
    refine o_T (y_neq rfl rfl) rfl ?_
    refine o_T (y_move rfl) rfl ?_
    refine o_split 36 rfl (fun h59 => ?_) (fun h59 => ?_)
    · try simp only [decide_eq_true_eq, decide_eq_false_iff_not, Bool.not_eq_true', Bool.not_eq_false', Int.not_lt, Int.not_le, Decidable.not_not, beq_iff_eq, bne_iff_ne, ne_eq, beq_eq_false_iff_ne] at h59
      refine o_take rfl rfl rfl ?_
      refine o_T (y_fa fl_66_7 rfl) rfl ?_
      refine o_take rfl rfl rfl ?_
      refine o_ld one_4 rfl (ms (ms (ms (ms (ms (ms (ms m0))))))) En.g7 rfl ?_
      refine o_take rfl rfl rfl ?_
      refine o_T (y_not rfl) rfl ?_
      refine o_T (y_pickT rfl rfl) rfl ?_
      refine o_nil1 40 rfl rfl ?_
      refine c_cond rfl (fun h59_1 => ?_) (fun h59_1 => ?_)
      · try simp only [decide_eq_true_eq, decide_eq_false_iff_not, Bool.not_eq_true', Bool.not_eq_false', Int.not_lt, Int.not_le, Decidable.not_not, beq_iff_eq, bne_iff_ne, ne_eq, beq_eq_false_iff_ne] at h59_1
        refine c_seq ?_
        refine c_draw #[true, true, true, true, true, true, true, false, true, true, true, true] rfl (n := 12) rfl ?_
        refine d_T 0 rfl (by kernel_rfl) rfl (y_move rfl) rfl ?_
        refine d_T 1 rfl (by kernel_rfl) rfl (y_fa fl_66_5 rfl) rfl ?_
        refine d_ld 2 rfl (by kernel_rfl) one_3 rfl (fun x hx => hx) (ms (ms (ms (ms (ms (ms (ms m0))))))) En.g5 rfl ?_
        refine d_T 3 rfl (by kernel_rfl) rfl (y_nilck rfl) rfl ?_
        refine d_T 4 rfl (by kernel_rfl) rfl (y_fa fl_111_6 rfl) rfl ?_
        refine d_T 5 rfl (by kernel_rfl) rfl (y_ia ar_38 rfl rfl (by omega) (by omega)) rfl ?_
        refine d_ld 6 rfl (by kernel_rfl) one_37 rfl (fun x hx => hx) (ms (ms (ms (ms (ms (ms (ms (ms (ms (ms m0)))))))))) (Hs.gr_c _ (by omega) rfl) rfl ?_
        refine d_hard 7 rfl (by kernel_rfl) ?_
        refine o_call en_67 rfl (t67 _ (q.s en_1.slot.toNat) (q.r en_1.slot.toNat) _ _ _ hk_1) (s_skip (s_skip (s_take (s_take (s_take s_nil))))) rfl ?_
        rintro v S' ⟨b_3, rfl, rfl⟩
        refine o_stop (fun h => nomatch h) ?_
        refine d_T 8 rfl (by kernel_rfl) rfl (y_nilck rfl) rfl ?_
        refine d_T 9 rfl (by kernel_rfl) rfl (y_fa fl_95_0 rfl) rfl ?_
        refine d_hard 10 rfl (by kernel_rfl) ?_
        refine o_ld one_3 rfl m0 Ci.g0 rfl ?_
        refine o_front (s_get k0 (s_get (ks (ks (ks k0))) (s_get (ks (ks (ks k0))) (s_get k0 (s_get k0 (s_get k0 (s_get k0 (s_get k0 (s_get k0 (s_get k0 (s_get k0 (s_get k0 (s_get k0 (s_get k0 (s_get k0 (s_get k0 s_nil)))))))))))))))) ?_
        refine o_stop (fun _ => (fun x hx => (ms hx))) ?_
        refine d_T 11 rfl (by kernel_rfl) rfl (y_eql rfl rfl) rfl ?_
        refine d_nil1 52 (by kernel_rfl) rfl rfl ?_
        refine c_cond rfl (fun h60 => ?_) (fun h60 => ?_)
        · try simp only [decide_eq_true_eq, decide_eq_false_iff_not, Bool.not_eq_true', Bool.not_eq_false', Int.not_lt, Int.not_le, Decidable.not_not, beq_iff_eq, bne_iff_ne, ne_eq, beq_eq_false_iff_ne] at h60
          have hn2 := hn h59 h59_1
          refine c_region ?_
          refine o_T (y_move rfl) rfl ?_
          refine o_T (y_nilck rfl) rfl ?_
          refine o_T (y_fa fl_111_7 rfl) rfl ?_
          refine o_ld one_39 rfl (ms (ms (ms (ms (ms (ms (ms (ms (ms (ms (ms m0))))))))))) Hs.g17 rfl ?_
          refine o_T (y_move rfl) rfl ?_
          refine o_call en_158 rfl (t158 _ _ _ (by assumption) (by assumption)) (s_skip (s_skip (s_skip (s_skip (s_skip (s_skip (s_skip (s_skip (s_skip (s_take s_nil)))))))))) rfl ?_
          rintro v S' ⟨t_1, ht_1, kt_1, rfl, rfl⟩
          refine o_nil0 rfl ?_
          refine c_seq ?_
          refine c_front (s_get (ks (ks (ks (ks k0)))) (s_get (ks (ks (ks (ks k0)))) (s_get (ks (ks (ks (ks k0)))) (s_get (ks (ks (ks (ks (ks k0))))) (s_get k0 (s_get k0 (s_get k0 (s_get k0 (s_get k0 (s_get k0 (s_get k0 (s_get k0 (s_get k0 (s_get k0 (s_get k0 (s_get k0 s_nil)))))))))))))))) ?_
          refine c_shut q (H.c) (k := en_1.slot.toNat) (by omega) (((H.c en_1.slot.toNat).input g).1) ?_
          refine c_region ?_
          refine o_T (y_move rfl) rfl ?_
          refine o_T (y_move rfl) rfl ?_
          refine o_ldw ag_66 rfl (ms (ms (ms (ms (ms (ms m0)))))) rfl rfl ?_
          refine o_T (y_move rfl) rfl ?_
          refine o_call en_127 rfl (t127 _ _ _ _ _ _ _ _ _ _ _ _ _ (by assumption) (by assumption) hl (by assumption) hl_1 (by assumption) (by first | exact len_bnd hfr hln | omega) (by first | exact lost_bnd hlo hln | omega)) (s_get (ks (ks (ks (ks (ks (ks (ks (ks k0)))))))) (s_get (ks (ks (ks (ks (ks (ks (ks (ks k0)))))))) (s_get (ks (ks (ks (ks (ks (ks (ks (ks k0)))))))) (s_get (ks (ks (ks (ks (ks (ks (ks (ks k0)))))))) (s_get (ks (ks (ks (ks (ks (ks (ks (ks k0)))))))) (s_get (ks (ks (ks k0))) (s_get (ks (ks (ks k0))) s_nil))))))) rfl ?_
          rintro v S' ⟨lk_1, dr_1, v_1, gv_2, gd_2, hlk_1, rfl, hl_2, rfl⟩
          refine o_L (y_assign rfl) rfl rfl ?_
          refine o_nil0 rfl ?_
          refine c_ret ?_
          refine fun aX wX heX hsX => ret1 Tryz.results118 heX rfl (s_get k0 (s_get k0 (s_get k0 (s_get k0 (s_get k0 (s_get (ks k0) (s_get k0 s_nil))))))) ?_
          subst ht_1
          subst her_1
          subst hen_1
          have e1 : H.rowT sd ((H.c (H.ent sd).slot.toNat).input g).1 = (H.t.ready sd).2 := by unfold Hst.rowT; rw [if_pos ⟨h59, h59_1, h60⟩]
          have e2 : H.toRowH sd g = { H.emitH (H.ent sd) ((H.c (H.ent sd).slot.toNat).input g).2 with c := upA H.c (H.ent sd).slot.toNat ((H.c (H.ent sd).slot.toNat).input g).1, t := H.rowT sd ((H.c (H.ent sd).slot.toNat).input g).1 } := rfl
          rw [e2, e1]
          exact ⟨_, _, _, _, _, by assumption, rfl, hl_2, rfl⟩
        · try simp only [decide_eq_true_eq, decide_eq_false_iff_not, Bool.not_eq_true', Bool.not_eq_false', Int.not_lt, Int.not_le, Decidable.not_not, beq_iff_eq, bne_iff_ne, ne_eq, beq_eq_false_iff_ne] at h60
          refine c_skip ?_
          refine c_seq ?_
          refine c_front (s_get (ks (ks (ks k0))) (s_get (ks (ks (ks k0))) (s_get (ks (ks (ks k0))) (s_get (ks (ks (ks (ks k0)))) (s_get k0 (s_get k0 (s_get k0 (s_get k0 (s_get k0 (s_get k0 (s_get k0 (s_get k0 (s_get k0 (s_get k0 (s_get k0 (s_get k0 s_nil)))))))))))))))) ?_
          refine c_shut q (H.c) (k := en_1.slot.toNat) (by omega) (((H.c en_1.slot.toNat).input g).1) ?_
          refine c_region ?_
          refine o_T (y_move rfl) rfl ?_
          refine o_T (y_move rfl) rfl ?_
          refine o_ldw ag_66 rfl (ms (ms (ms (ms (ms m0))))) rfl rfl ?_
          refine o_T (y_move rfl) rfl ?_
          refine o_call en_127 rfl (t127 _ _ _ _ _ _ _ _ _ _ _ _ _ (by assumption) (by assumption) hl (by assumption) hl_1 (by assumption) (by first | exact len_bnd hfr hln | omega) (by first | exact lost_bnd hlo hln | omega)) (s_get (ks (ks (ks (ks (ks (ks (ks (ks k0)))))))) (s_get (ks (ks (ks (ks (ks (ks (ks (ks k0)))))))) (s_get (ks (ks (ks (ks (ks (ks (ks (ks k0)))))))) (s_get (ks (ks (ks (ks (ks (ks (ks (ks k0)))))))) (s_get (ks (ks (ks (ks (ks (ks (ks (ks k0)))))))) (s_get (ks (ks k0)) (s_get (ks (ks k0)) s_nil))))))) rfl ?_
          rintro v S' ⟨lk_2, dr_2, v_2, gv_3, gd_3, hlk_2, rfl, hl_3, rfl⟩
          refine o_L (y_assign rfl) rfl rfl ?_
          refine o_nil0 rfl ?_
          refine c_ret ?_
          refine fun aX wX heX hsX => ret1 Tryz.results118 heX rfl (s_get k0 (s_get k0 (s_get k0 (s_get k0 (s_get k0 (s_get (ks (ks (ks (ks k0)))) (s_get k0 s_nil))))))) ?_
          subst her_1
          subst hen_1
          have e1 : H.rowT sd ((H.c (H.ent sd).slot.toNat).input g).1 = H.t := by unfold Hst.rowT; rw [if_neg (fun z => h60 z.2.2)]
          have e2 : H.toRowH sd g = { H.emitH (H.ent sd) ((H.c (H.ent sd).slot.toNat).input g).2 with c := upA H.c (H.ent sd).slot.toNat ((H.c (H.ent sd).slot.toNat).input g).1, t := H.rowT sd ((H.c (H.ent sd).slot.toNat).input g).1 } := rfl
          rw [e2, e1]
          exact ⟨_, _, _, _, _, by assumption, rfl, hl_3, rfl⟩
      · try simp only [decide_eq_true_eq, decide_eq_false_iff_not, Bool.not_eq_true', Bool.not_eq_false', Int.not_lt, Int.not_le, Decidable.not_not, beq_iff_eq, bne_iff_ne, ne_eq, beq_eq_false_iff_ne] at h59_1
        refine c_skip ?_
        refine c_seq ?_
        refine c_front (s_get (ks (ks k0)) (s_get (ks (ks k0)) (s_get (ks (ks k0)) (s_get (ks (ks (ks k0))) (s_get k0 (s_get k0 (s_get k0 (s_get k0 (s_get k0 (s_get k0 (s_get k0 (s_get k0 (s_get k0 (s_get k0 (s_get k0 s_nil))))))))))))))) ?_
        refine c_shut q (H.c) (k := en_1.slot.toNat) (by omega) (((H.c en_1.slot.toNat).input g).1) ?_
        refine c_region ?_
        refine o_T (y_move rfl) rfl ?_
        refine o_T (y_move rfl) rfl ?_
        refine o_ldw ag_66 rfl (ms (ms (ms (ms m0)))) rfl rfl ?_
        refine o_T (y_move rfl) rfl ?_
        refine o_call en_127 rfl (t127 _ _ _ _ _ _ _ _ _ _ _ _ _ (by assumption) (by assumption) hl (by assumption) hl_1 (by assumption) (by first | exact len_bnd hfr hln | omega) (by first | exact lost_bnd hlo hln | omega)) (s_get (ks (ks (ks (ks (ks (ks (ks k0))))))) (s_get (ks (ks (ks (ks (ks (ks (ks k0))))))) (s_get (ks (ks (ks (ks (ks (ks (ks k0))))))) (s_get (ks (ks (ks (ks (ks (ks (ks k0))))))) (s_get (ks (ks (ks (ks (ks (ks (ks k0))))))) (s_get (ks k0) (s_get (ks k0) s_nil))))))) rfl ?_
        rintro v S' ⟨lk_3, dr_3, v_3, gv_4, gd_4, hlk_3, rfl, hl_4, rfl⟩
        refine o_L (y_assign rfl) rfl rfl ?_
        refine o_nil0 rfl ?_
        refine c_ret ?_
        refine fun aX wX heX hsX => ret1 Tryz.results118 heX rfl (s_get k0 (s_get k0 (s_get k0 (s_get k0 (s_get k0 (s_get (ks (ks (ks k0))) (s_get k0 s_nil))))))) ?_
        subst her_1
        subst hen_1
        have e1 : H.rowT sd ((H.c (H.ent sd).slot.toNat).input g).1 = H.t := by unfold Hst.rowT; rw [if_neg (fun z => nomatch (h59_1.symm.trans z.2.1 : true = false))]
        have e2 : H.toRowH sd g = { H.emitH (H.ent sd) ((H.c (H.ent sd).slot.toNat).input g).2 with c := upA H.c (H.ent sd).slot.toNat ((H.c (H.ent sd).slot.toNat).input g).1, t := H.rowT sd ((H.c (H.ent sd).slot.toNat).input g).1 } := rfl
        rw [e2, e1]
        exact ⟨_, _, _, _, _, by assumption, rfl, hl_4, rfl⟩
    · try simp only [decide_eq_true_eq, decide_eq_false_iff_not, Bool.not_eq_true', Bool.not_eq_false', Int.not_lt, Int.not_le, Decidable.not_not, beq_iff_eq, bne_iff_ne, ne_eq, beq_eq_false_iff_ne] at h59
      refine o_pass rfl rfl rfl rfl rfl ?_
      refine o_pass rfl rfl rfl rfl rfl ?_
      refine o_pass rfl rfl rfl rfl rfl ?_
      refine o_T (y_pickF rfl rfl) rfl ?_
      refine o_nil1 40 rfl rfl ?_
      refine c_condF rfl ?_
      refine c_skip ?_
      refine c_seq ?_
      refine c_front (s_get (ks (ks k0)) (s_get (ks (ks k0)) (s_get (ks (ks k0)) (s_get (ks (ks (ks k0))) (s_get k0 (s_get k0 (s_get k0 (s_get k0 (s_get k0 (s_get k0 (s_get k0 (s_get k0 (s_get k0 (s_get k0 (s_get k0 s_nil))))))))))))))) ?_
      refine c_shut q (H.c) (k := en_1.slot.toNat) (by omega) (((H.c en_1.slot.toNat).input g).1) ?_
      refine c_region ?_
      refine o_T (y_move rfl) rfl ?_
      refine o_T (y_move rfl) rfl ?_
      refine o_ldw ag_66 rfl (ms (ms (ms (ms m0)))) rfl rfl ?_
      refine o_T (y_move rfl) rfl ?_
      refine o_call en_127 rfl (t127 _ _ _ _ _ _ _ _ _ _ _ _ _ (by assumption) (by assumption) hl (by assumption) hl_1 (by assumption) (by first | exact len_bnd hfr hln | omega) (by first | exact lost_bnd hlo hln | omega)) (s_get (ks (ks (ks (ks (ks (ks (ks k0))))))) (s_get (ks (ks (ks (ks (ks (ks (ks k0))))))) (s_get (ks (ks (ks (ks (ks (ks (ks k0))))))) (s_get (ks (ks (ks (ks (ks (ks (ks k0))))))) (s_get (ks (ks (ks (ks (ks (ks (ks k0))))))) (s_get (ks k0) (s_get (ks k0) s_nil))))))) rfl ?_
      rintro v S' ⟨lk_4, dr_4, v_4, gv_5, gd_5, hlk_4, rfl, hl_5, rfl⟩
      refine o_L (y_assign rfl) rfl rfl ?_
      refine o_nil0 rfl ?_
      refine c_ret ?_
      refine fun aX wX heX hsX => ret1 Tryz.results118 heX rfl (s_get k0 (s_get k0 (s_get k0 (s_get k0 (s_get k0 (s_get (ks (ks (ks k0))) (s_get k0 s_nil))))))) ?_
      subst her_1
      subst hen_1
      have e1 : H.rowT sd ((H.c (H.ent sd).slot.toNat).input g).1 = H.t := by unfold Hst.rowT; rw [if_neg (fun z => z.1 h59)]
      have e2 : H.toRowH sd g = { H.emitH (H.ent sd) ((H.c (H.ent sd).slot.toNat).input g).2 with c := upA H.c (H.ent sd).slot.toNat ((H.c (H.ent sd).slot.toNat).input g).1, t := H.rowT sd ((H.c (H.ent sd).slot.toNat).input g).1 } := rfl
      rw [e2, e1]
      exact ⟨_, _, _, _, _, by assumption, rfl, hl_5, rfl⟩

end Go.Proofs.Qxb6500351aGreat
