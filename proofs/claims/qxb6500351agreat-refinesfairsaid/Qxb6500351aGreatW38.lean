/- MADE BY PROGRAM (tools/gen.py over tools/specs351.py): walks. -/
import Derived.Test.Qxb6500351aGreatFacts
import Derived.Test.Qxb6500351aGreatMd14
import Derived.Test.Qxb6500351aGreatW12
import Derived.Test.Qxb6500351aGreatW36
set_option linter.unusedVariables false
set_option linter.unusedSimpArgs false
namespace Go.Proofs.Qxb6500351aGreat
open Go.Eng
set_option maxRecDepth 20000
set_option maxHeartbeats 4000000
/-- (*e2e/host.Host).Send -/
theorem t95 (q : HP) (H : Hst) (lk : Lk) (dr : Nat → Int) (sd : Int) (b2 o n cap e : Nat) (cs : Array Value) (l : List Int) (ok : H.Ok) (hlk : lk.addr = H.addr) (hlo : H.lost + 50 ≤ 1152921504606846976) (hy : BytAt o n cap cs l) (hsl : H.oursB sd = true → 0 ≤ (H.ent sd).slot ∧ (H.ent sd).slot < 4) : Trip Tryz.prog 95 #[.pointer (some ⟨q.h, 0, none⟩), .int .i64 sd, .slice (some ⟨b2, o, none⟩) n cap] [[(q.h, .cells (q.hs H dr).enc 111 (0, 0))], [(q.l, .cells lk.enc 146 (0, 0))], [(q.p, .cells H.p.enc 153 (0, 0))], [(q.t, .cells H.t.enc 159 (0, 0))], q.csG H.c, [(b2, .cells cs e (0, 0))]] (fun u S' => ((H.sendE sd l) ≠ 0 ∧ u = .tuple #[.int .i64 0, .slice none 0 0, .int .i64 (H.sendE sd l)] ∧ S' = [[(q.h, .cells (q.hs H dr).enc 111 (0, 0))], [(q.l, .cells lk.enc 146 (0, 0))], [(q.p, .cells H.p.enc 153 (0, 0))], [(q.t, .cells H.t.enc 159 (0, 0))], q.csG H.c, [(b2, .cells cs e (0, 0))]]) ∨ ((H.sendE sd l) = 0 ∧ ∃ (lk' : Lk) (dr' : Nat → Int) (v' : Value) (gv' gd' : List Chunk), lk'.addr = H.addr ∧ u = .tuple #[.int .i64 ((H.cn sd).send l).2.1, v', .int .i64 0] ∧ Lst 81 1 rowR v' (H.emitF (H.ent sd) ((H.cn sd).send l).2.2.1) gv' gd' ∧ S' = [gv', gd', [(q.h, .cells (q.hs (H.aft sd ((H.cn sd).send l).1 ((H.cn sd).send l).2.2.1) dr').enc 111 (0, 0))], [(q.l, .cells lk'.enc 146 (0, 0))], [(q.p, .cells ((H.aft sd ((H.cn sd).send l).1 ((H.cn sd).send l).2.2.1)).p.enc 153 (0, 0))], [(q.t, .cells ((H.aft sd ((H.cn sd).send l).1 ((H.cn sd).send l).2.2.1)).t.enc 159 (0, 0))], q.csG ((H.aft sd ((H.cn sd).send l).1 ((H.cn sd).send l).2.2.1)).c, [(b2, .cells cs e (0, 0))]])) := by
  have ok0 := ok
  have oa := ok.addr
  have oc := ok.clock
  have ol := ok.lost
  have op := ok.p
  have opa := ok.pa
  have oc4 := ok.c
  have ot := ok.t
  have hn := hy.n_eq
  have hb := hy.bytes
  have hyl := hy.len
  have hfr : ([] : List (List Int)).length ≤ 900000 := Nat.zero_le _
  refine fn_entry (args := [.pointer (some ⟨q.h, 0, none⟩), .int .i64 sd, .slice (some ⟨b2, o, none⟩) n cap]) Tryz.func95 rfl Tryz.ntmps95 rfl (fun w0 => ?_)
  refine c_seq ?_
  refine c_region ?_
  refine o_L (y_assign rfl) rfl rfl ?_
  refine o_L (y_assign rfl) rfl rfl ?_
  refine o_L (y_assign rfl) rfl rfl ?_
  refine o_nil0 rfl ?_
  refine c_seq ?_
  refine c_region ?_
  refine o_T (y_move rfl) rfl ?_
  refine o_T (y_move rfl) rfl ?_
  refine o_call en_134 rfl (t134 _ _ lk _ _ (by assumption)) (s_take (s_skip (s_skip (s_take s_nil)))) rfl ?_
  rintro v S' ⟨en_1, er_1, hen_1, hob_1, rfl, rfl⟩
  refine o_T (y_move rfl) rfl ?_
  refine o_T (y_extract rfl rfl) rfl ?_
  refine o_T (y_extract rfl rfl) rfl ?_
  refine o_alloc ze_66 rfl rfl (fun b_1 => ?_)
  refine o_sta ag_66 rfl rfl rfl rfl r0 (setAll_full _ _ rfl) (of_ble rfl) ?_
  refine o_L (y_assign rfl) rfl rfl ?_
  refine o_nil0 rfl ?_
  refine c_seq ?_
  refine c_seq ?_
  refine c_region ?_
  refine o_T (y_move rfl) rfl ?_
  refine o_T (y_not rfl) rfl ?_
  refine o_nil1 22 rfl rfl ?_
  refine c_cond rfl (fun h44 => ?_) (fun h44 => ?_)
  · try simp only [decide_eq_true_eq, decide_eq_false_iff_not, Bool.not_eq_true', Bool.not_eq_false', Int.not_lt, Int.not_le, Decidable.not_not, beq_iff_eq, bne_iff_ne, ne_eq, beq_eq_false_iff_ne] at h44
    refine c_seq ?_
    refine c_region ?_
    refine o_L (y_assign rfl) rfl rfl ?_
    refine o_L (y_assign rfl) rfl rfl ?_
    refine o_L (y_assign rfl) rfl rfl ?_
    refine o_nil0 rfl ?_
    refine c_ret ?_
    refine fun aX wX heX hsX => ret3 Tryz.results95 heX rfl rfl rfl (s_get (ks k0) (s_get (ks (ks k0)) (s_get (ks (ks k0)) (s_get (ks k0) (s_get (ks k0) (s_get (ks k0) s_nil)))))) ?_
    subst hob_1
    subst hen_1
    have e1 : H.sendE sd l = 21 := by unfold Hst.sendE; rw [if_neg (by rw [h44]; decide)]
    exact .inl ⟨by rw [e1]; decide, by rw [e1], rfl⟩
  · try simp only [decide_eq_true_eq, decide_eq_false_iff_not, Bool.not_eq_true', Bool.not_eq_false', Int.not_lt, Int.not_le, Decidable.not_not, beq_iff_eq, bne_iff_ne, ne_eq, beq_eq_false_iff_ne] at h44
    refine c_skip ?_
    refine c_seq ?_
    have henk : en_1.Ok := by rw [hen_1]; exact Tb.get_ok ot sd
    have hk4 := hsl (by rw [← hob_1]; assumption)
    rw [← hen_1] at hk4
    have okk := oc4 en_1.slot.toNat
    have hln : (Conn.send ⟨(H.c en_1.slot.toNat).x, (H.c en_1.slot.toNat).s, (H.c en_1.slot.toNat).r⟩ l).2.2.1.length ≤ 14 := Conn.send_len okk l
    have hsgs := Conn.sg_send okk hb
    refine c_front (s_get (ks (ks (ks (ks (ks k0))))) (s_get k0 (s_get k0 (s_get k0 (s_get k0 (s_get k0 (s_get k0 s_nil))))))) ?_
    refine c_open q (H.c) (k := en_1.slot.toNat) (by omega) ?_
    refine c_draw #[true, true, true, true, true, true, true, true, false, true, true, true, true, true, true, true] rfl (n := 16) rfl ?_
    refine d_T 0 rfl (by kernel_rfl) rfl (y_move rfl) rfl ?_
    refine d_T 1 rfl (by kernel_rfl) rfl (y_fa fl_66_5 rfl) rfl ?_
    refine d_ld 2 rfl (by kernel_rfl) one_3 rfl (fun x hx => hx) (ms (ms (ms (ms m0)))) En.g5 rfl ?_
    refine d_T 3 rfl (by kernel_rfl) rfl (y_nilck rfl) rfl ?_
    refine d_T 4 rfl (by kernel_rfl) rfl (y_fa fl_111_6 rfl) rfl ?_
    refine d_T 5 rfl (by kernel_rfl) rfl (y_ia ar_38 rfl rfl (by omega) (by omega)) rfl ?_
    refine d_ld 6 rfl (by kernel_rfl) one_37 rfl (fun x hx => hx) (ms (ms (ms (ms (ms m0))))) (Hs.gr_c _ (by omega) rfl) rfl ?_
    refine d_T 7 rfl (by kernel_rfl) rfl (y_move rfl) rfl ?_
    refine d_hard 8 rfl (by kernel_rfl) ?_
    refine o_call en_135 rfl (t135 _ (q.s en_1.slot.toNat) (q.r en_1.slot.toNat) ((H.c) en_1.slot.toNat).x _ _ _ _ _ _ _ _ _ okk hy) (s_take (s_take (s_take (s_skip (s_skip (s_skip (s_skip (s_skip (s_skip (s_take s_nil)))))))))) rfl ?_
    rintro v S' (⟨hd_1, rfl, rfl, he_1⟩ | ⟨hd_2, v_1, gv_1, gd_1, rfl, hl_1, rfl, hk_1⟩)
    · skip
      refine o_stop (fun h => nomatch h) ?_
      refine d_T 9 rfl (by kernel_rfl) rfl (y_move rfl) rfl ?_
      refine d_T 10 rfl (by kernel_rfl) rfl (y_extract rfl rfl) rfl ?_
      refine d_T 11 rfl (by kernel_rfl) rfl (y_extract rfl rfl) rfl ?_
      refine d_T 12 rfl (by kernel_rfl) rfl (y_extract rfl rfl) rfl ?_
      refine d_L 13 rfl (by kernel_rfl) rfl (y_assign rfl) rfl rfl ?_
      refine d_L 14 rfl (by kernel_rfl) rfl (y_assign rfl) rfl rfl ?_
      refine d_L 15 rfl (by kernel_rfl) rfl (y_assign rfl) rfl rfl ?_
      refine d_nil0 (by kernel_rfl) rfl ?_
      refine c_seq ?_
      refine c_seq ?_
      refine c_region ?_
      refine o_T (y_move rfl) rfl ?_
      refine o_T (y_neq rfl rfl) rfl ?_
      refine o_nil1 37 rfl rfl ?_
      refine c_cond rfl (fun h48 => ?_) (fun h48 => ?_)
      · try simp only [decide_eq_true_eq, decide_eq_false_iff_not, Bool.not_eq_true', Bool.not_eq_false', Int.not_lt, Int.not_le, Decidable.not_not, beq_iff_eq, bne_iff_ne, ne_eq, beq_eq_false_iff_ne] at h48
        refine c_seq ?_
        refine c_front (s_get k0 (s_get k0 (s_get k0 (s_get (ks k0) (s_get k0 (s_get k0 (s_get k0 (s_get k0 (s_get k0 (s_get k0 s_nil)))))))))) ?_
        refine c_shut q (H.c) (k := en_1.slot.toNat) (by omega) (H.c en_1.slot.toNat) ?_
        refine c_row (g' := q.csG (H.c)) q0 (by rw [upA_same _ _ _ rfl]) ?_
        refine c_region ?_
        refine o_T (y_move rfl) rfl ?_
        refine o_L (y_assign rfl) rfl rfl ?_
        refine o_L (y_assign rfl) rfl rfl ?_
        refine o_L (y_assign rfl) rfl rfl ?_
        refine o_nil0 rfl ?_
        refine c_ret ?_
        refine fun aX wX heX hsX => ret3 Tryz.results95 heX rfl rfl rfl (s_get (ks (ks (ks k0))) (s_get (ks (ks (ks (ks k0)))) (s_get (ks (ks (ks (ks k0)))) (s_get (ks (ks (ks k0))) (s_get k0 (s_get k0 s_nil)))))) ?_
        subst hob_1
        subst hen_1
        have e1 : H.sendE sd l = ((H.cn sd).send l).2.2.2 := by unfold Hst.sendE; rw [if_pos h44]
        exact .inl ⟨by rw [e1]; exact h48, by rw [e1]; rfl, rfl⟩
      · try simp only [decide_eq_true_eq, decide_eq_false_iff_not, Bool.not_eq_true', Bool.not_eq_false', Int.not_lt, Int.not_le, Decidable.not_not, beq_iff_eq, bne_iff_ne, ne_eq, beq_eq_false_iff_ne] at h48
        first | (exfalso; omega) | exact absurd rfl h48 | exact absurd h48 (by decide)
    · skip
      refine o_stop (fun h => nomatch h) ?_
      refine d_T 9 rfl (by kernel_rfl) rfl (y_move rfl) rfl ?_
      refine d_T 10 rfl (by kernel_rfl) rfl (y_extract rfl rfl) rfl ?_
      refine d_T 11 rfl (by kernel_rfl) rfl (y_extract rfl rfl) rfl ?_
      refine d_T 12 rfl (by kernel_rfl) rfl (y_extract rfl rfl) rfl ?_
      refine d_L 13 rfl (by kernel_rfl) rfl (y_assign rfl) rfl rfl ?_
      refine d_L 14 rfl (by kernel_rfl) rfl (y_assign rfl) rfl rfl ?_
      refine d_L 15 rfl (by kernel_rfl) rfl (y_assign rfl) rfl rfl ?_
      refine d_nil0 (by kernel_rfl) rfl ?_
      refine c_seq ?_
      refine c_seq ?_
      refine c_region ?_
      refine o_T (y_move rfl) rfl ?_
      refine o_T (y_neq rfl rfl) rfl ?_
      refine o_nil1 37 rfl rfl ?_
      refine c_cond rfl (fun h48 => ?_) (fun h48 => ?_)
      · try simp only [decide_eq_true_eq, decide_eq_false_iff_not, Bool.not_eq_true', Bool.not_eq_false', Int.not_lt, Int.not_le, Decidable.not_not, beq_iff_eq, bne_iff_ne, ne_eq, beq_eq_false_iff_ne] at h48
        first | (exfalso; omega) | exact absurd rfl h48 | exact absurd h48 (by decide)
      · try simp only [decide_eq_true_eq, decide_eq_false_iff_not, Bool.not_eq_true', Bool.not_eq_false', Int.not_lt, Int.not_le, Decidable.not_not, beq_iff_eq, bne_iff_ne, ne_eq, beq_eq_false_iff_ne] at h48
        refine c_skip ?_
        refine c_seq ?_
        refine c_front (s_get (ks (ks k0)) (s_get (ks (ks k0)) (s_get (ks (ks k0)) (s_get (ks (ks (ks k0))) (s_get k0 (s_get k0 (s_get k0 (s_get k0 (s_get k0 (s_get k0 (s_get k0 (s_get k0 s_nil)))))))))))) ?_
        refine c_shut q (H.c) (k := en_1.slot.toNat) (by omega) (((H.c en_1.slot.toNat).send l).1) ?_
        refine c_region ?_
        refine o_T (y_move rfl) rfl ?_
        refine o_lbs0 (R := rowR) sz_51 rfl (fun v_2 gv_2 hl_2 => ?_)
        refine o_ldw ag_66 rfl (ms (ms (ms (ms (ms (ms m0)))))) rfl rfl ?_
        refine o_T (y_move rfl) rfl ?_
        refine o_call en_127 rfl (t127 _ _ _ _ _ _ _ _ _ _ _ _ _ (by assumption) (by assumption) hl_2 (by assumption) hl_1 (by assumption) (by first | exact len_bnd hfr hln | omega) (by first | exact lost_bnd hlo hln | omega)) (s_get (ks (ks (ks (ks (ks (ks (ks k0))))))) (s_get (ks (ks (ks (ks (ks (ks (ks (ks k0)))))))) (s_get (ks (ks (ks (ks (ks (ks (ks (ks k0)))))))) (s_get k0 (s_get k0 (s_get (ks k0) (s_get (ks k0) s_nil))))))) rfl ?_
        rintro v S' ⟨lk_1, dr_1, v_3, gv_3, gd_2, hlk_1, rfl, hl_3, rfl⟩
        refine o_L (y_assign rfl) rfl rfl ?_
        refine o_nil0 rfl ?_
        refine c_seq ?_
        refine c_region ?_
        refine o_T (y_move rfl) rfl ?_
        refine o_T (y_move rfl) rfl ?_
        refine o_L (y_assign rfl) rfl rfl ?_
        refine o_L (y_assign rfl) rfl rfl ?_
        refine o_L (y_assign rfl) rfl rfl ?_
        refine o_nil0 rfl ?_
        refine c_ret ?_
        refine fun aX wX heX hsX => ret3 Tryz.results95 heX rfl rfl rfl (s_get k0 (s_get k0 (s_get k0 (s_get k0 (s_get k0 (s_get (ks (ks (ks k0))) (s_get k0 (s_get k0 s_nil)))))))) ?_
        subst hob_1
        subst hen_1
        have e1 : H.sendE sd l = ((H.cn sd).send l).2.2.2 := by unfold Hst.sendE; rw [if_pos h44]
        exact .inr ⟨by rw [e1]; assumption, _, _, _, _, _, by assumption, rfl, hl_3.to (List.nil_append _), rfl⟩

/-- (*e2e/host.Host).Recv -/
theorem t98 (q : HP) (H : Hst) (lk : Lk) (dr : Nat → Int) (sd mx : Int) (ok : H.Ok) (hlk : lk.addr = H.addr) (hlo : H.lost + 50 ≤ 1152921504606846976) (hq : H.oursB sd = true → (H.cn sd).x.st = 4 → (H.cn sd).x.why = 0 → (H.cn sd).x.peerFin = true) (hsl : H.oursB sd = true → 0 ≤ (H.ent sd).slot ∧ (H.ent sd).slot < 4) : Trip Tryz.prog 98 #[.pointer (some ⟨q.h, 0, none⟩), .int .i64 sd, .int .i64 mx] [[(q.h, .cells (q.hs H dr).enc 111 (0, 0))], [(q.l, .cells lk.enc 146 (0, 0))], [(q.p, .cells H.p.enc 153 (0, 0))], [(q.t, .cells H.t.enc 159 (0, 0))], q.csG H.c] (fun u S' => ((H.recvE sd mx) ≠ 0 ∧ u = .tuple #[.slice none 0 0, .slice none 0 0, .int .i64 (H.recvE sd mx)] ∧ S' = [[(q.h, .cells (q.hs H dr).enc 111 (0, 0))], [(q.l, .cells lk.enc 146 (0, 0))], [(q.p, .cells H.p.enc 153 (0, 0))], [(q.t, .cells H.t.enc 159 (0, 0))], q.csG H.c]) ∨ ((H.recvE sd mx) = 0 ∧ ∃ (lk' : Lk) (dr' : Nat → Int) (v' : Value) (gv' gd' : List Chunk) (b2 : Nat), lk'.addr = H.addr ∧ u = .tuple #[byV b2 ((H.cn sd).recv mx).2.1, v', .int .i64 0] ∧ Lst 81 1 rowR v' (H.emitF (H.ent sd) ((H.cn sd).recv mx).2.2.1) gv' gd' ∧ S' = [byG b2 ((H.cn sd).recv mx).2.1 5, gv', gd', [(q.h, .cells (q.hs (H.aft sd ((H.cn sd).recv mx).1 ((H.cn sd).recv mx).2.2.1) dr').enc 111 (0, 0))], [(q.l, .cells lk'.enc 146 (0, 0))], [(q.p, .cells ((H.aft sd ((H.cn sd).recv mx).1 ((H.cn sd).recv mx).2.2.1)).p.enc 153 (0, 0))], [(q.t, .cells ((H.aft sd ((H.cn sd).recv mx).1 ((H.cn sd).recv mx).2.2.1)).t.enc 159 (0, 0))], q.csG ((H.aft sd ((H.cn sd).recv mx).1 ((H.cn sd).recv mx).2.2.1)).c])) := by
  have ok0 := ok
  have oa := ok.addr
  have oc := ok.clock
  have ol := ok.lost
  have op := ok.p
  have opa := ok.pa
  have oc4 := ok.c
  have ot := ok.t
  have hfr : ([] : List (List Int)).length ≤ 900000 := Nat.zero_le _
  refine fn_entry (args := [.pointer (some ⟨q.h, 0, none⟩), .int .i64 sd, .int .i64 mx]) Tryz.func98 rfl Tryz.ntmps98 rfl (fun w0 => ?_)
  refine c_seq ?_
  refine c_region ?_
  refine o_L (y_assign rfl) rfl rfl ?_
  refine o_L (y_assign rfl) rfl rfl ?_
  refine o_L (y_assign rfl) rfl rfl ?_
  refine o_nil0 rfl ?_
  refine c_seq ?_
  refine c_region ?_
  refine o_T (y_move rfl) rfl ?_
  refine o_T (y_move rfl) rfl ?_
  refine o_call en_134 rfl (t134 _ _ lk _ _ (by assumption)) (s_take (s_skip (s_skip (s_take s_nil)))) rfl ?_
  rintro v S' ⟨en_1, er_1, hen_1, hob_1, rfl, rfl⟩
  refine o_T (y_move rfl) rfl ?_
  refine o_T (y_extract rfl rfl) rfl ?_
  refine o_T (y_extract rfl rfl) rfl ?_
  refine o_alloc ze_66 rfl rfl (fun b_1 => ?_)
  refine o_sta ag_66 rfl rfl rfl rfl r0 (setAll_full _ _ rfl) (of_ble rfl) ?_
  refine o_L (y_assign rfl) rfl rfl ?_
  refine o_nil0 rfl ?_
  refine c_seq ?_
  refine c_seq ?_
  refine c_region ?_
  refine o_T (y_move rfl) rfl ?_
  refine o_T (y_not rfl) rfl ?_
  refine o_nil1 22 rfl rfl ?_
  refine c_cond rfl (fun h58 => ?_) (fun h58 => ?_)
  · try simp only [decide_eq_true_eq, decide_eq_false_iff_not, Bool.not_eq_true', Bool.not_eq_false', Int.not_lt, Int.not_le, Decidable.not_not, beq_iff_eq, bne_iff_ne, ne_eq, beq_eq_false_iff_ne] at h58
    refine c_seq ?_
    refine c_region ?_
    refine o_L (y_assign rfl) rfl rfl ?_
    refine o_L (y_assign rfl) rfl rfl ?_
    refine o_L (y_assign rfl) rfl rfl ?_
    refine o_nil0 rfl ?_
    refine c_ret ?_
    refine fun aX wX heX hsX => ret3 Tryz.results98 heX rfl rfl rfl (s_get (ks k0) (s_get (ks (ks k0)) (s_get (ks (ks k0)) (s_get (ks k0) (s_get (ks k0) s_nil))))) ?_
    subst hob_1
    subst hen_1
    have e1 : H.recvE sd mx = 21 := by unfold Hst.recvE; rw [if_neg (by rw [h58]; decide)]
    exact .inl ⟨by rw [e1]; decide, by rw [e1], rfl⟩
  · try simp only [decide_eq_true_eq, decide_eq_false_iff_not, Bool.not_eq_true', Bool.not_eq_false', Int.not_lt, Int.not_le, Decidable.not_not, beq_iff_eq, bne_iff_ne, ne_eq, beq_eq_false_iff_ne] at h58
    refine c_skip ?_
    refine c_seq ?_
    have henk : en_1.Ok := by rw [hen_1]; exact Tb.get_ok ot sd
    have hk4 := hsl (by rw [← hob_1]; assumption)
    rw [← hen_1] at hk4
    have okk := oc4 en_1.slot.toNat
    have hln : (Conn.recv ⟨(H.c en_1.slot.toNat).x, (H.c en_1.slot.toNat).s, (H.c en_1.slot.toNat).r⟩ mx).2.2.1.length ≤ 14 := Conn.recv_len _ mx
    have hsgs := Conn.sg_recv okk mx
    refine c_front (s_get (ks (ks (ks (ks (ks k0))))) (s_get k0 (s_get k0 (s_get k0 (s_get k0 (s_get k0 s_nil)))))) ?_
    refine c_open q (H.c) (k := en_1.slot.toNat) (by omega) ?_
    have hq2 := hq (by rw [← hob_1]; assumption)
    unfold Hst.cn at hq2
    rw [← hen_1] at hq2
    refine c_draw #[true, true, true, true, true, true, true, true, false, true, true, true, true, true, true, true] rfl (n := 16) rfl ?_
    refine d_T 0 rfl (by kernel_rfl) rfl (y_move rfl) rfl ?_
    refine d_T 1 rfl (by kernel_rfl) rfl (y_fa fl_66_5 rfl) rfl ?_
    refine d_ld 2 rfl (by kernel_rfl) one_3 rfl (fun x hx => hx) (ms (ms (ms (ms m0)))) En.g5 rfl ?_
    refine d_T 3 rfl (by kernel_rfl) rfl (y_nilck rfl) rfl ?_
    refine d_T 4 rfl (by kernel_rfl) rfl (y_fa fl_111_6 rfl) rfl ?_
    refine d_T 5 rfl (by kernel_rfl) rfl (y_ia ar_38 rfl rfl (by omega) (by omega)) rfl ?_
    refine d_ld 6 rfl (by kernel_rfl) one_37 rfl (fun x hx => hx) (ms (ms (ms (ms (ms m0))))) (Hs.gr_c _ (by omega) rfl) rfl ?_
    refine d_T 7 rfl (by kernel_rfl) rfl (y_move rfl) rfl ?_
    refine d_hard 8 rfl (by kernel_rfl) ?_
    refine o_call en_136 rfl (t136 _ (q.s en_1.slot.toNat) (q.r en_1.slot.toNat) ((H.c) en_1.slot.toNat).x _ _ _ okk (by assumption)) (s_take (s_take (s_take s_nil))) rfl ?_
    rintro v S' (⟨hd_1, rfl, rfl, he_1⟩ | ⟨hd_2, v_1, gv_1, gd_1, b_2, rfl, hl_1, rfl, hk_1⟩)
    · skip
      refine o_stop (fun h => nomatch h) ?_
      refine d_T 9 rfl (by kernel_rfl) rfl (y_move rfl) rfl ?_
      refine d_T 10 rfl (by kernel_rfl) rfl (y_extract rfl rfl) rfl ?_
      refine d_T 11 rfl (by kernel_rfl) rfl (y_extract rfl rfl) rfl ?_
      refine d_T 12 rfl (by kernel_rfl) rfl (y_extract rfl rfl) rfl ?_
      refine d_L 13 rfl (by kernel_rfl) rfl (y_assign rfl) rfl rfl ?_
      refine d_L 14 rfl (by kernel_rfl) rfl (y_assign rfl) rfl rfl ?_
      refine d_L 15 rfl (by kernel_rfl) rfl (y_assign rfl) rfl rfl ?_
      refine d_nil0 (by kernel_rfl) rfl ?_
      refine c_seq ?_
      refine c_seq ?_
      refine c_region ?_
      refine o_T (y_move rfl) rfl ?_
      refine o_T (y_neq rfl rfl) rfl ?_
      refine o_nil1 37 rfl rfl ?_
      refine c_cond rfl (fun h62 => ?_) (fun h62 => ?_)
      · try simp only [decide_eq_true_eq, decide_eq_false_iff_not, Bool.not_eq_true', Bool.not_eq_false', Int.not_lt, Int.not_le, Decidable.not_not, beq_iff_eq, bne_iff_ne, ne_eq, beq_eq_false_iff_ne] at h62
        refine c_seq ?_
        refine c_shut q (H.c) (k := en_1.slot.toNat) (by omega) (H.c en_1.slot.toNat) ?_
        refine c_row (g' := q.csG (H.c)) q0 (by rw [upA_same _ _ _ rfl]) ?_
        refine c_region ?_
        refine o_T (y_move rfl) rfl ?_
        refine o_L (y_assign rfl) rfl rfl ?_
        refine o_L (y_assign rfl) rfl rfl ?_
        refine o_L (y_assign rfl) rfl rfl ?_
        refine o_nil0 rfl ?_
        refine c_ret ?_
        refine fun aX wX heX hsX => ret3 Tryz.results98 heX rfl rfl rfl (s_get (ks (ks k0)) (s_get (ks (ks (ks k0))) (s_get (ks (ks (ks k0))) (s_get (ks (ks k0)) (s_get k0 s_nil))))) ?_
        subst hob_1
        subst hen_1
        have e1 : H.recvE sd mx = ((H.cn sd).recv mx).2.2.2 := by unfold Hst.recvE; rw [if_pos h58]
        exact .inl ⟨by rw [e1]; exact h62, by rw [e1]; rfl, rfl⟩
      · try simp only [decide_eq_true_eq, decide_eq_false_iff_not, Bool.not_eq_true', Bool.not_eq_false', Int.not_lt, Int.not_le, Decidable.not_not, beq_iff_eq, bne_iff_ne, ne_eq, beq_eq_false_iff_ne] at h62
        first | (exfalso; omega) | exact absurd rfl h62 | exact absurd h62 (by decide)
    · skip
      refine o_stop (fun h => nomatch h) ?_
      refine d_T 9 rfl (by kernel_rfl) rfl (y_move rfl) rfl ?_
      refine d_T 10 rfl (by kernel_rfl) rfl (y_extract rfl rfl) rfl ?_
      refine d_T 11 rfl (by kernel_rfl) rfl (y_extract rfl rfl) rfl ?_
      refine d_T 12 rfl (by kernel_rfl) rfl (y_extract rfl rfl) rfl ?_
      refine d_L 13 rfl (by kernel_rfl) rfl (y_assign rfl) rfl rfl ?_
      refine d_L 14 rfl (by kernel_rfl) rfl (y_assign rfl) rfl rfl ?_
      refine d_L 15 rfl (by kernel_rfl) rfl (y_assign rfl) rfl rfl ?_
      refine d_nil0 (by kernel_rfl) rfl ?_
      refine c_seq ?_
      refine c_seq ?_
      refine c_region ?_
      refine o_T (y_move rfl) rfl ?_
      refine o_T (y_neq rfl rfl) rfl ?_
      refine o_nil1 37 rfl rfl ?_
      refine c_cond rfl (fun h62 => ?_) (fun h62 => ?_)
      · try simp only [decide_eq_true_eq, decide_eq_false_iff_not, Bool.not_eq_true', Bool.not_eq_false', Int.not_lt, Int.not_le, Decidable.not_not, beq_iff_eq, bne_iff_ne, ne_eq, beq_eq_false_iff_ne] at h62
        first | (exfalso; omega) | exact absurd rfl h62 | exact absurd h62 (by decide)
      · try simp only [decide_eq_true_eq, decide_eq_false_iff_not, Bool.not_eq_true', Bool.not_eq_false', Int.not_lt, Int.not_le, Decidable.not_not, beq_iff_eq, bne_iff_ne, ne_eq, beq_eq_false_iff_ne] at h62
        refine c_skip ?_
        refine c_seq ?_
        refine c_front (s_get (ks (ks (ks k0))) (s_get (ks (ks (ks k0))) (s_get (ks (ks (ks k0))) (s_get (ks (ks (ks k0))) (s_get k0 (s_get k0 (s_get k0 (s_get k0 (s_get k0 (s_get k0 (s_get k0 (s_get k0 s_nil)))))))))))) ?_
        refine c_shut q (H.c) (k := en_1.slot.toNat) (by omega) (((H.c en_1.slot.toNat).recv mx).1) ?_
        refine c_region ?_
        refine o_T (y_move rfl) rfl ?_
        refine o_lbs0 (R := rowR) sz_51 rfl (fun v_2 gv_2 hl_2 => ?_)
        refine o_ldw ag_66 rfl (ms (ms (ms (ms (ms (ms m0)))))) rfl rfl ?_
        refine o_T (y_move rfl) rfl ?_
        refine o_call en_127 rfl (t127 _ _ _ _ _ _ _ _ _ _ _ _ _ (by assumption) (by assumption) hl_2 (by assumption) hl_1 (by assumption) (by first | exact len_bnd hfr hln | omega) (by first | exact lost_bnd hlo hln | omega)) (s_get (ks (ks (ks (ks (ks (ks (ks k0))))))) (s_get (ks (ks (ks (ks (ks (ks (ks (ks k0)))))))) (s_get (ks (ks (ks (ks (ks (ks (ks (ks k0)))))))) (s_get k0 (s_get k0 (s_get (ks (ks k0)) (s_get (ks (ks k0)) s_nil))))))) rfl ?_
        rintro v S' ⟨lk_1, dr_1, v_3, gv_3, gd_2, hlk_1, rfl, hl_3, rfl⟩
        refine o_L (y_assign rfl) rfl rfl ?_
        refine o_nil0 rfl ?_
        refine c_seq ?_
        refine c_region ?_
        refine o_T (y_move rfl) rfl ?_
        refine o_T (y_move rfl) rfl ?_
        refine o_L (y_assign rfl) rfl rfl ?_
        refine o_L (y_assign rfl) rfl rfl ?_
        refine o_L (y_assign rfl) rfl rfl ?_
        refine o_nil0 rfl ?_
        refine c_ret ?_
        refine fun aX wX heX hsX => ret3 Tryz.results98 heX rfl rfl rfl (s_get (ks (ks (ks (ks (ks (ks k0)))))) (s_get k0 (s_get k0 (s_get k0 (s_get k0 (s_get k0 (s_get (ks (ks k0)) (s_get k0 s_nil)))))))) ?_
        subst hob_1
        subst hen_1
        have e1 : H.recvE sd mx = ((H.cn sd).recv mx).2.2.2 := by unfold Hst.recvE; rw [if_pos h58]
        exact .inr ⟨by rw [e1]; assumption, _, _, _, _, _, _, by assumption, rfl, hl_3.to (List.nil_append _), rfl⟩

/-- (*e2e/host.Host).Connect -/
theorem t90 (q : HP) (H : Hst) (lk : Lk) (dr : Nat → Int) (rh rp : Int) (ok : H.Ok) (hlk : lk.addr = H.addr) (hlo : H.lost + 50 ≤ 1152921504606846976) (h5 : H.t.nextSd < 1152921504606846976) (h7 : (H.t.connect rh rp).2.1 = 0 → ((H.t.connect rh rp).2.2.get (H.t.connect rh rp).1).2 = 0 ∧ (0 ≤ (H.conEn rh rp).slot ∧ (H.conEn rh rp).slot < 4) ∧ (H.c (H.conEn rh rp).slot.toNat).x.st = 0) : Trip Tryz.prog 90 #[.pointer (some ⟨q.h, 0, none⟩), .int .i64 rh, .int .i64 rp] [[(q.h, .cells (q.hs H dr).enc 111 (0, 0))], [(q.l, .cells lk.enc 146 (0, 0))], [(q.p, .cells H.p.enc 153 (0, 0))], [(q.t, .cells H.t.enc 159 (0, 0))], q.csG H.c] (fun u S' => ((H.t.connect rh rp).2.1 ≠ 0 ∧ u = .tuple #[.int .i64 0, .slice none 0 0, .int .i64 (H.t.connect rh rp).2.1] ∧ S' = [[(q.h, .cells (q.hs (H.conH rh rp) dr).enc 111 (0, 0))], [(q.l, .cells lk.enc 146 (0, 0))], [(q.p, .cells ((H.conH rh rp)).p.enc 153 (0, 0))], [(q.t, .cells ((H.conH rh rp)).t.enc 159 (0, 0))], q.csG ((H.conH rh rp)).c]) ∨ ((H.t.connect rh rp).2.1 = 0 ∧ ∃ (lk' : Lk) (dr' : Nat → Int) (v' : Value) (gv' gd' : List Chunk), lk'.addr = H.addr ∧ u = .tuple #[.int .i64 (H.t.connect rh rp).1, v', .int .i64 0] ∧ Lst 81 1 rowR v' (H.conF rh rp) gv' gd' ∧ S' = [gv', gd', [(q.h, .cells (q.hs (H.conH rh rp) dr').enc 111 (0, 0))], [(q.l, .cells lk'.enc 146 (0, 0))], [(q.p, .cells ((H.conH rh rp)).p.enc 153 (0, 0))], [(q.t, .cells ((H.conH rh rp)).t.enc 159 (0, 0))], q.csG ((H.conH rh rp)).c])) := by
  have ok0 := ok
  have oa := ok.addr
  have oc := ok.clock
  have ol := ok.lost
  have op := ok.p
  have opa := ok.pa
  have oc4 := ok.c
  have ot := ok.t
  have hfr : ([] : List (List Int)).length ≤ 900000 := Nat.zero_le _
  refine fn_entry (args := [.pointer (some ⟨q.h, 0, none⟩), .int .i64 rh, .int .i64 rp]) Tryz.func90 rfl Tryz.ntmps90 rfl (fun w0 => ?_)
  refine c_seq ?_
  refine c_region ?_
  refine o_L (y_assign rfl) rfl rfl ?_
  refine o_L (y_assign rfl) rfl rfl ?_
  refine o_L (y_assign rfl) rfl rfl ?_
  refine o_nil0 rfl ?_
  refine c_seq ?_
  refine c_region ?_
  refine o_T (y_move rfl) rfl ?_
  refine o_T (y_nilck rfl) rfl ?_
  refine o_T (y_fa fl_111_7 rfl) rfl ?_
  refine o_ld one_39 rfl m0 Hs.g17 rfl ?_
  refine o_T (y_move rfl) rfl ?_
  refine o_T (y_move rfl) rfl ?_
  refine o_call en_130 rfl (t130 _ _ _ _ (by assumption) (by omega)) (s_skip (s_skip (s_skip (s_take s_nil)))) rfl ?_
  rintro v S' ⟨t_1, ht_1, kt_1, rfl, rfl⟩
  refine o_T (y_move rfl) rfl ?_
  refine o_T (y_extract rfl rfl) rfl ?_
  refine o_T (y_extract rfl rfl) rfl ?_
  refine o_L (y_assign rfl) rfl rfl ?_
  refine o_L (y_assign rfl) rfl rfl ?_
  refine o_nil0 rfl ?_
  refine c_seq ?_
  refine c_seq ?_
  refine c_region ?_
  refine o_T (y_move rfl) rfl ?_
  refine o_T (y_neq rfl rfl) rfl ?_
  refine o_nil1 25 rfl rfl ?_
  refine c_cond rfl (fun h26 => ?_) (fun h26 => ?_)
  · try simp only [decide_eq_true_eq, decide_eq_false_iff_not, Bool.not_eq_true', Bool.not_eq_false', Int.not_lt, Int.not_le, Decidable.not_not, beq_iff_eq, bne_iff_ne, ne_eq, beq_eq_false_iff_ne] at h26
    refine c_seq ?_
    refine c_region ?_
    refine o_T (y_move rfl) rfl ?_
    refine o_L (y_assign rfl) rfl rfl ?_
    refine o_L (y_assign rfl) rfl rfl ?_
    refine o_L (y_assign rfl) rfl rfl ?_
    refine o_nil0 rfl ?_
    refine c_ret ?_
    refine fun aX wX heX hsX => ret3 Tryz.results90 heX rfl rfl rfl (s_get (ks k0) (s_get (ks k0) (s_get (ks k0) (s_get k0 (s_get k0 s_nil))))) ?_
    subst ht_1
    have e2 : H.conH rh rp = { H with t := (H.t.connect rh rp).2.2 } := by unfold Hst.conH; rw [if_pos h26]
    have e3 : H.conF rh rp = [] := by unfold Hst.conF; rw [if_pos h26]
    rw [e2, e3]
    exact .inl ⟨h26, rfl, rfl⟩
  · try simp only [decide_eq_true_eq, decide_eq_false_iff_not, Bool.not_eq_true', Bool.not_eq_false', Int.not_lt, Int.not_le, Decidable.not_not, beq_iff_eq, bne_iff_ne, ne_eq, beq_eq_false_iff_ne] at h26
    refine c_skip ?_
    refine c_seq ?_
    obtain ⟨h9, h10, h11⟩ := h7 (by omega)
    unfold Hst.conEn at h10 h11
    refine c_region ?_
    refine o_T (y_move rfl) rfl ?_
    refine o_T (y_nilck rfl) rfl ?_
    refine o_T (y_fa fl_111_7 rfl) rfl ?_
    refine o_ld one_39 rfl (ms m0) Hs.g17 rfl ?_
    refine o_T (y_move rfl) rfl ?_
    refine o_call en_66 rfl (t66 _ _ _) (s_take s_nil) rfl ?_
    rintro v S' ⟨en_1, er_1, hen_1, her_1, rfl, rfl⟩
    refine o_T (y_move rfl) rfl ?_
    refine o_T (y_extract rfl rfl) rfl ?_
    refine o_T (y_extract rfl rfl) rfl ?_
    refine o_alloc ze_66 rfl rfl (fun b_1 => ?_)
    refine o_sta ag_66 rfl rfl rfl rfl r0 (setAll_full _ _ rfl) (of_ble rfl) ?_
    refine o_L (y_assign rfl) rfl rfl ?_
    refine o_nil0 rfl ?_
    refine c_seq ?_
    refine c_seq ?_
    rw [ht_1] at her_1 hen_1
    rw [← her_1] at h9
    rw [← hen_1] at h10 h11
    have henk : en_1.Ok := by rw [hen_1, ← ht_1]; exact Tb.get_ok kt_1 _
    refine c_region ?_
    refine o_T (y_move rfl) rfl ?_
    refine o_T (y_neq rfl rfl) rfl ?_
    refine o_nil1 37 rfl rfl ?_
    refine c_cond rfl (fun h30 => ?_) (fun h30 => ?_)
    · try simp only [decide_eq_true_eq, decide_eq_false_iff_not, Bool.not_eq_true', Bool.not_eq_false', Int.not_lt, Int.not_le, Decidable.not_not, beq_iff_eq, bne_iff_ne, ne_eq, beq_eq_false_iff_ne] at h30
      first | (exfalso; omega) | exact absurd rfl h30 | exact absurd h30 (by decide)
    · try simp only [decide_eq_true_eq, decide_eq_false_iff_not, Bool.not_eq_true', Bool.not_eq_false', Int.not_lt, Int.not_le, Decidable.not_not, beq_iff_eq, bne_iff_ne, ne_eq, beq_eq_false_iff_ne] at h30
      refine c_skip ?_
      refine c_seq ?_
      have okk := oc4 en_1.slot.toNat
      have hsgs := (Conn.ok_openA okk (H.clock % 256)).2
      have hln : (Conn.openA ⟨(H.c en_1.slot.toNat).x, (H.c en_1.slot.toNat).s, (H.c en_1.slot.toNat).r⟩ (H.clock % 256)).2.length ≤ 14 := Conn.openA_len _ _
      refine c_front (s_get (ks (ks (ks (ks (ks k0))))) (s_get k0 (s_get k0 (s_get k0 (s_get k0 (s_get k0 s_nil)))))) ?_
      refine c_open q (H.c) (k := en_1.slot.toNat) (by omega) ?_
      refine c_draw #[true, true, true, true, true, true, true, true, true, true, true, true, false, true, true, true, true, true] rfl (n := 18) rfl ?_
      refine d_T 0 rfl (by kernel_rfl) rfl (y_move rfl) rfl ?_
      refine d_T 1 rfl (by kernel_rfl) rfl (y_fa fl_66_5 rfl) rfl ?_
      refine d_ld 2 rfl (by kernel_rfl) one_3 rfl (fun x hx => hx) (ms (ms (ms (ms m0)))) En.g5 rfl ?_
      refine d_T 3 rfl (by kernel_rfl) rfl (y_nilck rfl) rfl ?_
      refine d_T 4 rfl (by kernel_rfl) rfl (y_fa fl_111_6 rfl) rfl ?_
      refine d_T 5 rfl (by kernel_rfl) rfl (y_ia ar_38 rfl rfl (by omega) (by omega)) rfl ?_
      refine d_ld 6 rfl (by kernel_rfl) one_37 rfl (fun x hx => hx) (ms (ms (ms (ms (ms (ms m0)))))) (Hs.gr_c _ (by omega) rfl) rfl ?_
      refine d_T 7 rfl (by kernel_rfl) rfl (y_move rfl) rfl ?_
      refine d_T 8 rfl (by kernel_rfl) rfl (y_nilck rfl) rfl ?_
      refine d_T 9 rfl (by kernel_rfl) rfl (y_fa fl_111_1 rfl) rfl ?_
      refine d_ld 10 rfl (by kernel_rfl) one_3 rfl (fun x hx => hx) (ms (ms (ms (ms (ms (ms m0)))))) Hs.g1 rfl ?_
      refine d_T 11 rfl (by kernel_rfl) rfl (y_rem rfl rfl (by decide) (tm (by omega))) rfl ?_
      refine d_hard 12 rfl (by kernel_rfl) ?_
      refine o_call en_131 rfl (t131 _ (q.s en_1.slot.toNat) (q.r en_1.slot.toNat) ((H.c) en_1.slot.toNat).x _ _ _ okk (by assumption)) (s_take (s_take (s_take s_nil))) rfl ?_
      rintro v S' ⟨v_1, gv_1, gd_1, rfl, hl_1, rfl, hk_1⟩
      have hk_1_s := hk_1.s
      have hk_1_r := hk_1.r
      obtain ⟨hk_1_x1, hk_1_x2, hk_1_x3, hk_1_x4, hk_1_x5, hk_1_x6, hk_1_x7⟩ := hk_1.x
      try dsimp only at hk_1_s hk_1_r
      refine o_stop (fun h => nomatch h) ?_
      refine d_T 13 rfl (by kernel_rfl) rfl (y_move rfl) rfl ?_
      refine d_T 14 rfl (by kernel_rfl) rfl (y_extract rfl rfl) rfl ?_
      refine d_T 15 rfl (by kernel_rfl) rfl (y_extract rfl rfl) rfl ?_
      refine d_L 16 rfl (by kernel_rfl) rfl (y_assign rfl) rfl rfl ?_
      refine d_L 17 rfl (by kernel_rfl) rfl (y_assign rfl) rfl rfl ?_
      refine d_nil0 (by kernel_rfl) rfl ?_
      refine c_seq ?_
      refine c_seq ?_
      refine c_region ?_
      refine o_T (y_move rfl) rfl ?_
      refine o_T (y_neq rfl rfl) rfl ?_
      refine o_nil1 56 rfl rfl ?_
      refine c_cond rfl (fun h34 => ?_) (fun h34 => ?_)
      · try simp only [decide_eq_true_eq, decide_eq_false_iff_not, Bool.not_eq_true', Bool.not_eq_false', Int.not_lt, Int.not_le, Decidable.not_not, beq_iff_eq, bne_iff_ne, ne_eq, beq_eq_false_iff_ne] at h34
        first | (exfalso; omega) | exact absurd rfl h34 | exact absurd h34 (by decide)
      · try simp only [decide_eq_true_eq, decide_eq_false_iff_not, Bool.not_eq_true', Bool.not_eq_false', Int.not_lt, Int.not_le, Decidable.not_not, beq_iff_eq, bne_iff_ne, ne_eq, beq_eq_false_iff_ne] at h34
        refine c_skip ?_
        refine c_seq ?_
        refine c_front (s_get (ks (ks k0)) (s_get (ks (ks k0)) (s_get (ks (ks k0)) (s_get (ks (ks k0)) (s_get k0 (s_get k0 (s_get k0 (s_get k0 (s_get k0 (s_get k0 (s_get k0 s_nil))))))))))) ?_
        refine c_shut q (H.c) (k := en_1.slot.toNat) (by omega) (((H.c en_1.slot.toNat).openA (H.clock % 256)).1) ?_
        refine c_region ?_
        refine o_T (y_move rfl) rfl ?_
        refine o_lbs0 (R := rowR) sz_51 rfl (fun v_2 gv_2 hl_2 => ?_)
        refine o_ldw ag_66 rfl (ms (ms (ms (ms (ms m0))))) rfl rfl ?_
        refine o_T (y_move rfl) rfl ?_
        refine o_call en_127 rfl (t127 _ _ _ _ _ _ _ _ _ _ _ _ _ (by assumption) (by assumption) hl_2 (by assumption) hl_1 (by assumption) (by first | exact len_bnd hfr hln | omega) (by first | exact lost_bnd hlo hln | omega)) (s_get (ks (ks (ks (ks (ks (ks (ks k0))))))) (s_get (ks (ks (ks (ks (ks (ks (ks k0))))))) (s_get (ks (ks (ks (ks (ks (ks (ks k0))))))) (s_get k0 (s_get k0 (s_get (ks k0) (s_get (ks k0) s_nil))))))) rfl ?_
        rintro v S' ⟨lk_1, dr_1, v_3, gv_3, gd_2, hlk_1, rfl, hl_3, rfl⟩
        refine o_L (y_assign rfl) rfl rfl ?_
        refine o_nil0 rfl ?_
        refine c_seq ?_
        refine c_region ?_
        refine o_T (y_move rfl) rfl ?_
        refine o_T (y_move rfl) rfl ?_
        refine o_L (y_assign rfl) rfl rfl ?_
        refine o_L (y_assign rfl) rfl rfl ?_
        refine o_L (y_assign rfl) rfl rfl ?_
        refine o_nil0 rfl ?_
        refine c_ret ?_
        refine fun aX wX heX hsX => ret3 Tryz.results90 heX rfl rfl rfl (s_get k0 (s_get k0 (s_get k0 (s_get k0 (s_get k0 (s_get (ks (ks k0)) (s_get k0 s_nil))))))) ?_
        subst her_1
        subst hen_1
        subst ht_1
        have hc0 : ¬ ¬ (H.t.connect rh rp).2.1 = 0 := by omega
        have e2 : H.conH rh rp = { H.emitH (H.conEn rh rp) ((H.c (H.conEn rh rp).slot.toNat).openA (H.clock % 256)).2 with c := upA H.c (H.conEn rh rp).slot.toNat ((H.c (H.conEn rh rp).slot.toNat).openA (H.clock % 256)).1, t := (H.t.connect rh rp).2.2 } := by unfold Hst.conH; rw [if_neg hc0]
        have e3 : H.conF rh rp = H.emitF (H.conEn rh rp) ((H.c (H.conEn rh rp).slot.toNat).openA (H.clock % 256)).2 := by unfold Hst.conF; rw [if_neg hc0]
        rw [e2, e3]
        exact .inr ⟨by omega, _, _, _, _, _, by assumption, rfl, hl_3.to (List.nil_append _), rfl⟩

end Go.Proofs.Qxb6500351aGreat
