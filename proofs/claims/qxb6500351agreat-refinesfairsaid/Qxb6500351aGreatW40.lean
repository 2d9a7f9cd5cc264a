/- MADE BY PROGRAM (tools/gen.py over tools/specs351.py): walks. -/
import Derived.Test.Qxb6500351aGreatFacts
import Derived.Test.Qxb6500351aGreatW39
set_option linter.unusedVariables false
set_option linter.unusedSimpArgs false
namespace Go.Proofs.Qxb6500351aGreat
open Go.Eng
set_option maxRecDepth 20000
set_option maxHeartbeats 4000000
/-- (*e2e/host.Host).shut -/
theorem t139 (q : HP) (H : Hst) (lk : Lk) (dr : Nat → Int) (lsd : Int) (ok : H.Ok) (hlk : lk.addr = H.addr) (hlo : H.lost + 200 ≤ 1152921504606846976) (hsl : ∀ sd, sd ∈ H.t.list → H.err sd = 0 → (H.ent sd).parent = lsd → 0 ≤ (H.ent sd).slot ∧ (H.ent sd).slot < 4) (hfo : H.t.FreeOk lsd) : Trip Tryz.prog 139 #[.pointer (some ⟨q.h, 0, none⟩), .int .i64 lsd] [[(q.h, .cells (q.hs H dr).enc 111 (0, 0))], [(q.l, .cells lk.enc 146 (0, 0))], [(q.p, .cells H.p.enc 153 (0, 0))], [(q.t, .cells H.t.enc 159 (0, 0))], q.csG H.c] (fun u S' => ∃ (lk' : Lk) (dr' : Nat → Int) (v' : Value) (gv' gd' : List Chunk), lk'.addr = H.addr ∧ u = v' ∧ Lst 81 1 rowR v' (H.shutF lsd H.t.list) gv' gd' ∧ S' = [gv', gd', [(q.h, .cells (q.hs (H.shutdown lsd) dr').enc 111 (0, 0))], [(q.l, .cells lk'.enc 146 (0, 0))], [(q.p, .cells ((H.shutdown lsd)).p.enc 153 (0, 0))], [(q.t, .cells ((H.shutdown lsd)).t.enc 159 (0, 0))], q.csG ((H.shutdown lsd)).c]) := by
  have ok0 := ok
  have oa := ok.addr
  have oc := ok.clock
  have ol := ok.lost
  have op := ok.p
  have opa := ok.pa
  have oc4 := ok.c
  have ot := ok.t
  have hll := H.t.list_len
  refine fn_entry (args := [.pointer (some ⟨q.h, 0, none⟩), .int .i64 lsd]) Tryz.func139 rfl Tryz.ntmps139 rfl (fun w0 => ?_)
  refine c_seq ?_
  refine c_region ?_
  refine o_L (y_assign rfl) rfl rfl ?_
  refine o_nil0 rfl ?_
  refine c_seq ?_
  refine c_region ?_
  refine o_lbs0 (R := rowR) sz_51 rfl (fun v_1 gv_1 hl_1 => ?_)
  refine o_L (y_assign rfl) rfl rfl ?_
  refine o_nil0 rfl ?_
  refine c_seq ?_
  refine c_region ?_
  refine o_T (y_move rfl) rfl ?_
  refine o_T (y_nilck rfl) rfl ?_
  refine o_T (y_fa fl_111_7 rfl) rfl ?_
  refine o_ld one_39 rfl (ms (ms m0)) Hs.g17 rfl ?_
  refine o_call en_65 rfl (t65 _ _) (s_skip (s_skip (s_skip (s_skip (s_skip (s_take s_nil)))))) rfl ?_
  rintro v S' ⟨b_1, rfl, rfl⟩
  refine o_L (y_assign rfl) rfl rfl ?_
  refine o_nil0 rfl ?_
  refine c_seq ?_
  refine c_seq ?_
  refine c_region ?_
  refine o_L (y_assign rfl) rfl rfl ?_
  refine o_nil0 rfl ?_
  refine c_block ?_
  refine c_loopG (ι := Nat × Hst × Lk × (Nat → Int) × Value × List Chunk × List Chunk) (fun i_ => [(7, .int .i64 (i_.1 : Int)), (5, i_.2.2.2.2.1)]) (fun i_ => [i_.2.2.2.2.2.1, i_.2.2.2.2.2.2, [(q.h, .cells (q.hs i_.2.1 i_.2.2.2.1).enc 111 (0, 0))], [(q.l, .cells i_.2.2.1.enc 146 (0, 0))], [(q.p, .cells i_.2.1.p.enc 153 (0, 0))], [(q.t, .cells i_.2.1.t.enc 159 (0, 0))], q.csG i_.2.1.c]) (fun i_ => i_.1 ≤ H.t.list.length ∧ i_.2.1.Ok ∧ i_.2.2.1.addr = i_.2.1.addr ∧ i_.2.1 = H.shutH lsd (H.t.list.take i_.1) ∧ i_.2.1.t = H.t ∧ Lst 81 1 rowR i_.2.2.2.2.1 (H.shutF lsd (H.t.list.take i_.1)) i_.2.2.2.2.2.1 i_.2.2.2.2.2.2 ∧ i_.2.1.lost ≤ H.lost + 14 * i_.1) (fun i_ => H.t.list.length - i_.1) (0, H, lk, dr, v_1, gv_1, []) (by exact ⟨Nat.zero_le _, ok0, hlk, rfl, rfl, hl_1, by show H.lost ≤ _; omega⟩) ⟨by first | rfl | exact gteI rfl (by omega), by first | rfl | exact gteI rfl (by omega), trivial⟩ (s_get (ks (ks k0)) (s_get (ks (ks k0)) (s_get (ks (ks k0)) (s_get (ks (ks k0)) (s_get (ks (ks k0)) (s_get (ks k0) (s_get (ks k0) (s_get k0 s_nil)))))))) ?_
  rintro ⟨k, Hk, lk2, dr2, v2, gv2, gd2⟩ ⟨g1, g2, g3, g4, g5, g6, g7⟩
  try dsimp only [List.cons_append, List.nil_append] at *
  refine c_seq ?_
  refine c_seq ?_
  refine c_region ?_
  refine o_T (y_move rfl) rfl ?_
  refine o_T (y_move rfl) rfl ?_
  refine o_T (y_len Tryz.underlying46 rfl) rfl ?_
  refine o_T (y_lss rfl rfl) rfl ?_
  refine o_nil1 20 rfl rfl ?_
  refine c_cond rfl (fun h73 => ?_) (fun h73 => ?_)
  · try simp only [decide_eq_true_eq, decide_eq_false_iff_not, Bool.not_eq_true', Bool.not_eq_false', Int.not_lt, Int.not_le, Decidable.not_not, beq_iff_eq, bne_iff_ne, ne_eq, beq_eq_false_iff_ne] at h73
    refine c_skip ?_
    refine c_seq ?_
    refine c_block ?_
    refine c_seq ?_
    refine c_draw #[true, true, true, true, true, true, true, true, false, true, true, true, true, false, true] rfl (n := 15) rfl ?_
    refine d_T 0 rfl (by kernel_rfl) rfl (y_move rfl) rfl ?_
    refine d_T 1 rfl (by kernel_rfl) rfl (y_nilck rfl) rfl ?_
    refine d_T 2 rfl (by kernel_rfl) rfl (y_fa fl_111_7 rfl) rfl ?_
    refine d_ld 3 rfl (by kernel_rfl) one_39 rfl (fun x hx => hx) (ms (ms m0)) Hs.g17 rfl ?_
    refine d_T 4 rfl (by kernel_rfl) rfl (y_move rfl) rfl ?_
    refine d_T 5 rfl (by kernel_rfl) rfl (y_move rfl) rfl ?_
    refine d_T 6 rfl (by kernel_rfl) rfl (y_is sl_46 rfl rfl (by omega) (by omega)) rfl ?_
    refine d_ld 7 rfl (by kernel_rfl) one_3 rfl (fun x hx => hx) (ms (ms (ms (ms (ms (ms (ms m0))))))) (iV_get k (by omega) (by omega)) rfl ?_
    refine d_hard2A 12 8 (l := [8, 12]) rfl rfl (by kernel_rfl) (by first | exact .inl rfl | exact .inr rfl) ze_66 rfl rfl (fun b_2 => ?_) ?_
    · skip
      refine d_hard 8 rfl (by kernel_rfl) ?_
      refine o_call en_66 rfl (t66 _ _ _) (s_skip (s_skip (s_skip (s_skip (s_skip (s_skip (s_take s_nil))))))) rfl ?_
      rintro v S' ⟨en_1, er_1, hen_1, her_1, rfl, rfl⟩
      refine o_stop (fun h => nomatch h) ?_
      refine d_T 9 rfl (by kernel_rfl) rfl (y_move rfl) rfl ?_
      refine d_T 10 rfl (by kernel_rfl) rfl (y_extract rfl rfl) rfl ?_
      refine d_T 11 rfl (by kernel_rfl) rfl (y_extract rfl rfl) rfl ?_
      refine d_hard 13 rfl (by kernel_rfl) ?_
      refine o_sta ag_66 rfl rfl rfl rfl (rs r0) (setAll_full _ _ rfl) (of_ble rfl) ?_
      refine o_stop (fun h => nomatch h) ?_
      refine d_L 14 rfl (by kernel_rfl) rfl (y_assign rfl) rfl rfl ?_
      refine d_nil0 (by kernel_rfl) rfl ?_
      refine c_seq ?_
      refine c_seq ?_
      have hsk := hsl _ (getD_mem (show k < H.t.list.length by omega))
      unfold Hst.err Hst.ent at hsk
      have e66 : H.t.get (H.t.list.getD k 0) = Hk.t.get (H.t.list.getD k 0) := by rw [g5]
      rw [e66, ← hen_1, ← her_1] at hsk
      refine c_region ?_
      refine o_T (y_move rfl) rfl ?_
      refine o_T (y_neq rfl rfl) rfl ?_
      refine o_T (y_move rfl) rfl ?_
      refine o_split 37 rfl (fun h75 => ?_) (fun h75 => ?_)
      · try simp only [decide_eq_true_eq, decide_eq_false_iff_not, Bool.not_eq_true', Bool.not_eq_false', Int.not_lt, Int.not_le, Decidable.not_not, beq_iff_eq, bne_iff_ne, ne_eq, beq_eq_false_iff_ne] at h75
        refine o_pass rfl rfl rfl rfl rfl ?_
        refine o_pass rfl rfl rfl rfl rfl ?_
        refine o_pass rfl rfl rfl rfl rfl ?_
        refine o_pass rfl rfl rfl rfl rfl ?_
        refine o_T (y_pickT rfl rfl) rfl ?_
        refine o_nil1 42 rfl rfl ?_
        refine c_condT rfl ?_
        refine c_exit ?_
        refine c_region ?_
        refine o_T (y_move rfl) rfl ?_
        refine o_T (y_add rfl rfl (w64 (by omega))) rfl ?_
        refine o_L (y_assign rfl) rfl rfl ?_
        refine o_nil0 rfl ?_
        subst her_1
        subst hen_1
        obtain ⟨hN, fN⟩ := Hst.shut_skip (H := Hk) (lsd := lsd) (sd := (H.t.list.getD k 0)) (fun z => by unfold Hst.err Hst.ent at z; first | exact absurd z.1 (by assumption) | exact absurd z.2.1 (by assumption) | omega)
        refine ⟨(k + 1, (Hk : Hst), _, _, _, gv2, _), ⟨⟨by omega, g2, g3, by rw [take_snoc _ _ (by omega), Hst.shutH_snoc, ← g4, hN], g5, by rw [take_snoc _ _ (by omega), Hst.shutF_snoc, ← g4, fN, List.append_nil]; exact g6, by dsimp only; omega⟩, by dsimp only; omega⟩, ⟨gteI rfl (by dsimp only; omega), rfl, trivial⟩, ⟨rfl, rfl⟩, _, ((s_get (ks (ks k0)) (s_get (ks (ks k0)) (s_get (ks (ks k0)) (s_get (ks (ks k0)) (s_get (ks (ks k0)) (s_get k0 (s_get (ks k0) (s_get (ks k0) s_nil)))))))))⟩
      · try simp only [decide_eq_true_eq, decide_eq_false_iff_not, Bool.not_eq_true', Bool.not_eq_false', Int.not_lt, Int.not_le, Decidable.not_not, beq_iff_eq, bne_iff_ne, ne_eq, beq_eq_false_iff_ne] at h75
        refine o_take rfl rfl rfl ?_
        refine o_T (y_fa fl_66_6 rfl) rfl ?_
        refine o_take rfl rfl rfl ?_
        refine o_ld one_3 rfl (ms m0) En.g6 rfl ?_
        refine o_take rfl rfl rfl ?_
        refine o_T (y_move rfl) rfl ?_
        refine o_take rfl rfl rfl ?_
        refine o_T (y_neq rfl rfl) rfl ?_
        refine o_T (y_pickF rfl rfl) rfl ?_
        refine o_nil1 42 rfl rfl ?_
        refine c_cond rfl (fun h75_1 => ?_) (fun h75_1 => ?_)
        · try simp only [decide_eq_true_eq, decide_eq_false_iff_not, Bool.not_eq_true', Bool.not_eq_false', Int.not_lt, Int.not_le, Decidable.not_not, beq_iff_eq, bne_iff_ne, ne_eq, beq_eq_false_iff_ne] at h75_1
          refine c_exit ?_
          refine c_region ?_
          refine o_T (y_move rfl) rfl ?_
          refine o_T (y_add rfl rfl (w64 (by omega))) rfl ?_
          refine o_L (y_assign rfl) rfl rfl ?_
          refine o_nil0 rfl ?_
          subst her_1
          subst hen_1
          obtain ⟨hN, fN⟩ := Hst.shut_skip (H := Hk) (lsd := lsd) (sd := (H.t.list.getD k 0)) (fun z => by unfold Hst.err Hst.ent at z; first | exact absurd z.1 (by assumption) | exact absurd z.2.1 (by assumption) | omega)
          refine ⟨(k + 1, (Hk : Hst), _, _, _, gv2, _), ⟨⟨by omega, g2, g3, by rw [take_snoc _ _ (by omega), Hst.shutH_snoc, ← g4, hN], g5, by rw [take_snoc _ _ (by omega), Hst.shutF_snoc, ← g4, fN, List.append_nil]; exact g6, by dsimp only; omega⟩, by dsimp only; omega⟩, ⟨gteI rfl (by dsimp only; omega), rfl, trivial⟩, ⟨rfl, rfl⟩, _, ((s_get (ks (ks k0)) (s_get (ks (ks k0)) (s_get (ks (ks k0)) (s_get (ks (ks k0)) (s_get (ks (ks k0)) (s_get k0 (s_get (ks k0) (s_get (ks k0) s_nil)))))))))⟩
        · try simp only [decide_eq_true_eq, decide_eq_false_iff_not, Bool.not_eq_true', Bool.not_eq_false', Int.not_lt, Int.not_le, Decidable.not_not, beq_iff_eq, bne_iff_ne, ne_eq, beq_eq_false_iff_ne] at h75_1
          refine c_skip ?_
          refine c_seq ?_
          have hk4 := hsk (by omega) (by omega)
          have henk : en_1.Ok := by rw [hen_1]; exact Tb.get_ok g2.t _
          have okk := g2.c en_1.slot.toNat
          have hsgs := Conn.sg_abort okk
          have hln : (Conn.abort ⟨(Hk.c en_1.slot.toNat).x, (Hk.c en_1.slot.toNat).s, (Hk.c en_1.slot.toNat).r⟩).2.1.length ≤ 14 := Conn.abort_len _
          have hlo1 := hlo
          have hfr : (H.shutF lsd (H.t.list.take k)).length ≤ 900000 := Nat.le_trans (Hst.shutF_len _ _ _) (by rw [List.length_take]; omega)
          have hlo : Hk.lost + 50 ≤ 1152921504606846976 := by omega
          refine c_front (s_get (ks (ks (ks (ks (ks (ks (ks k0))))))) (s_get k0 (s_get k0 (s_get k0 (s_get k0 (s_get k0 (s_get k0 (s_get k0 (s_get k0 s_nil))))))))) ?_
          refine c_open q (Hk.c) (k := en_1.slot.toNat) (by omega) ?_
          refine c_draw #[true, true, true, true, true, true, true, false, true, true, true, true, true] rfl (n := 13) rfl ?_
          refine d_T 0 rfl (by kernel_rfl) rfl (y_move rfl) rfl ?_
          refine d_T 1 rfl (by kernel_rfl) rfl (y_fa fl_66_5 rfl) rfl ?_
          refine d_ld 2 rfl (by kernel_rfl) one_3 rfl (fun x hx => hx) (ms (ms (ms (ms (ms m0))))) En.g5 rfl ?_
          refine d_T 3 rfl (by kernel_rfl) rfl (y_nilck rfl) rfl ?_
          refine d_T 4 rfl (by kernel_rfl) rfl (y_fa fl_111_6 rfl) rfl ?_
          refine d_T 5 rfl (by kernel_rfl) rfl (y_ia ar_38 rfl rfl (by omega) (by omega)) rfl ?_
          refine d_ld 6 rfl (by kernel_rfl) one_37 rfl (fun x hx => hx) (ms (ms (ms (ms (ms (ms (ms (ms m0)))))))) (Hs.gr_c _ (by omega) rfl) rfl ?_
          refine d_hard 7 rfl (by kernel_rfl) ?_
          refine o_call en_140 rfl (t140 _ (q.s en_1.slot.toNat) (q.r en_1.slot.toNat) ((Hk.c) en_1.slot.toNat).x _ _ okk) (s_take (s_take (s_take s_nil))) rfl ?_
          rintro v S' (⟨hd_1, rfl, rfl, he_1⟩ | ⟨hd_2, v_2, gv_2, gd_1, rfl, hl_2, rfl, hk_1⟩)
          · skip
            refine o_stop (fun h => nomatch h) ?_
            refine d_T 8 rfl (by kernel_rfl) rfl (y_move rfl) rfl ?_
            refine d_T 9 rfl (by kernel_rfl) rfl (y_extract rfl rfl) rfl ?_
            refine d_T 10 rfl (by kernel_rfl) rfl (y_extract rfl rfl) rfl ?_
            refine d_L 11 rfl (by kernel_rfl) rfl (y_assign rfl) rfl rfl ?_
            refine d_L 12 rfl (by kernel_rfl) rfl (y_assign rfl) rfl rfl ?_
            refine d_nil0 (by kernel_rfl) rfl ?_
            refine c_seq ?_
            refine c_region ?_
            refine o_T (y_move rfl) rfl ?_
            refine o_T (y_eql rfl rfl) rfl ?_
            refine o_nil1 55 rfl rfl ?_
            refine c_cond rfl (fun h79 => ?_) (fun h79 => ?_)
            · try simp only [decide_eq_true_eq, decide_eq_false_iff_not, Bool.not_eq_true', Bool.not_eq_false', Int.not_lt, Int.not_le, Decidable.not_not, beq_iff_eq, bne_iff_ne, ne_eq, beq_eq_false_iff_ne] at h79
              first | (exfalso; omega) | exact absurd rfl h79 | exact absurd h79 (by decide)
            · try simp only [decide_eq_true_eq, decide_eq_false_iff_not, Bool.not_eq_true', Bool.not_eq_false', Int.not_lt, Int.not_le, Decidable.not_not, beq_iff_eq, bne_iff_ne, ne_eq, beq_eq_false_iff_ne] at h79
              refine c_skip ?_
              refine c_shut q (Hk.c) (k := en_1.slot.toNat) (by omega) (Hk.c en_1.slot.toNat) ?_
              refine c_row (g' := q.csG (Hk.c)) q0 (by rw [upA_same _ _ _ rfl]) ?_
              refine c_region ?_
              refine o_T (y_move rfl) rfl ?_
              refine o_T (y_add rfl rfl (w64 (by omega))) rfl ?_
              refine o_L (y_assign rfl) rfl rfl ?_
              refine o_nil0 rfl ?_
              subst her_1
              subst hen_1
              obtain ⟨hN, fN⟩ := Hst.shut_skip (H := Hk) (lsd := lsd) (sd := (H.t.list.getD k 0)) (fun z => absurd z.2.2 (by assumption))
              refine ⟨(k + 1, (Hk : Hst), _, _, _, gv2, _), ⟨⟨by omega, g2, g3, by rw [take_snoc _ _ (by omega), Hst.shutH_snoc, ← g4, hN], g5, by rw [take_snoc _ _ (by omega), Hst.shutF_snoc, ← g4, fN, List.append_nil]; exact g6, by dsimp only; omega⟩, by dsimp only; omega⟩, ⟨gteI rfl (by dsimp only; omega), rfl, trivial⟩, ⟨rfl, rfl⟩, _, ((s_get (ks (ks (ks k0))) (s_get (ks (ks (ks k0))) (s_get (ks (ks (ks k0))) (s_get (ks (ks (ks k0))) (s_get (ks (ks (ks k0))) (s_get (ks k0) (s_get k0 (s_get (ks k0) s_nil)))))))))⟩
          · skip
            refine o_stop (fun h => nomatch h) ?_
            refine d_T 8 rfl (by kernel_rfl) rfl (y_move rfl) rfl ?_
            refine d_T 9 rfl (by kernel_rfl) rfl (y_extract rfl rfl) rfl ?_
            refine d_T 10 rfl (by kernel_rfl) rfl (y_extract rfl rfl) rfl ?_
            refine d_L 11 rfl (by kernel_rfl) rfl (y_assign rfl) rfl rfl ?_
            refine d_L 12 rfl (by kernel_rfl) rfl (y_assign rfl) rfl rfl ?_
            refine d_nil0 (by kernel_rfl) rfl ?_
            refine c_seq ?_
            refine c_region ?_
            refine o_T (y_move rfl) rfl ?_
            refine o_T (y_eql rfl rfl) rfl ?_
            refine o_nil1 55 rfl rfl ?_
            refine c_cond rfl (fun h79 => ?_) (fun h79 => ?_)
            · try simp only [decide_eq_true_eq, decide_eq_false_iff_not, Bool.not_eq_true', Bool.not_eq_false', Int.not_lt, Int.not_le, Decidable.not_not, beq_iff_eq, bne_iff_ne, ne_eq, beq_eq_false_iff_ne] at h79
              refine c_region ?_
              refine o_T (y_move rfl) rfl ?_
              refine o_T (y_move rfl) rfl ?_
              refine o_ldw ag_66 rfl (ms (ms (ms (ms (ms (ms (ms m0))))))) rfl rfl ?_
              refine o_T (y_move rfl) rfl ?_
              refine o_call en_127 rfl (t127 _ _ _ _ _ _ _ _ _ _ _ _ _ (by assumption) (by assumption) g6 (by assumption) hl_2 (by assumption) (by first | exact len_bnd hfr hln | omega) (by first | exact lost_bnd hlo hln | omega)) (s_get (ks (ks (ks (ks (ks (ks (ks (ks (ks (ks k0)))))))))) (s_get (ks (ks (ks (ks (ks (ks (ks (ks (ks (ks k0)))))))))) (s_get (ks (ks (ks (ks (ks (ks (ks (ks (ks (ks k0)))))))))) (s_get (ks (ks (ks (ks (ks (ks (ks (ks k0)))))))) (s_get (ks (ks (ks (ks (ks (ks (ks (ks k0)))))))) (s_get k0 (s_get k0 s_nil))))))) rfl ?_
              rintro v S' ⟨lk_1, dr_1, v_3, gv_3, gd_2, hlk_1, rfl, hl_3, rfl⟩
              refine o_L (y_assign rfl) rfl rfl ?_
              refine o_nil0 rfl ?_
              refine c_front (s_get (ks (ks (ks (ks (ks k0))))) (s_get (ks (ks (ks (ks (ks k0))))) (s_get (ks (ks (ks (ks (ks k0))))) (s_get (ks (ks (ks (ks (ks k0))))) (s_get k0 (s_get k0 (s_get k0 (s_get k0 (s_get k0 (s_get k0 (s_get k0 (s_get k0 s_nil)))))))))))) ?_
              refine c_shut q (Hk.c) (k := en_1.slot.toNat) (by omega) (((Hk.c en_1.slot.toNat).abort).1) ?_
              refine c_region ?_
              refine o_T (y_move rfl) rfl ?_
              refine o_T (y_add rfl rfl (w64 (by omega))) rfl ?_
              refine o_L (y_assign rfl) rfl rfl ?_
              refine o_nil0 rfl ?_
              subst her_1
              subst hen_1
              obtain ⟨hN, fN⟩ := Hst.shut_go (H := Hk) (lsd := lsd) (sd := (H.t.list.getD k 0)) ⟨by unfold Hst.err; omega, by unfold Hst.ent; omega, by assumption⟩
              have okA := Hst.ok_aft g2 (H.t.list.getD k 0) (c := (Hk.cn (H.t.list.getD k 0)).abort.1) (by assumption) (segs := (Hk.cn (H.t.list.getD k 0)).abort.2.1) (by have := Conn.abort_len (Hk.cn (H.t.list.getD k 0)); omega)
              have loA := Hst.aft_lost Hk (H.t.list.getD k 0) (Hk.cn (H.t.list.getD k 0)).abort.1 (Hk.cn (H.t.list.getD k 0)).abort.2.1
              have lnA := Conn.abort_len (Hk.cn (H.t.list.getD k 0))
              have adA := Hst.aft_addr Hk (H.t.list.getD k 0) (Hk.cn (H.t.list.getD k 0)).abort.1 (Hk.cn (H.t.list.getD k 0)).abort.2.1
              refine ⟨(k + 1, (Hk.aft (H.t.list.getD k 0) (Hk.cn (H.t.list.getD k 0)).abort.1 (Hk.cn (H.t.list.getD k 0)).abort.2.1 : Hst), _, _, _, gv_3, _), ⟨⟨by omega, okA, by dsimp only; rw [adA]; assumption, by rw [take_snoc _ _ (by omega), Hst.shutH_snoc, ← g4, hN], g5, by rw [take_snoc _ _ (by omega), Hst.shutF_snoc, ← g4, fN]; exact hl_3, by dsimp only; omega⟩, by dsimp only; omega⟩, ⟨gteI rfl (by dsimp only; omega), rfl, trivial⟩, ⟨rfl, rfl⟩, _, ((s_get (ks k0) (s_get (ks k0) (s_get (ks k0) (s_get (ks k0) (s_get (ks k0) (s_get (ks k0) (s_get k0 (s_get (ks k0) s_nil)))))))))⟩
            · try simp only [decide_eq_true_eq, decide_eq_false_iff_not, Bool.not_eq_true', Bool.not_eq_false', Int.not_lt, Int.not_le, Decidable.not_not, beq_iff_eq, bne_iff_ne, ne_eq, beq_eq_false_iff_ne] at h79
              first | (exfalso; omega) | exact absurd rfl h79 | exact absurd h79 (by decide)
    · skip
      refine o_call en_66 rfl (t66 _ _ _) (s_skip (s_skip (s_skip (s_skip (s_skip (s_take s_nil)))))) rfl ?_
      rintro v S' ⟨en_2, er_2, hen_2, her_2, rfl, rfl⟩
      refine o_stop (fun h => nomatch h) ?_
      refine d_T 9 rfl (by kernel_rfl) rfl (y_move rfl) rfl ?_
      refine d_T 10 rfl (by kernel_rfl) rfl (y_extract rfl rfl) rfl ?_
      refine d_T 11 rfl (by kernel_rfl) rfl (y_extract rfl rfl) rfl ?_
      refine d_hardA 12 rfl (by kernel_rfl) ze_66 rfl rfl (fun b_3 => ?_)
      refine d_hard 13 rfl (by kernel_rfl) ?_
      refine o_sta ag_66 rfl rfl rfl rfl r0 (setAll_full _ _ rfl) (of_ble rfl) ?_
      refine o_stop (fun h => nomatch h) ?_
      refine d_L 14 rfl (by kernel_rfl) rfl (y_assign rfl) rfl rfl ?_
      refine d_nil0 (by kernel_rfl) rfl ?_
      refine c_seq ?_
      refine c_seq ?_
      have hsk := hsl _ (getD_mem (show k < H.t.list.length by omega))
      unfold Hst.err Hst.ent at hsk
      have e66 : H.t.get (H.t.list.getD k 0) = Hk.t.get (H.t.list.getD k 0) := by rw [g5]
      rw [e66, ← hen_2, ← her_2] at hsk
      refine c_region ?_
      refine o_T (y_move rfl) rfl ?_
      refine o_T (y_neq rfl rfl) rfl ?_
      refine o_T (y_move rfl) rfl ?_
      refine o_split 37 rfl (fun h75 => ?_) (fun h75 => ?_)
      · try simp only [decide_eq_true_eq, decide_eq_false_iff_not, Bool.not_eq_true', Bool.not_eq_false', Int.not_lt, Int.not_le, Decidable.not_not, beq_iff_eq, bne_iff_ne, ne_eq, beq_eq_false_iff_ne] at h75
        refine o_pass rfl rfl rfl rfl rfl ?_
        refine o_pass rfl rfl rfl rfl rfl ?_
        refine o_pass rfl rfl rfl rfl rfl ?_
        refine o_pass rfl rfl rfl rfl rfl ?_
        refine o_T (y_pickT rfl rfl) rfl ?_
        refine o_nil1 42 rfl rfl ?_
        refine c_condT rfl ?_
        refine c_exit ?_
        refine c_region ?_
        refine o_T (y_move rfl) rfl ?_
        refine o_T (y_add rfl rfl (w64 (by omega))) rfl ?_
        refine o_L (y_assign rfl) rfl rfl ?_
        refine o_nil0 rfl ?_
        subst her_2
        subst hen_2
        obtain ⟨hN, fN⟩ := Hst.shut_skip (H := Hk) (lsd := lsd) (sd := (H.t.list.getD k 0)) (fun z => by unfold Hst.err Hst.ent at z; first | exact absurd z.1 (by assumption) | exact absurd z.2.1 (by assumption) | omega)
        refine ⟨(k + 1, (Hk : Hst), _, _, _, gv2, _), ⟨⟨by omega, g2, g3, by rw [take_snoc _ _ (by omega), Hst.shutH_snoc, ← g4, hN], g5, by rw [take_snoc _ _ (by omega), Hst.shutF_snoc, ← g4, fN, List.append_nil]; exact g6, by dsimp only; omega⟩, by dsimp only; omega⟩, ⟨gteI rfl (by dsimp only; omega), rfl, trivial⟩, ⟨rfl, rfl⟩, _, ((s_get (ks (ks k0)) (s_get (ks (ks k0)) (s_get (ks (ks k0)) (s_get (ks (ks k0)) (s_get (ks (ks k0)) (s_get (ks k0) (s_get (ks k0) (s_get (ks k0) s_nil)))))))))⟩
      · try simp only [decide_eq_true_eq, decide_eq_false_iff_not, Bool.not_eq_true', Bool.not_eq_false', Int.not_lt, Int.not_le, Decidable.not_not, beq_iff_eq, bne_iff_ne, ne_eq, beq_eq_false_iff_ne] at h75
        refine o_take rfl rfl rfl ?_
        refine o_T (y_fa fl_66_6 rfl) rfl ?_
        refine o_take rfl rfl rfl ?_
        refine o_ld one_3 rfl m0 En.g6 rfl ?_
        refine o_take rfl rfl rfl ?_
        refine o_T (y_move rfl) rfl ?_
        refine o_take rfl rfl rfl ?_
        refine o_T (y_neq rfl rfl) rfl ?_
        refine o_T (y_pickF rfl rfl) rfl ?_
        refine o_nil1 42 rfl rfl ?_
        refine c_cond rfl (fun h75_1 => ?_) (fun h75_1 => ?_)
        · try simp only [decide_eq_true_eq, decide_eq_false_iff_not, Bool.not_eq_true', Bool.not_eq_false', Int.not_lt, Int.not_le, Decidable.not_not, beq_iff_eq, bne_iff_ne, ne_eq, beq_eq_false_iff_ne] at h75_1
          refine c_exit ?_
          refine c_region ?_
          refine o_T (y_move rfl) rfl ?_
          refine o_T (y_add rfl rfl (w64 (by omega))) rfl ?_
          refine o_L (y_assign rfl) rfl rfl ?_
          refine o_nil0 rfl ?_
          subst her_2
          subst hen_2
          obtain ⟨hN, fN⟩ := Hst.shut_skip (H := Hk) (lsd := lsd) (sd := (H.t.list.getD k 0)) (fun z => by unfold Hst.err Hst.ent at z; first | exact absurd z.1 (by assumption) | exact absurd z.2.1 (by assumption) | omega)
          refine ⟨(k + 1, (Hk : Hst), _, _, _, gv2, _), ⟨⟨by omega, g2, g3, by rw [take_snoc _ _ (by omega), Hst.shutH_snoc, ← g4, hN], g5, by rw [take_snoc _ _ (by omega), Hst.shutF_snoc, ← g4, fN, List.append_nil]; exact g6, by dsimp only; omega⟩, by dsimp only; omega⟩, ⟨gteI rfl (by dsimp only; omega), rfl, trivial⟩, ⟨rfl, rfl⟩, _, ((s_get (ks (ks k0)) (s_get (ks (ks k0)) (s_get (ks (ks k0)) (s_get (ks (ks k0)) (s_get (ks (ks k0)) (s_get (ks k0) (s_get (ks k0) (s_get (ks k0) s_nil)))))))))⟩
        · try simp only [decide_eq_true_eq, decide_eq_false_iff_not, Bool.not_eq_true', Bool.not_eq_false', Int.not_lt, Int.not_le, Decidable.not_not, beq_iff_eq, bne_iff_ne, ne_eq, beq_eq_false_iff_ne] at h75_1
          refine c_skip ?_
          refine c_seq ?_
          have hk4 := hsk (by omega) (by omega)
          have henk : en_2.Ok := by rw [hen_2]; exact Tb.get_ok g2.t _
          have okk := g2.c en_2.slot.toNat
          have hsgs := Conn.sg_abort okk
          have hln : (Conn.abort ⟨(Hk.c en_2.slot.toNat).x, (Hk.c en_2.slot.toNat).s, (Hk.c en_2.slot.toNat).r⟩).2.1.length ≤ 14 := Conn.abort_len _
          have hlo1 := hlo
          have hfr : (H.shutF lsd (H.t.list.take k)).length ≤ 900000 := Nat.le_trans (Hst.shutF_len _ _ _) (by rw [List.length_take]; omega)
          have hlo : Hk.lost + 50 ≤ 1152921504606846976 := by omega
          refine c_front (s_get (ks (ks (ks (ks (ks (ks (ks k0))))))) (s_get k0 (s_get k0 (s_get k0 (s_get k0 (s_get k0 (s_get k0 (s_get k0 (s_get k0 s_nil))))))))) ?_
          refine c_open q (Hk.c) (k := en_2.slot.toNat) (by omega) ?_
          refine c_draw #[true, true, true, true, true, true, true, false, true, true, true, true, true] rfl (n := 13) rfl ?_
          refine d_T 0 rfl (by kernel_rfl) rfl (y_move rfl) rfl ?_
          refine d_T 1 rfl (by kernel_rfl) rfl (y_fa fl_66_5 rfl) rfl ?_
          refine d_ld 2 rfl (by kernel_rfl) one_3 rfl (fun x hx => hx) (ms (ms (ms (ms m0)))) En.g5 rfl ?_
          refine d_T 3 rfl (by kernel_rfl) rfl (y_nilck rfl) rfl ?_
          refine d_T 4 rfl (by kernel_rfl) rfl (y_fa fl_111_6 rfl) rfl ?_
          refine d_T 5 rfl (by kernel_rfl) rfl (y_ia ar_38 rfl rfl (by omega) (by omega)) rfl ?_
          refine d_ld 6 rfl (by kernel_rfl) one_37 rfl (fun x hx => hx) (ms (ms (ms (ms (ms (ms (ms (ms m0)))))))) (Hs.gr_c _ (by omega) rfl) rfl ?_
          refine d_hard 7 rfl (by kernel_rfl) ?_
          refine o_call en_140 rfl (t140 _ (q.s en_2.slot.toNat) (q.r en_2.slot.toNat) ((Hk.c) en_2.slot.toNat).x _ _ okk) (s_take (s_take (s_take s_nil))) rfl ?_
          rintro v S' (⟨hd_3, rfl, rfl, he_2⟩ | ⟨hd_4, v_4, gv_4, gd_3, rfl, hl_4, rfl, hk_2⟩)
          · skip
            refine o_stop (fun h => nomatch h) ?_
            refine d_T 8 rfl (by kernel_rfl) rfl (y_move rfl) rfl ?_
            refine d_T 9 rfl (by kernel_rfl) rfl (y_extract rfl rfl) rfl ?_
            refine d_T 10 rfl (by kernel_rfl) rfl (y_extract rfl rfl) rfl ?_
            refine d_L 11 rfl (by kernel_rfl) rfl (y_assign rfl) rfl rfl ?_
            refine d_L 12 rfl (by kernel_rfl) rfl (y_assign rfl) rfl rfl ?_
            refine d_nil0 (by kernel_rfl) rfl ?_
            refine c_seq ?_
            refine c_region ?_
            refine o_T (y_move rfl) rfl ?_
            refine o_T (y_eql rfl rfl) rfl ?_
            refine o_nil1 55 rfl rfl ?_
            refine c_cond rfl (fun h79 => ?_) (fun h79 => ?_)
            · try simp only [decide_eq_true_eq, decide_eq_false_iff_not, Bool.not_eq_true', Bool.not_eq_false', Int.not_lt, Int.not_le, Decidable.not_not, beq_iff_eq, bne_iff_ne, ne_eq, beq_eq_false_iff_ne] at h79
              first | (exfalso; omega) | exact absurd rfl h79 | exact absurd h79 (by decide)
            · try simp only [decide_eq_true_eq, decide_eq_false_iff_not, Bool.not_eq_true', Bool.not_eq_false', Int.not_lt, Int.not_le, Decidable.not_not, beq_iff_eq, bne_iff_ne, ne_eq, beq_eq_false_iff_ne] at h79
              refine c_skip ?_
              refine c_shut q (Hk.c) (k := en_2.slot.toNat) (by omega) (Hk.c en_2.slot.toNat) ?_
              refine c_row (g' := q.csG (Hk.c)) q0 (by rw [upA_same _ _ _ rfl]) ?_
              refine c_region ?_
              refine o_T (y_move rfl) rfl ?_
              refine o_T (y_add rfl rfl (w64 (by omega))) rfl ?_
              refine o_L (y_assign rfl) rfl rfl ?_
              refine o_nil0 rfl ?_
              subst her_2
              subst hen_2
              obtain ⟨hN, fN⟩ := Hst.shut_skip (H := Hk) (lsd := lsd) (sd := (H.t.list.getD k 0)) (fun z => absurd z.2.2 (by assumption))
              refine ⟨(k + 1, (Hk : Hst), _, _, _, gv2, _), ⟨⟨by omega, g2, g3, by rw [take_snoc _ _ (by omega), Hst.shutH_snoc, ← g4, hN], g5, by rw [take_snoc _ _ (by omega), Hst.shutF_snoc, ← g4, fN, List.append_nil]; exact g6, by dsimp only; omega⟩, by dsimp only; omega⟩, ⟨gteI rfl (by dsimp only; omega), rfl, trivial⟩, ⟨rfl, rfl⟩, _, ((s_get (ks (ks (ks k0))) (s_get (ks (ks (ks k0))) (s_get (ks (ks (ks k0))) (s_get (ks (ks (ks k0))) (s_get (ks (ks (ks k0))) (s_get (ks (ks k0)) (s_get k0 (s_get (ks k0) s_nil)))))))))⟩
          · skip
            refine o_stop (fun h => nomatch h) ?_
            refine d_T 8 rfl (by kernel_rfl) rfl (y_move rfl) rfl ?_
            refine d_T 9 rfl (by kernel_rfl) rfl (y_extract rfl rfl) rfl ?_
            refine d_T 10 rfl (by kernel_rfl) rfl (y_extract rfl rfl) rfl ?_
            refine d_L 11 rfl (by kernel_rfl) rfl (y_assign rfl) rfl rfl ?_
            refine d_L 12 rfl (by kernel_rfl) rfl (y_assign rfl) rfl rfl ?_
            refine d_nil0 (by kernel_rfl) rfl ?_
            refine c_seq ?_
            refine c_region ?_
            refine o_T (y_move rfl) rfl ?_
            refine o_T (y_eql rfl rfl) rfl ?_
            refine o_nil1 55 rfl rfl ?_
            refine c_cond rfl (fun h79 => ?_) (fun h79 => ?_)
            · try simp only [decide_eq_true_eq, decide_eq_false_iff_not, Bool.not_eq_true', Bool.not_eq_false', Int.not_lt, Int.not_le, Decidable.not_not, beq_iff_eq, bne_iff_ne, ne_eq, beq_eq_false_iff_ne] at h79
              refine c_region ?_
              refine o_T (y_move rfl) rfl ?_
              refine o_T (y_move rfl) rfl ?_
              refine o_ldw ag_66 rfl (ms (ms (ms (ms (ms (ms m0)))))) rfl rfl ?_
              refine o_T (y_move rfl) rfl ?_
              refine o_call en_127 rfl (t127 _ _ _ _ _ _ _ _ _ _ _ _ _ (by assumption) (by assumption) g6 (by assumption) hl_4 (by assumption) (by first | exact len_bnd hfr hln | omega) (by first | exact lost_bnd hlo hln | omega)) (s_get (ks (ks (ks (ks (ks (ks (ks (ks (ks (ks k0)))))))))) (s_get (ks (ks (ks (ks (ks (ks (ks (ks (ks (ks k0)))))))))) (s_get (ks (ks (ks (ks (ks (ks (ks (ks (ks (ks k0)))))))))) (s_get (ks (ks (ks (ks (ks (ks (ks (ks k0)))))))) (s_get (ks (ks (ks (ks (ks (ks (ks (ks k0)))))))) (s_get k0 (s_get k0 s_nil))))))) rfl ?_
              rintro v S' ⟨lk_2, dr_2, v_5, gv_5, gd_4, hlk_2, rfl, hl_5, rfl⟩
              refine o_L (y_assign rfl) rfl rfl ?_
              refine o_nil0 rfl ?_
              refine c_front (s_get (ks (ks (ks (ks (ks k0))))) (s_get (ks (ks (ks (ks (ks k0))))) (s_get (ks (ks (ks (ks (ks k0))))) (s_get (ks (ks (ks (ks (ks k0))))) (s_get k0 (s_get k0 (s_get k0 (s_get k0 (s_get k0 (s_get k0 (s_get k0 (s_get k0 s_nil)))))))))))) ?_
              refine c_shut q (Hk.c) (k := en_2.slot.toNat) (by omega) (((Hk.c en_2.slot.toNat).abort).1) ?_
              refine c_region ?_
              refine o_T (y_move rfl) rfl ?_
              refine o_T (y_add rfl rfl (w64 (by omega))) rfl ?_
              refine o_L (y_assign rfl) rfl rfl ?_
              refine o_nil0 rfl ?_
              subst her_2
              subst hen_2
              obtain ⟨hN, fN⟩ := Hst.shut_go (H := Hk) (lsd := lsd) (sd := (H.t.list.getD k 0)) ⟨by unfold Hst.err; omega, by unfold Hst.ent; omega, by assumption⟩
              have okA := Hst.ok_aft g2 (H.t.list.getD k 0) (c := (Hk.cn (H.t.list.getD k 0)).abort.1) (by assumption) (segs := (Hk.cn (H.t.list.getD k 0)).abort.2.1) (by have := Conn.abort_len (Hk.cn (H.t.list.getD k 0)); omega)
              have loA := Hst.aft_lost Hk (H.t.list.getD k 0) (Hk.cn (H.t.list.getD k 0)).abort.1 (Hk.cn (H.t.list.getD k 0)).abort.2.1
              have lnA := Conn.abort_len (Hk.cn (H.t.list.getD k 0))
              have adA := Hst.aft_addr Hk (H.t.list.getD k 0) (Hk.cn (H.t.list.getD k 0)).abort.1 (Hk.cn (H.t.list.getD k 0)).abort.2.1
              refine ⟨(k + 1, (Hk.aft (H.t.list.getD k 0) (Hk.cn (H.t.list.getD k 0)).abort.1 (Hk.cn (H.t.list.getD k 0)).abort.2.1 : Hst), _, _, _, gv_5, _), ⟨⟨by omega, okA, by dsimp only; rw [adA]; assumption, by rw [take_snoc _ _ (by omega), Hst.shutH_snoc, ← g4, hN], g5, by rw [take_snoc _ _ (by omega), Hst.shutF_snoc, ← g4, fN]; exact hl_5, by dsimp only; omega⟩, by dsimp only; omega⟩, ⟨gteI rfl (by dsimp only; omega), rfl, trivial⟩, ⟨rfl, rfl⟩, _, ((s_get (ks k0) (s_get (ks k0) (s_get (ks k0) (s_get (ks k0) (s_get (ks k0) (s_get (ks (ks k0)) (s_get k0 (s_get (ks k0) s_nil)))))))))⟩
            · try simp only [decide_eq_true_eq, decide_eq_false_iff_not, Bool.not_eq_true', Bool.not_eq_false', Int.not_lt, Int.not_le, Decidable.not_not, beq_iff_eq, bne_iff_ne, ne_eq, beq_eq_false_iff_ne] at h79
              first | (exfalso; omega) | exact absurd rfl h79 | exact absurd h79 (by decide)
  · try simp only [decide_eq_true_eq, decide_eq_false_iff_not, Bool.not_eq_true', Bool.not_eq_false', Int.not_lt, Int.not_le, Decidable.not_not, beq_iff_eq, bne_iff_ne, ne_eq, beq_eq_false_iff_ne] at h73
    refine c_exit ?_
    refine c_seq ?_
    obtain ⟨hk, hl, h1, h2⟩ := hfo
    refine c_row (g' := [(q.t, .cells H.t.enc 159 (0, 0))]) (qs (qs (qs (qs (qs q0))))) (by rw [g5]) ?_
    refine c_region ?_
    refine o_T (y_move rfl) rfl ?_
    refine o_T (y_nilck rfl) rfl ?_
    refine o_T (y_fa fl_111_7 rfl) rfl ?_
    refine o_ld one_39 rfl (ms (ms m0)) Hs.g17 rfl ?_
    refine o_T (y_move rfl) rfl ?_
    refine o_call en_128 rfl (t128 _ _ _ (by assumption) hk hl h1 h2) (s_skip (s_skip (s_skip (s_skip (s_skip (s_take s_nil)))))) rfl ?_
    rintro v S' ⟨t_1, ht_1, kt_1, rfl, rfl⟩
    refine o_nil0 rfl ?_
    refine c_seq ?_
    refine c_region ?_
    refine o_T (y_move rfl) rfl ?_
    refine o_L (y_assign rfl) rfl rfl ?_
    refine o_nil0 rfl ?_
    refine c_ret ?_
    refine fun aX wX heX hsX => ret1 Tryz.results139 heX rfl (s_get (ks k0) (s_get (ks k0) (s_get (ks k0) (s_get (ks k0) (s_get (ks k0) (s_get k0 (s_get k0 s_nil))))))) ?_
    obtain rfl : k = H.t.list.length := by omega
    rw [List.take_length] at g4 g6
    subst ht_1
    subst g4
    exact ⟨lk2, dr2, v2, gv2, gd2, g3.trans (Hst.shutH_addr _ _ _), rfl, g6, rfl⟩

end Go.Proofs.Qxb6500351aGreat
