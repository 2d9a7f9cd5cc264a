/- MADE BY PROGRAM (tools/gen.py over tools/specs351.py): walks. -/
import Derived.Test.Qxb6500351aGreatFacts
import Derived.Test.Qxb6500351aGreatW30
set_option linter.unusedVariables false
set_option linter.unusedSimpArgs false
namespace Go.Proofs.Qxb6500351aGreat
open Go.Eng
set_option maxRecDepth 20000
set_option maxHeartbeats 4000000
/-- (*e2e/host.Host).emit -/
theorem t127 (q : HP) (H : Hst) (lk : Lk) (dr : Nat → Int) (v : Value) (fr : List (List Int)) (gv gd : List Chunk) (en : En) (vs : Value) (segs : List Seg) (gs gsd : List Chunk) (ok : H.Ok) (hlk : lk.addr = H.addr) (hl : Lst 81 1 rowR v fr gv gd) (hen : en.Ok) (hs : Segs vs segs gs gsd) (hsg : ∀ g, g ∈ segs → g.Ok) (hfr : fr.length + 2 * segs.length ≤ 1000000) (hlo : H.lost + segs.length ≤ 1152921504606846976) : Trip Tryz.prog 127 #[.pointer (some ⟨q.h, 0, none⟩), v, .agg en.enc, vs] [[(q.h, .cells (q.hs H dr).enc 111 (0, 0))], [(q.l, .cells lk.enc 146 (0, 0))], [(q.p, .cells H.p.enc 153 (0, 0))], gv, gd, gs, gsd] (fun u S' => ∃ (lk' : Lk) (dr' : Nat → Int) (v' : Value) (gv' gd' : List Chunk), lk'.addr = H.addr ∧ u = v' ∧ Lst 81 1 rowR v' (fr ++ H.emitF en segs) gv' gd' ∧ S' = [gv', gd', [(q.h, .cells (q.hs (H.emitH en segs) dr').enc 111 (0, 0))], [(q.l, .cells lk'.enc 146 (0, 0))], [(q.p, .cells ((H.emitH en segs)).p.enc 153 (0, 0))]]) := by
  have ok0 := ok
  have oa := ok.addr
  have oc := ok.clock
  have ol := ok.lost
  have op := ok.p
  have opa := ok.pa
  have oc4 := ok.c
  have ot := ok.t
  refine fn_entry (args := [.pointer (some ⟨q.h, 0, none⟩), v, .agg en.enc, vs]) Tryz.func127 rfl Tryz.ntmps127 rfl (fun w0 => ?_)
  refine c_seq ?_
  refine c_region ?_
  refine o_box rfl rfl rfl rfl (fun b_1 => ?_)
  refine o_L (y_assign rfl) rfl rfl ?_
  refine o_nil0 rfl ?_
  refine c_seq ?_
  refine c_seq ?_
  obtain ⟨bp, cpp, cur, rfl, rfl, hO⟩ := hs.open
  refine c_region ?_
  refine o_L (y_assign rfl) rfl rfl ?_
  refine o_nil0 rfl ?_
  refine c_block ?_
  refine c_loopG (ι := Nat × Hst × Lk × (Nat → Int) × Value × List Chunk × List Chunk) (fun i_ => [(9, .int .i64 (i_.1 : Int)), (1, i_.2.2.2.2.1)]) (fun i_ => [i_.2.2.2.2.2.1, i_.2.2.2.2.2.2, [(q.h, .cells (q.hs i_.2.1 i_.2.2.2.1).enc 111 (0, 0))], [(q.l, .cells i_.2.2.1.enc 146 (0, 0))], [(q.p, .cells i_.2.1.p.enc 153 (0, 0))]]) (fun i_ => i_.1 ≤ segs.length ∧ i_.2.1.Ok ∧ i_.2.2.1.addr = i_.2.1.addr ∧ i_.2.1 = H.emitH en (segs.take i_.1) ∧ Lst 81 1 rowR i_.2.2.2.2.1 (fr ++ H.emitF en (segs.take i_.1)) i_.2.2.2.2.2.1 i_.2.2.2.2.2.2) (fun i_ => segs.length - i_.1) (0, H, lk, dr, v, gv, gd) (by exact ⟨Nat.zero_le _, ok0, hlk, rfl, by simpa [Hst.emitF] using hl⟩) ⟨by first | rfl | exact gteI rfl (by omega), by first | rfl | exact gteI rfl (by omega), trivial⟩ (s_get (ks (ks (ks (ks k0)))) (s_get (ks (ks (ks (ks k0)))) (s_get (ks k0) (s_get (ks k0) (s_get (ks k0) (s_get k0 (s_get k0 (s_get k0 s_nil)))))))) ?_
  rintro ⟨k, Hk, lk2, dr2, v2, gv2, gd2⟩ ⟨g1, g2, g3, g4, g5⟩
  try dsimp only [List.cons_append, List.nil_append] at *
  have hel := Hst.emitF_len en (segs.take k) H
  have hll := Hst.emitH_lost en (segs.take k) H
  rw [List.length_take] at hel hll
  rw [← g4] at hll
  refine c_seq ?_
  refine c_seq ?_
  refine c_region ?_
  refine o_T (y_move rfl) rfl ?_
  refine o_T (y_move rfl) rfl ?_
  refine o_T (y_len Tryz.underlying185 rfl) rfl ?_
  refine o_T (y_lss rfl rfl) rfl ?_
  refine o_nil1 14 rfl rfl ?_
  refine c_cond rfl (fun h31 => ?_) (fun h31 => ?_)
  · try simp only [decide_eq_true_eq, decide_eq_false_iff_not, Bool.not_eq_true', Bool.not_eq_false', Int.not_lt, Int.not_le, Decidable.not_not, beq_iff_eq, bne_iff_ne, ne_eq, beq_eq_false_iff_ne] at h31
    refine c_skip ?_
    refine c_seq ?_
    refine c_block ?_
    refine c_seq ?_
    obtain ⟨br, ga, gb, hgd, hcur, hsz⟩ := LOpen.seg hO k (by omega)
    have hgk : (segs[k]).Ok := hsg _ (List.getElem_mem _)
    refine c_front (s_get (ks (ks (ks (ks (ks (ks (ks k0))))))) (s_get k0 (s_get k0 (s_get k0 (s_get k0 (s_get k0 (s_get k0 (s_get k0 s_nil)))))))) ?_
    refine c_split3 hgd ?_
    refine c_region ?_
    refine o_T (y_move rfl) rfl ?_
    refine o_T (y_move rfl) rfl ?_
    refine o_T (y_is sl_185 rfl rfl (by omega) (by omega)) rfl ?_
    refine o_lda ag_178 rfl (ms (ms (ms (ms (ms (ms (ms (ms m0)))))))) (hcur _ (by omega)) (hsz _ (by omega)) rfl ?_
    refine o_alloc ze_178 rfl rfl (fun b_2 => ?_)
    refine o_sta ag_178 rfl rfl rfl rfl r0 (setAll_full _ _ rfl) (of_ble rfl) ?_
    refine o_nil0 rfl ?_
    refine c_seq ?_
    refine c_region ?_
    refine o_T (y_fa fl_66_2 rfl) rfl ?_
    refine o_ld one_3 rfl (ms (ms (ms (ms (ms (ms (ms (ms m0)))))))) En.g2 rfl ?_
    refine o_T (y_fa fl_178_0 rfl) rfl ?_
    refine o_st one_3 rfl rfl rfl r0 Sg.s0 (of_blt rfl) ?_
    refine o_nil0 rfl ?_
    refine c_seq ?_
    refine c_region ?_
    refine o_T (y_fa fl_66_4 rfl) rfl ?_
    refine o_ld one_3 rfl (ms (ms (ms (ms (ms (ms (ms (ms m0)))))))) En.g4 rfl ?_
    refine o_T (y_fa fl_178_1 rfl) rfl ?_
    refine o_st one_3 rfl rfl rfl r0 Sg.s1 (of_blt rfl) ?_
    refine o_nil0 rfl ?_
    refine c_row (g' := [(b_2, .cells (segC br (stamp en segs[k])).enc 178 (0, 0))]) q0 rfl ?_
    refine c_region ?_
    refine o_T (y_move rfl) rfl ?_
    refine o_T (y_move rfl) rfl ?_
    refine o_T (y_fa fl_66_3 rfl) rfl ?_
    refine o_ld one_3 rfl (ms (ms (ms (ms (ms (ms (ms (ms m0)))))))) En.g3 rfl ?_
    refine o_ldw ag_178 rfl m0 rfl rfl ?_
    refine o_call en_122 rfl (t122 _ _ _ _ _ _ _ _ _ br (stamp en segs[k]) g2 g3 g5 (by have := hen.rh; omega) (stamp_ok hen hgk) (by rw [List.length_append]; omega) (by omega)) (s_get (ks (ks (ks (ks (ks k0))))) (s_get (ks (ks (ks (ks (ks k0))))) (s_get (ks (ks (ks (ks (ks k0))))) (s_get (ks (ks (ks k0))) (s_get (ks (ks (ks k0))) (s_get (ks k0) s_nil)))))) rfl ?_
    rintro v S' ⟨lk_1, dr_1, v_1, gv_1, gd_1, hlk_1, rfl, hl_1, rfl⟩
    refine o_L (y_assign rfl) rfl rfl ?_
    refine o_nil0 rfl ?_
    refine c_front (s_get (ks (ks (ks (ks (ks k0))))) (s_get (ks (ks (ks (ks (ks (ks k0)))))) (s_get k0 (s_get k0 (s_get k0 (s_get k0 (s_get k0 (s_get k0 (s_get k0 (s_get k0 s_nil)))))))))) ?_
    refine c_join3 hgd ?_
    refine c_region ?_
    refine o_T (y_move rfl) rfl ?_
    refine o_T (y_add rfl rfl (w64 (by omega))) rfl ?_
    refine o_L (y_assign rfl) rfl rfl ?_
    refine o_nil0 rfl ?_
    refine ⟨(k + 1, Hk.sendH en.rHost (stamp en segs[k]), _, _, _, gv_1, _), ⟨⟨by omega, Hst.ok_sendH g2 en.rHost (stamp en segs[k]) (by omega), (by rw [Hst.sendH_addr]; first | exact hlk_1 | exact hlk_2), by rw [emit_take (by omega), ← g4], hl_1.to (by rw [emitF_take (by omega), ← g4, List.append_assoc])⟩, by dsimp only; omega⟩, ⟨gteI rfl (by dsimp only; omega), rfl, trivial⟩, ⟨rfl, rfl⟩, _, ((s_get (ks k0) (s_get (ks k0) (s_get (ks k0) (s_get (ks k0) (s_get (ks k0) (s_get (ks (ks k0)) (s_get (ks (ks k0)) (s_get k0 s_nil)))))))))⟩
  · try simp only [decide_eq_true_eq, decide_eq_false_iff_not, Bool.not_eq_true', Bool.not_eq_false', Int.not_lt, Int.not_le, Decidable.not_not, beq_iff_eq, bne_iff_ne, ne_eq, beq_eq_false_iff_ne] at h31
    refine c_exit ?_
    refine c_seq ?_
    refine c_region ?_
    refine o_T (y_move rfl) rfl ?_
    refine o_L (y_assign rfl) rfl rfl ?_
    refine o_nil0 rfl ?_
    refine c_ret ?_
    refine fun aX wX heX hsX => ret1 Tryz.results127 heX rfl (s_take (s_take (s_take (s_take (s_take s_nil))))) ?_
    obtain rfl : k = segs.length := by omega
    rw [List.take_length] at g4 g5
    subst g4
    exact ⟨lk2, dr2, v2, gv2, gd2, g3.trans (Hst.emitH_addr _ _ _), rfl, g5, rfl⟩

end Go.Proofs.Qxb6500351aGreat
