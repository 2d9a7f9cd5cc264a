/- MADE BY PROGRAM (tools/gen.py over tools/specs351.py): walks. -/
import Derived.Test.Qxb6500351aGreatFacts
import Derived.Test.Qxb6500351aGreatMd12
import Derived.Test.Qxb6500351aGreatW29
set_option linter.unusedVariables false
set_option linter.unusedSimpArgs false
namespace Go.Proofs.Qxb6500351aGreat
open Go.Eng
set_option maxRecDepth 20000
set_option maxHeartbeats 4000000
/-- (*e2e/host.Host).send -/
theorem t122 (q : HP) (H : Hst) (lk : Lk) (dr : Nat → Int) (v : Value) (fr : List (List Int)) (gv gd : List Chunk) (dst : Int) (b : Nat) (g : Seg) (ok : H.Ok) (hlk : lk.addr = H.addr) (hl : Lst 81 1 rowR v fr gv gd) (hd : 0 ≤ dst ∧ dst < 256) (hg : g.Ok) (hfr : fr.length ≤ 1000000) (hlo : H.lost < 1152921504606846976) : Trip Tryz.prog 122 #[.pointer (some ⟨q.h, 0, none⟩), v, .int .i64 dst, .agg (segC b g).enc] [[(q.h, .cells (q.hs H dr).enc 111 (0, 0))], [(q.l, .cells lk.enc 146 (0, 0))], [(q.p, .cells H.p.enc 153 (0, 0))], gv, gd, byG b g.data 5] (fun u S' => ∃ (lk' : Lk) (dr' : Nat → Int) (v' : Value) (gv' gd' : List Chunk), lk'.addr = H.addr ∧ u = v' ∧ Lst 81 1 rowR v' (fr ++ H.sendF dst g) gv' gd' ∧ S' = [gv', gd', [(q.h, .cells (q.hs (H.sendH dst g) dr').enc 111 (0, 0))], [(q.l, .cells lk'.enc 146 (0, 0))], [(q.p, .cells ((H.sendH dst g)).p.enc 153 (0, 0))], byG b g.data 5]) := by
  have ok0 := ok
  have oa := ok.addr
  have oc := ok.clock
  have ol := ok.lost
  have op := ok.p
  have opa := ok.pa
  have oc4 := ok.c
  have ot := ok.t
  have hdb := BytAt.full hg.bytes (by have := hg.len; omega)
  have hg1 := hg.len
  have hsl := segEnc_len (src := H.addr) (dst := dst) (s := g)
  have hsb := segEnc_b (src := H.addr) (dst := dst) hg
  have hpo := Ipt.out_len H.p dst 6 (segEnc H.addr dst g)
  have hd := hdb
  refine fn_entry (args := [.pointer (some ⟨q.h, 0, none⟩), v, .int .i64 dst, .agg (segC b g).enc]) Tryz.func122 rfl Tryz.ntmps122 rfl (fun w0 => ?_)
  refine c_seq ?_
  refine c_region ?_
  refine o_box rfl rfl rfl rfl (fun b_1 => ?_)
  refine o_L (y_assign rfl) rfl rfl ?_
  refine o_nil0 rfl ?_
  refine c_seq ?_
  refine c_draw #[true, true, true, true, true, true, false, true, true, true, true, true] rfl (n := 12) rfl ?_
  refine d_T 0 rfl (by kernel_rfl) rfl (y_move rfl) rfl ?_
  refine d_T 1 rfl (by kernel_rfl) rfl (y_nilck rfl) rfl ?_
  refine d_T 2 rfl (by kernel_rfl) rfl (y_fa fl_111_0 rfl) rfl ?_
  refine d_ld 3 rfl (by kernel_rfl) one_3 rfl (fun x hx => hx) (ms m0) Hs.g0 rfl ?_
  refine d_T 4 rfl (by kernel_rfl) rfl (y_move rfl) rfl ?_
  refine d_ldw 5 rfl (by kernel_rfl) ag_178 rfl (fun x hx => hx) m0 rfl rfl ?_
  refine d_hard 6 rfl (by kernel_rfl) ?_
  refine o_call en_162 rfl (t162 _ _ _ _ (by assumption) (by omega) (by omega)) (s_skip (s_skip (s_skip (s_skip (s_skip (s_skip (s_take s_nil))))))) rfl ?_
  rintro v S' ⟨b_2, rfl, rfl⟩
  refine o_stop (fun h => nomatch h) ?_
  refine d_T 7 rfl (by kernel_rfl) rfl (y_move rfl) rfl ?_
  refine d_T 8 rfl (by kernel_rfl) rfl (y_extract rfl rfl) rfl ?_
  refine d_T 9 rfl (by kernel_rfl) rfl (y_extract rfl rfl) rfl ?_
  refine d_L 10 rfl (by kernel_rfl) rfl (y_assign rfl) rfl rfl ?_
  refine d_L 11 rfl (by kernel_rfl) rfl (y_assign rfl) rfl rfl ?_
  refine d_nil0 (by kernel_rfl) rfl ?_
  refine c_seq ?_
  refine c_seq ?_
  refine c_region ?_
  refine o_T (y_move rfl) rfl ?_
  refine o_T (y_neq rfl rfl) rfl ?_
  refine o_nil1 26 rfl rfl ?_
  refine c_cond rfl (fun h12 => ?_) (fun h12 => ?_)
  · try simp only [decide_eq_true_eq, decide_eq_false_iff_not, Bool.not_eq_true', Bool.not_eq_false', Int.not_lt, Int.not_le, Decidable.not_not, beq_iff_eq, bne_iff_ne, ne_eq, beq_eq_false_iff_ne] at h12
    first | (exfalso; omega) | exact absurd rfl h12 | exact absurd h12 (by decide)
  · try simp only [decide_eq_true_eq, decide_eq_false_iff_not, Bool.not_eq_true', Bool.not_eq_false', Int.not_lt, Int.not_le, Decidable.not_not, beq_iff_eq, bne_iff_ne, ne_eq, beq_eq_false_iff_ne] at h12
    refine c_skip ?_
    refine c_seq ?_
    refine c_region ?_
    refine o_T (y_move rfl) rfl ?_
    refine o_T (y_nilck rfl) rfl ?_
    refine o_T (y_fa fl_111_5 rfl) rfl ?_
    refine o_ld one_36 rfl (ms (ms (ms m0))) Hs.g12 rfl ?_
    refine o_T (y_move rfl) rfl ?_
    refine o_T (y_move rfl) rfl ?_
    refine o_call en_163 rfl (t163 _ _ _ _ _ _ _ _ _ _ (by assumption) (by omega) (by omega) (BytAt.ful (by first | assumption | omega) (by assumption) (by omega))) (s_get (ks (ks (ks (ks (ks k0))))) (s_get k0 s_nil)) rfl ?_
    rintro v S' (⟨hd_1, rfl, rfl⟩ | ⟨hd_2, v_1, gv_1, gd_1, rfl, hl_1, rfl⟩)
    · skip
      refine o_T (y_move rfl) rfl ?_
      refine o_T (y_extract rfl rfl) rfl ?_
      refine o_T (y_extract rfl rfl) rfl ?_
      refine o_L (y_assign rfl) rfl rfl ?_
      refine o_L (y_assign rfl) rfl rfl ?_
      refine o_nil0 rfl ?_
      refine c_seq ?_
      refine c_seq ?_
      refine c_region ?_
      refine o_T (y_move rfl) rfl ?_
      refine o_T (y_neq rfl rfl) rfl ?_
      refine o_nil1 39 rfl rfl ?_
      refine c_cond rfl (fun h16 => ?_) (fun h16 => ?_)
      · try simp only [decide_eq_true_eq, decide_eq_false_iff_not, Bool.not_eq_true', Bool.not_eq_false', Int.not_lt, Int.not_le, Decidable.not_not, beq_iff_eq, bne_iff_ne, ne_eq, beq_eq_false_iff_ne] at h16
        refine c_seq ?_
        refine c_region ?_
        refine o_T (y_move rfl) rfl ?_
        refine o_T (y_nilck rfl) rfl ?_
        refine o_T (y_fa fl_111_2 rfl) rfl ?_
        refine o_ld one_3 rfl (ms (ms (ms (ms m0)))) Hs.g2 rfl ?_
        refine o_T (y_add rfl rfl (w64 (by omega))) rfl ?_
        refine o_T (y_nilck rfl) rfl ?_
        refine o_T (y_fa fl_111_2 rfl) rfl ?_
        refine o_st one_3 rfl rfl rfl (rs (rs (rs (rs r0)))) Hs.s2 (of_blt rfl) ?_
        refine o_nil0 rfl ?_
        refine c_seq ?_
        refine c_region ?_
        refine o_T (y_move rfl) rfl ?_
        refine o_L (y_assign rfl) rfl rfl ?_
        refine o_nil0 rfl ?_
        refine c_ret ?_
        refine fun aX wX heX hsX => ret1 Tryz.results122 heX rfl (s_get (ks (ks (ks (ks (ks (ks k0)))))) (s_get (ks (ks (ks (ks (ks (ks k0)))))) (s_get (ks (ks (ks (ks k0)))) (s_get (ks (ks (ks (ks k0)))) (s_get k0 (s_get (ks k0) s_nil)))))) ?_
        have hc : H.p.credit ≤ 0 := by omega
        have e1 : H.sendF dst g = [] := by unfold Hst.sendF; rw [if_pos hc]
        have e2 : H.sendH dst g = { H with lost := H.lost + 1 } := by unfold Hst.sendH; rw [if_pos hc]
        rw [e1, e2]
        exact ⟨lk, dr, v, gv, gd, hlk, rfl, by rw [List.append_nil]; exact hl, rfl⟩
      · try simp only [decide_eq_true_eq, decide_eq_false_iff_not, Bool.not_eq_true', Bool.not_eq_false', Int.not_lt, Int.not_le, Decidable.not_not, beq_iff_eq, bne_iff_ne, ne_eq, beq_eq_false_iff_ne] at h16
        first | (exfalso; omega) | exact absurd rfl h16 | exact absurd h16 (by decide)
    · skip
      refine o_T (y_move rfl) rfl ?_
      refine o_T (y_extract rfl rfl) rfl ?_
      refine o_T (y_extract rfl rfl) rfl ?_
      refine o_L (y_assign rfl) rfl rfl ?_
      refine o_L (y_assign rfl) rfl rfl ?_
      refine o_nil0 rfl ?_
      refine c_seq ?_
      refine c_seq ?_
      refine c_region ?_
      refine o_T (y_move rfl) rfl ?_
      refine o_T (y_neq rfl rfl) rfl ?_
      refine o_nil1 39 rfl rfl ?_
      refine c_cond rfl (fun h16 => ?_) (fun h16 => ?_)
      · try simp only [decide_eq_true_eq, decide_eq_false_iff_not, Bool.not_eq_true', Bool.not_eq_false', Int.not_lt, Int.not_le, Decidable.not_not, beq_iff_eq, bne_iff_ne, ne_eq, beq_eq_false_iff_ne] at h16
        first | (exfalso; omega) | exact absurd rfl h16 | exact absurd h16 (by decide)
      · try simp only [decide_eq_true_eq, decide_eq_false_iff_not, Bool.not_eq_true', Bool.not_eq_false', Int.not_lt, Int.not_le, Decidable.not_not, beq_iff_eq, bne_iff_ne, ne_eq, beq_eq_false_iff_ne] at h16
        refine c_skip ?_
        refine c_seq ?_
        refine c_seq ?_
        obtain ⟨bp, cpp, cur, rfl, rfl, hO⟩ := hl_1.open
        refine c_region ?_
        refine o_L (y_assign rfl) rfl rfl ?_
        refine o_nil0 rfl ?_
        refine c_block ?_
        refine c_loopG (ι := Nat × Lk × Value × List Chunk × List Chunk) (fun i_ => [(12, .int .i64 (i_.1 : Int)), (1, i_.2.2.1)]) (fun i_ => [i_.2.2.2.1, i_.2.2.2.2, [(q.l, .cells i_.2.1.enc 146 (0, 0))]]) (fun i_ => i_.1 ≤ (H.p.out dst 6 (segEnc H.addr dst g)).length ∧ i_.2.1.addr = H.addr ∧ Lst 81 1 rowR i_.2.2.1 (fr ++ ((H.p.out dst 6 (segEnc H.addr dst g)).take i_.1).map (frameEnc dst H.addr 1)) i_.2.2.2.1 i_.2.2.2.2) (fun i_ => (H.p.out dst 6 (segEnc H.addr dst g)).length - i_.1) (0, lk, v, gv, gd) (by exact ⟨Nat.zero_le _, hlk, by simpa using hl⟩) ⟨by first | rfl | exact gteI rfl (by omega), by first | rfl | exact gteI rfl (by omega), trivial⟩ (s_get (ks (ks (ks (ks (ks (ks (ks (ks k0)))))))) (s_get (ks (ks (ks (ks (ks (ks (ks (ks k0)))))))) (s_get (ks (ks (ks (ks (ks (ks (ks k0))))))) (s_get k0 (s_get k0 (s_get k0 (s_get k0 (s_get k0 (s_get k0 (s_get k0 s_nil)))))))))) ?_
        rintro ⟨k, lk2, v2, gv2, gd2⟩ ⟨g1, g2, g3⟩
        try dsimp only [List.cons_append, List.nil_append] at *
        have hk2 : 0 ≤ lk2.addr ∧ lk2.addr < 256 := by omega
        refine c_seq ?_
        refine c_seq ?_
        refine c_region ?_
        refine o_T (y_move rfl) rfl ?_
        refine o_T (y_move rfl) rfl ?_
        refine o_T (y_len Tryz.underlying51 rfl) rfl ?_
        refine o_T (y_lss rfl rfl) rfl ?_
        refine o_nil1 51 rfl rfl ?_
        refine c_cond rfl (fun h20 => ?_) (fun h20 => ?_)
        · try simp only [decide_eq_true_eq, decide_eq_false_iff_not, Bool.not_eq_true', Bool.not_eq_false', Int.not_lt, Int.not_le, Decidable.not_not, beq_iff_eq, bne_iff_ne, ne_eq, beq_eq_false_iff_ne] at h20
          refine c_skip ?_
          refine c_seq ?_
          refine c_block ?_
          refine c_seq ?_
          obtain ⟨br, ga, gb, hgd, hcur, hB, hL⟩ := hO.row k (by omega)
          have h24 := Ipt.out_24 (p := H.p) (dst := dst) (proto := 6) (l := segEnc H.addr dst g) (by omega) k (by omega)
          refine c_front (s_get (ks (ks (ks (ks k0)))) (s_get k0 (s_get k0 (s_get k0 (s_get k0 (s_get k0 (s_get k0 (s_get k0 (s_get k0 (s_get k0 s_nil)))))))))) ?_
          refine c_split3 hgd ?_
          refine c_draw #[true, true, true, true, true, true, true, true, true, false, true, true, true, true, true] rfl (n := 15) rfl ?_
          refine d_T 0 rfl (by kernel_rfl) rfl (y_move rfl) rfl ?_
          refine d_T 1 rfl (by kernel_rfl) rfl (y_nilck rfl) rfl ?_
          refine d_T 2 rfl (by kernel_rfl) rfl (y_fa fl_111_4 rfl) rfl ?_
          refine d_ld 3 rfl (by kernel_rfl) one_35 rfl (fun x hx => hx) (ms (ms (ms (ms (ms (ms (ms (ms (ms (ms m0)))))))))) Hs.g11 rfl ?_
          refine d_T 4 rfl (by kernel_rfl) rfl (y_move rfl) rfl ?_
          refine d_T 5 rfl (by kernel_rfl) rfl (y_move rfl) rfl ?_
          refine d_T 6 rfl (by kernel_rfl) rfl (y_move rfl) rfl ?_
          refine d_T 7 rfl (by kernel_rfl) rfl (y_is sl_51 rfl rfl (by omega) (by omega)) rfl ?_
          refine d_ld 8 rfl (by kernel_rfl) one_81 rfl (fun x hx => hx) (ms (ms (ms (ms (ms m0))))) (hcur _ (by omega)) rfl ?_
          refine d_hard 9 rfl (by kernel_rfl) ?_
          refine o_call en_164 rfl (t164 _ _ _ _ _ _ _ _ _ _ _ (by assumption) (by omega) (by omega) (by omega) (BytAt.full hB (by omega))) (s_get (ks (ks (ks (ks k0)))) (s_get k0 s_nil)) rfl ?_
          rintro v S' ⟨lk_1, b_3, hlk_1, rfl, rfl⟩
          refine o_stop (fun h => nomatch h) ?_
          refine d_T 10 rfl (by kernel_rfl) rfl (y_move rfl) rfl ?_
          refine d_T 11 rfl (by kernel_rfl) rfl (y_extract rfl rfl) rfl ?_
          refine d_T 12 rfl (by kernel_rfl) rfl (y_extract rfl rfl) rfl ?_
          refine d_L 13 rfl (by kernel_rfl) rfl (y_assign rfl) rfl rfl ?_
          refine d_L 14 rfl (by kernel_rfl) rfl (y_assign rfl) rfl rfl ?_
          refine d_nil0 (by kernel_rfl) rfl ?_
          refine c_seq ?_
          refine c_front (s_get (ks (ks k0)) (s_get (ks (ks k0)) (s_get k0 (s_get k0 (s_get k0 (s_get k0 (s_get k0 (s_get k0 (s_get k0 (s_get k0 (s_get k0 (s_get k0 s_nil)))))))))))) ?_
          refine c_join3 hgd ?_
          refine c_region ?_
          refine o_T (y_move rfl) rfl ?_
          refine o_T (y_eql rfl rfl) rfl ?_
          refine o_nil1 68 rfl rfl ?_
          refine c_cond rfl (fun h22 => ?_) (fun h22 => ?_)
          · try simp only [decide_eq_true_eq, decide_eq_false_iff_not, Bool.not_eq_true', Bool.not_eq_false', Int.not_lt, Int.not_le, Decidable.not_not, beq_iff_eq, bne_iff_ne, ne_eq, beq_eq_false_iff_ne] at h22
            refine c_region ?_
            refine o_T (y_move rfl) rfl ?_
            refine o_T (y_move rfl) rfl ?_
            refine o_bs1 sz_51 rfl rfl rfl rfl rfl rfl (fun b_4 => ?_)
            refine o_lapp1 sz_51 rfl rfl rfl g3 rfl rfl (rowR.mk (frameEnc_b (by omega) (by omega) (by omega) (by omega) hB) (by rw [frameEnc_len]; omega)) (s_get (ks (ks (ks (ks k0)))) (s_get (ks (ks (ks (ks k0)))) (s_get k0 (s_get (ks k0) s_nil)))) (by simp only [List.length_append, List.length_map, List.length_take]; omega) (by simp only [List.length_append, List.length_map, List.length_take]; omega) rfl (fun v_2 gv_2 hl_2 => ?_)
            refine o_L (y_assign rfl) rfl rfl ?_
            refine o_nil0 rfl ?_
            refine c_region ?_
            refine o_T (y_move rfl) rfl ?_
            refine o_T (y_add rfl rfl (w64 (by omega))) rfl ?_
            refine o_L (y_assign rfl) rfl rfl ?_
            refine o_nil0 rfl ?_
            refine ⟨(k + 1, _, v_2, gv_2, _), ⟨⟨by omega, by first | exact hlk_1.trans g2 | omega, hl_2.to (by rw [g2]; exact map_take _ _ _ _ (by omega))⟩, by dsimp only; omega⟩, ⟨gteI rfl (by dsimp only; omega), rfl, trivial⟩, ⟨rfl, rfl⟩, _, ((s_get k0 (s_get k0 (s_get (ks k0) (s_get (ks k0) (s_get k0 (s_get k0 (s_get k0 (s_get k0 (s_get k0 (s_get k0 s_nil)))))))))))⟩
          · try simp only [decide_eq_true_eq, decide_eq_false_iff_not, Bool.not_eq_true', Bool.not_eq_false', Int.not_lt, Int.not_le, Decidable.not_not, beq_iff_eq, bne_iff_ne, ne_eq, beq_eq_false_iff_ne] at h22
            first | (exfalso; omega) | exact absurd rfl h22 | exact absurd h22 (by decide)
        · try simp only [decide_eq_true_eq, decide_eq_false_iff_not, Bool.not_eq_true', Bool.not_eq_false', Int.not_lt, Int.not_le, Decidable.not_not, beq_iff_eq, bne_iff_ne, ne_eq, beq_eq_false_iff_ne] at h20
          refine c_exit ?_
          refine c_seq ?_
          refine c_region ?_
          refine o_T (y_move rfl) rfl ?_
          refine o_L (y_assign rfl) rfl rfl ?_
          refine o_nil0 rfl ?_
          refine c_ret ?_
          refine fun aX wX heX hsX => ret1 Tryz.results122 heX rfl (s_get k0 (s_get k0 (s_get (ks (ks (ks (ks (ks (ks (ks k0))))))) (s_get k0 (s_get (ks (ks k0)) (s_get (ks (ks (ks k0))) s_nil)))))) ?_
          have hc : ¬ H.p.credit ≤ 0 := by omega
          obtain rfl : k = (H.p.out dst 6 (segEnc H.addr dst g)).length := by omega
          have e1 : H.sendF dst g = (H.p.out dst 6 (segEnc H.addr dst g)).map (frameEnc dst H.addr 1) := by unfold Hst.sendF; rw [if_neg hc]
          have e2 : H.sendH dst g = { H with p := H.p.sent } := by unfold Hst.sendH; rw [if_neg hc]
          rw [List.take_length] at g3
          rw [e1, e2]
          exact ⟨lk2, dr, v2, gv2, gd2, g2, rfl, g3, rfl⟩

end Go.Proofs.Qxb6500351aGreat
