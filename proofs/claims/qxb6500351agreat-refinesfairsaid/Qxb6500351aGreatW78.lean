/- MADE BY PROGRAM (tools/gen.py over tools/specsw.py): walks. -/
import Derived.Test.Qxb6500351aGreatMd23
set_option linter.unusedVariables false
set_option linter.unusedSimpArgs false
namespace Go.Proofs.Qxb6500351aGreat
open Go.Eng
set_option maxRecDepth 20000
set_option maxHeartbeats 4000000
attribute [local irreducible] Hst.ent Hst.err Hst.infoC
/-- (*e2e/towerlaw.World).sweep -/
theorem t37 (A : WA) (q : Bool) (x : Wrld) (V : WV) (gh gr : List Chunk) (hh : HsG x.H A.hv A.bv gh) (ok : ∀ i, i < 3 → (x.H i).Ok ∧ InfoOk (x.H i)) (hr : LstN 76 3 wtR V.ready x.ready gr []) (hrd : x.ready.length ≤ 1000000000000) (hrh : ∀ r, r ∈ x.ready → 0 ≤ r.host ∧ r.host < 3) : Trip Tryz.prog 37 #[.pointer (some ⟨A.b, 0, none⟩)] [[(A.b, .cells (A.wd q x V).enc 53 (0, 0))], gh, gr] (fun u S' => ∃ (v' : Value) (gr' : List Chunk), u = .tuple #[] ∧ LstN 76 3 wtR v' (x.ready.filter (keepW x.H)) gr' [] ∧ S' = [[(A.b, .cells (A.wd q x.sweep { V with ready := v' }).enc 53 (0, 0))], gh, gr']) := by
  obtain ⟨prd, crd, hrv⟩ := hr.slice
  have hrl := lstN_bnd hr
  refine fn_entry (args := [.pointer (some ⟨A.b, 0, none⟩)]) Tryz.func37 rfl Tryz.ntmps37 rfl (fun w0 => ?_)
  refine c_seq ?_
  refine c_region ?_
  refine o_T (y_move rfl) rfl ?_
  refine o_T (y_nilck rfl) rfl ?_
  refine o_T (y_fa fl_53_14 rfl) rfl ?_
  refine o_ld one_48 rfl m0 (Wd.g46.trans (congrArg some hrv)) rfl ?_
  refine o_T (y_len Tryz.underlying48 rfl) rfl ?_
  refine o_make 0 x.ready.length sz_48 rfl rfl rfl rfl (by omega) (by omega) (by omega) rfl (fun b_m => ?_)
  refine o_L (y_assign rfl) rfl rfl ?_
  refine o_nil0 rfl ?_
  refine c_seq ?_
  refine c_seq ?_
  refine c_region ?_
  refine o_L (y_assign rfl) rfl rfl ?_
  refine o_nil0 rfl ?_
  refine c_block ?_
  refine c_loopG (ι := Nat × Value × List Chunk) (fun i_ => [(2, i_.2.1), (3, .int .i64 (i_.1 : Int))]) (fun i_ => [i_.2.2]) (fun i_ => i_.1 ≤ x.ready.length ∧ LstN 76 3 wtR i_.2.1 ((x.ready.take i_.1).filter (keepW x.H)) i_.2.2 []) (fun i_ => x.ready.length - i_.1) (0, .slice (some ⟨b_m, 0, none⟩) 0 x.ready.length, [(b_m, .cells (madeCells #[.int .i64 0, .int .i64 0, .int .i64 0] (x.ready.length * 3)) 76 (0, 0))]) (by exact ⟨Nat.zero_le _, ⟨[], Vec.made (by rw [maxLen_eq]; omega), Elems.nil⟩⟩) ⟨rfl, by first | rfl | exact gteI rfl (by omega), trivial⟩ (s_take (s_take (s_take (s_take s_nil)))) ?_
  rintro ⟨k, v2, gv2⟩ ⟨g1, g2⟩
  try dsimp only [List.cons_append, List.nil_append] at *
  have hkl : ((x.ready.take k).filter (keepW x.H)).length ≤ k := Nat.le_trans (List.length_filter_le _ _) (by rw [List.length_take]; omega)
  refine c_seq ?_
  refine c_seq ?_
  refine c_region ?_
  refine o_T (y_move rfl) rfl ?_
  refine o_T (y_move rfl) rfl ?_
  refine o_T (y_nilck rfl) rfl ?_
  refine o_T (y_fa fl_53_14 rfl) rfl ?_
  refine o_ld one_48 rfl (ms m0) (Wd.g46.trans (congrArg some hrv)) rfl ?_
  refine o_T (y_len Tryz.underlying48 rfl) rfl ?_
  refine o_T (y_lss rfl rfl) rfl ?_
  refine o_nil1 19 rfl rfl ?_
  refine c_cond rfl (fun h386 => ?_) (fun h386 => ?_)
  · try simp only [decide_eq_true_eq, decide_eq_false_iff_not, Bool.not_eq_true', Bool.not_eq_false', Int.not_lt, Int.not_le, Decidable.not_not, beq_iff_eq, bne_iff_ne, ne_eq, beq_eq_false_iff_ne, WA.wd] at h386
    refine c_skip ?_
    refine c_seq ?_
    refine c_block ?_
    refine c_seq ?_
    have hk : k < x.ready.length := by omega
    obtain ⟨hn, hhn, hn3⟩ : ∃ hn : Nat, (x.ready[k]).host = (hn : Int) ∧ hn < 3 := ⟨(x.ready[k]).host.toNat, by have := hrh _ (List.getElem_mem hk); omega, by have := hrh _ (List.getElem_mem hk); omega⟩
    obtain ⟨bw, cpw, cur, hv2, hg2, hO⟩ := (hr.lst (by omega)).open
    subst hg2
    refine c_region ?_
    refine o_T (y_move rfl) rfl ?_
    refine o_T (y_nilck rfl) rfl ?_
    refine o_T (y_fa fl_53_14 rfl) rfl ?_
    refine o_ld one_48 rfl (ms m0) (Wd.g46.trans (congrArg some hv2)) rfl ?_
    refine o_T (y_move rfl) rfl ?_
    refine o_T (y_is sl_48 rfl rfl (by omega) (by omega)) rfl ?_
    refine o_lda ag_76 rfl (ms (ms (ms m0))) (Wt.E hO k (by omega) (by omega)).1 (Wt.E hO k (by omega) (by omega)).2 rfl ?_
    refine o_alloc ze_76 rfl rfl (fun b_1 => ?_)
    refine o_sta ag_76 rfl rfl rfl rfl r0 (setAll_full _ _ rfl) (of_ble rfl) ?_
    refine o_nil0 rfl ?_
    refine c_seq ?_
    refine c_draw #[true, true, true, true, true, true, true, true, true, true, true, true, true, true, false, true] rfl (n := 16) rfl ?_
    refine d_T 0 rfl (by kernel_rfl) rfl (y_move rfl) rfl ?_
    refine d_T 1 rfl (by kernel_rfl) rfl (y_fa fl_76_0 rfl) rfl ?_
    refine d_ld 2 rfl (by kernel_rfl) one_3 rfl (fun x hx => hx) m0 (Wt.g0.trans (congrArg some (congrArg (Value.int .i64) hhn))) rfl ?_
    refine d_T 3 rfl (by kernel_rfl) rfl (y_nilck rfl) rfl ?_
    refine d_T 4 rfl (by kernel_rfl) rfl (y_fa fl_53_0 rfl) rfl ?_
    refine d_T 5 rfl (by kernel_rfl) rfl (y_ia ar_34 rfl rfl (by omega) (by omega)) rfl ?_
    refine d_ld 6 rfl (by kernel_rfl) one_33 rfl (fun x hx => hx) (ms (ms m0)) (Wd.g_h hn (by omega) (by omega)) rfl ?_
    refine d_T 7 rfl (by kernel_rfl) rfl (y_fa fl_76_1 rfl) rfl ?_
    refine d_ld 8 rfl (by kernel_rfl) one_3 rfl (fun x hx => hx) m0 Wt.g1 rfl ?_
    refine d_hard2A 13 9 (l := [9, 13]) rfl rfl (by kernel_rfl) (by first | exact .inl rfl | exact .inr rfl) ze_69 rfl rfl (fun b_2 => ?_) ?_
    · skip
      refine d_hard 9 rfl (by kernel_rfl) ?_
      refine o_call en_32 rfl (i32 hh hn3 (ok _ hn3).1 _ ((ok _ hn3).2 _)) (s_skip (s_skip (s_skip (s_skip (s_take s_nil))))) rfl ?_
      rintro v S' ⟨pc_1, gc_1, rfl, hi_1, rfl⟩
      refine o_front (s_get k0 (s_get (ks k0) (s_get (ks k0) (s_get (ks k0) (s_get (ks k0) (s_get k0 (s_get k0 s_nil))))))) ?_
      refine o_stop (fun _ => (fun x hx => (ms (ms hx)))) ?_
      refine d_T 10 rfl (by kernel_rfl) rfl (y_move rfl) rfl ?_
      refine d_T 11 rfl (by kernel_rfl) rfl (y_extract rfl rfl) rfl ?_
      refine d_T 12 rfl (by kernel_rfl) rfl (y_extract rfl rfl) rfl ?_
      refine d_hard 14 rfl (by kernel_rfl) ?_
      refine o_sta ag_69 rfl rfl (si_plain hi_1) rfl (rs r0) (setAll_full _ _ rfl) (of_ble rfl) ?_
      refine o_stop (fun h => nomatch h) ?_
      refine d_L 15 rfl (by kernel_rfl) rfl (y_assign rfl) rfl rfl ?_
      refine d_nil0 (by kernel_rfl) rfl ?_
      refine c_seq ?_
      refine c_region ?_
      refine o_T (y_move rfl) rfl ?_
      refine o_T (y_eql rfl rfl) rfl ?_
      refine o_T (y_move rfl) rfl ?_
      refine o_split 44 rfl (fun h389 => ?_) (fun h389 => ?_)
      · try simp only [decide_eq_true_eq, decide_eq_false_iff_not, Bool.not_eq_true', Bool.not_eq_false', Int.not_lt, Int.not_le, Decidable.not_not, beq_iff_eq, bne_iff_ne, ne_eq, beq_eq_false_iff_ne, WA.wd] at h389
        refine o_take rfl rfl rfl ?_
        refine o_T (y_fa fl_69_0 rfl) rfl ?_
        refine o_take rfl rfl rfl ?_
        refine o_T (y_fa fl_66_7 rfl) rfl ?_
        refine o_take rfl rfl rfl ?_
        refine o_ld one_4 rfl (ms m0) Si.g7 rfl ?_
        refine o_T (y_pickT rfl rfl) rfl ?_
        refine o_T (y_move rfl) rfl ?_
        refine o_split 49 rfl (fun h389_1 => ?_) (fun h389_1 => ?_)
        · try simp only [decide_eq_true_eq, decide_eq_false_iff_not, Bool.not_eq_true', Bool.not_eq_false', Int.not_lt, Int.not_le, Decidable.not_not, beq_iff_eq, bne_iff_ne, ne_eq, beq_eq_false_iff_ne, WA.wd] at h389_1
          refine o_take rfl rfl rfl ?_
          refine o_T (y_fa fl_69_0 rfl) rfl ?_
          refine o_take rfl rfl rfl ?_
          refine o_T (y_fa fl_66_6 rfl) rfl ?_
          refine o_take rfl rfl rfl ?_
          refine o_ld one_3 rfl (ms m0) Si.g6 rfl ?_
          refine o_take rfl rfl rfl ?_
          refine o_T (y_fa fl_76_2 rfl) rfl ?_
          refine o_take rfl rfl rfl ?_
          refine o_ld one_3 rfl (ms (ms m0)) Wt.g2 rfl ?_
          refine o_take rfl rfl rfl ?_
          refine o_T (y_eql rfl rfl) rfl ?_
          refine o_T (y_pickT rfl rfl) rfl ?_
          refine o_nil1 56 rfl rfl ?_
          refine c_cond rfl (fun h389_2 => ?_) (fun h389_2 => ?_)
          · try simp only [decide_eq_true_eq, decide_eq_false_iff_not, Bool.not_eq_true', Bool.not_eq_false', Int.not_lt, Int.not_le, Decidable.not_not, beq_iff_eq, bne_iff_ne, ne_eq, beq_eq_false_iff_ne, WA.wd] at h389_2
            refine c_region ?_
            refine o_T (y_move rfl) rfl ?_
            refine o_ldw ag_76 rfl (ms (ms m0)) rfl rfl ?_
            refine o_bs1 sz_48 rfl rfl rfl rfl rfl rfl (fun b_3 => ?_)
            refine o_lapp0 (R := wtR) (u := x.ready[k]) sz_48 rfl rfl rfl g2 rfl rfl ⟨rfl, rfl⟩ (sel0 (s_get (ks (ks (ks (ks k0)))) (s_get k0 s_nil))) (by omega) (by omega) rfl (fun v_9 gv_9 hl_9 => ?_)
            refine o_dropnil ?_
            obtain ⟨bq, cq, hvq⟩ := hl_9.slice
            subst hvq
            refine o_L (y_assign rfl) rfl rfl ?_
            refine o_nil0 rfl ?_
            refine c_region ?_
            refine o_T (y_move rfl) rfl ?_
            refine o_T (y_add rfl rfl (w64 (by omega))) rfl ?_
            refine o_L (y_assign rfl) rfl rfl ?_
            refine o_nil0 rfl ?_
            refine ⟨(k + 1, _, gv_9), ⟨⟨by omega, by rw [keep_step hk, if_pos (by unfold keepW; simp only [hhn, Int.toNat_natCast, Bool.and_eq_true, decide_eq_true_eq]; exact ⟨⟨by assumption, by assumption⟩, by assumption⟩)]; exact .of hl_9⟩, by dsimp only; omega⟩, ⟨rfl, gteI rfl (by dsimp only; omega), trivial⟩, ⟨rfl, rfl⟩, _, ((s_take (s_skip (s_skip (s_skip (s_take (s_take (s_take s_nil))))))))⟩
          · try simp only [decide_eq_true_eq, decide_eq_false_iff_not, Bool.not_eq_true', Bool.not_eq_false', Int.not_lt, Int.not_le, Decidable.not_not, beq_iff_eq, bne_iff_ne, ne_eq, beq_eq_false_iff_ne, WA.wd] at h389_2
            refine c_skip ?_
            refine c_region ?_
            refine o_T (y_move rfl) rfl ?_
            refine o_T (y_add rfl rfl (w64 (by omega))) rfl ?_
            refine o_L (y_assign rfl) rfl rfl ?_
            refine o_nil0 rfl ?_
            refine ⟨(k + 1, v2, gv2), ⟨⟨by omega, by rw [keep_step hk, if_neg (by unfold keepW; simp only [hhn, Int.toNat_natCast, Bool.and_eq_true, decide_eq_true_eq]; first | exact fun z => absurd z.1.1 (by assumption) | exact fun z => absurd z.2 (by assumption) | exact fun z => Bool.noConfusion (z.1.2.symm.trans (show ((x.H hn).ent (x.ready[k]).sd).ready = false by assumption))), List.append_nil]; exact g2⟩, by dsimp only; omega⟩, ⟨rfl, gteI rfl (by dsimp only; omega), trivial⟩, ⟨rfl, rfl⟩, _, ((s_skip (s_skip (s_skip (s_take (s_take (s_take (s_take s_nil))))))))⟩
        · try simp only [decide_eq_true_eq, decide_eq_false_iff_not, Bool.not_eq_true', Bool.not_eq_false', Int.not_lt, Int.not_le, Decidable.not_not, beq_iff_eq, bne_iff_ne, ne_eq, beq_eq_false_iff_ne, WA.wd] at h389_1
          refine o_pass rfl rfl rfl rfl rfl ?_
          refine o_pass rfl rfl rfl rfl rfl ?_
          refine o_pass rfl rfl rfl rfl rfl ?_
          refine o_pass rfl rfl rfl rfl rfl ?_
          refine o_pass rfl rfl rfl rfl rfl ?_
          refine o_pass rfl rfl rfl rfl rfl ?_
          refine o_T (y_pickF rfl rfl) rfl ?_
          refine o_nil1 56 rfl rfl ?_
          refine c_condF rfl ?_
          refine c_skip ?_
          refine c_region ?_
          refine o_T (y_move rfl) rfl ?_
          refine o_T (y_add rfl rfl (w64 (by omega))) rfl ?_
          refine o_L (y_assign rfl) rfl rfl ?_
          refine o_nil0 rfl ?_
          refine ⟨(k + 1, v2, gv2), ⟨⟨by omega, by rw [keep_step hk, if_neg (by unfold keepW; simp only [hhn, Int.toNat_natCast, Bool.and_eq_true, decide_eq_true_eq]; first | exact fun z => absurd z.1.1 (by assumption) | exact fun z => absurd z.2 (by assumption) | exact fun z => Bool.noConfusion (z.1.2.symm.trans (show ((x.H hn).ent (x.ready[k]).sd).ready = false by assumption))), List.append_nil]; exact g2⟩, by dsimp only; omega⟩, ⟨rfl, gteI rfl (by dsimp only; omega), trivial⟩, ⟨rfl, rfl⟩, _, ((s_skip (s_skip (s_skip (s_take (s_take (s_take (s_take s_nil))))))))⟩
      · try simp only [decide_eq_true_eq, decide_eq_false_iff_not, Bool.not_eq_true', Bool.not_eq_false', Int.not_lt, Int.not_le, Decidable.not_not, beq_iff_eq, bne_iff_ne, ne_eq, beq_eq_false_iff_ne, WA.wd] at h389
        refine o_pass rfl rfl rfl rfl rfl ?_
        refine o_pass rfl rfl rfl rfl rfl ?_
        refine o_pass rfl rfl rfl rfl rfl ?_
        refine o_T (y_pickF rfl rfl) rfl ?_
        refine o_T (y_move rfl) rfl ?_
        refine o_pass rfl rfl rfl rfl rfl ?_
        refine o_pass rfl rfl rfl rfl rfl ?_
        refine o_pass rfl rfl rfl rfl rfl ?_
        refine o_pass rfl rfl rfl rfl rfl ?_
        refine o_pass rfl rfl rfl rfl rfl ?_
        refine o_pass rfl rfl rfl rfl rfl ?_
        refine o_T (y_pickF rfl rfl) rfl ?_
        refine o_nil1 56 rfl rfl ?_
        refine c_condF rfl ?_
        refine c_skip ?_
        refine c_region ?_
        refine o_T (y_move rfl) rfl ?_
        refine o_T (y_add rfl rfl (w64 (by omega))) rfl ?_
        refine o_L (y_assign rfl) rfl rfl ?_
        refine o_nil0 rfl ?_
        refine ⟨(k + 1, v2, gv2), ⟨⟨by omega, by rw [keep_step hk, if_neg (by unfold keepW; simp only [hhn, Int.toNat_natCast, Bool.and_eq_true, decide_eq_true_eq]; first | exact fun z => absurd z.1.1 (by assumption) | exact fun z => absurd z.2 (by assumption) | exact fun z => Bool.noConfusion (z.1.2.symm.trans (show ((x.H hn).ent (x.ready[k]).sd).ready = false by assumption))), List.append_nil]; exact g2⟩, by dsimp only; omega⟩, ⟨rfl, gteI rfl (by dsimp only; omega), trivial⟩, ⟨rfl, rfl⟩, _, ((s_skip (s_skip (s_skip (s_take (s_take (s_take (s_take s_nil))))))))⟩
    · skip
      refine o_call en_32 rfl (i32 hh hn3 (ok _ hn3).1 _ ((ok _ hn3).2 _)) (s_skip (s_skip (s_skip (s_take s_nil)))) rfl ?_
      rintro v S' ⟨pc_2, gc_2, rfl, hi_2, rfl⟩
      refine o_front (s_get k0 (s_get (ks k0) (s_get (ks k0) (s_get (ks k0) (s_get k0 (s_get k0 s_nil)))))) ?_
      refine o_stop (fun _ => (fun x hx => (ms hx))) ?_
      refine d_T 10 rfl (by kernel_rfl) rfl (y_move rfl) rfl ?_
      refine d_T 11 rfl (by kernel_rfl) rfl (y_extract rfl rfl) rfl ?_
      refine d_T 12 rfl (by kernel_rfl) rfl (y_extract rfl rfl) rfl ?_
      refine d_hardA 13 rfl (by kernel_rfl) ze_69 rfl rfl (fun b_4 => ?_)
      refine d_hard 14 rfl (by kernel_rfl) ?_
      refine o_sta ag_69 rfl rfl (si_plain hi_2) rfl r0 (setAll_full _ _ rfl) (of_ble rfl) ?_
      refine o_stop (fun h => nomatch h) ?_
      refine d_L 15 rfl (by kernel_rfl) rfl (y_assign rfl) rfl rfl ?_
      refine d_nil0 (by kernel_rfl) rfl ?_
      refine c_seq ?_
      refine c_region ?_
      refine o_T (y_move rfl) rfl ?_
      refine o_T (y_eql rfl rfl) rfl ?_
      refine o_T (y_move rfl) rfl ?_
      refine o_split 44 rfl (fun h389 => ?_) (fun h389 => ?_)
      · try simp only [decide_eq_true_eq, decide_eq_false_iff_not, Bool.not_eq_true', Bool.not_eq_false', Int.not_lt, Int.not_le, Decidable.not_not, beq_iff_eq, bne_iff_ne, ne_eq, beq_eq_false_iff_ne, WA.wd] at h389
        refine o_take rfl rfl rfl ?_
        refine o_T (y_fa fl_69_0 rfl) rfl ?_
        refine o_take rfl rfl rfl ?_
        refine o_T (y_fa fl_66_7 rfl) rfl ?_
        refine o_take rfl rfl rfl ?_
        refine o_ld one_4 rfl m0 Si.g7 rfl ?_
        refine o_T (y_pickT rfl rfl) rfl ?_
        refine o_T (y_move rfl) rfl ?_
        refine o_split 49 rfl (fun h389_1 => ?_) (fun h389_1 => ?_)
        · try simp only [decide_eq_true_eq, decide_eq_false_iff_not, Bool.not_eq_true', Bool.not_eq_false', Int.not_lt, Int.not_le, Decidable.not_not, beq_iff_eq, bne_iff_ne, ne_eq, beq_eq_false_iff_ne, WA.wd] at h389_1
          refine o_take rfl rfl rfl ?_
          refine o_T (y_fa fl_69_0 rfl) rfl ?_
          refine o_take rfl rfl rfl ?_
          refine o_T (y_fa fl_66_6 rfl) rfl ?_
          refine o_take rfl rfl rfl ?_
          refine o_ld one_3 rfl m0 Si.g6 rfl ?_
          refine o_take rfl rfl rfl ?_
          refine o_T (y_fa fl_76_2 rfl) rfl ?_
          refine o_take rfl rfl rfl ?_
          refine o_ld one_3 rfl (ms (ms m0)) Wt.g2 rfl ?_
          refine o_take rfl rfl rfl ?_
          refine o_T (y_eql rfl rfl) rfl ?_
          refine o_T (y_pickT rfl rfl) rfl ?_
          refine o_nil1 56 rfl rfl ?_
          refine c_cond rfl (fun h389_2 => ?_) (fun h389_2 => ?_)
          · try simp only [decide_eq_true_eq, decide_eq_false_iff_not, Bool.not_eq_true', Bool.not_eq_false', Int.not_lt, Int.not_le, Decidable.not_not, beq_iff_eq, bne_iff_ne, ne_eq, beq_eq_false_iff_ne, WA.wd] at h389_2
            refine c_region ?_
            refine o_T (y_move rfl) rfl ?_
            refine o_ldw ag_76 rfl (ms (ms m0)) rfl rfl ?_
            refine o_bs1 sz_48 rfl rfl rfl rfl rfl rfl (fun b_5 => ?_)
            refine o_lapp0 (R := wtR) (u := x.ready[k]) sz_48 rfl rfl rfl g2 rfl rfl ⟨rfl, rfl⟩ (sel0 (s_get (ks (ks (ks (ks k0)))) (s_get k0 s_nil))) (by omega) (by omega) rfl (fun v_9 gv_9 hl_9 => ?_)
            refine o_dropnil ?_
            obtain ⟨bq, cq, hvq⟩ := hl_9.slice
            subst hvq
            refine o_L (y_assign rfl) rfl rfl ?_
            refine o_nil0 rfl ?_
            refine c_region ?_
            refine o_T (y_move rfl) rfl ?_
            refine o_T (y_add rfl rfl (w64 (by omega))) rfl ?_
            refine o_L (y_assign rfl) rfl rfl ?_
            refine o_nil0 rfl ?_
            refine ⟨(k + 1, _, gv_9), ⟨⟨by omega, by rw [keep_step hk, if_pos (by unfold keepW; simp only [hhn, Int.toNat_natCast, Bool.and_eq_true, decide_eq_true_eq]; exact ⟨⟨by assumption, by assumption⟩, by assumption⟩)]; exact .of hl_9⟩, by dsimp only; omega⟩, ⟨rfl, gteI rfl (by dsimp only; omega), trivial⟩, ⟨rfl, rfl⟩, _, ((s_take (s_skip (s_skip (s_skip (s_take (s_take (s_take s_nil))))))))⟩
          · try simp only [decide_eq_true_eq, decide_eq_false_iff_not, Bool.not_eq_true', Bool.not_eq_false', Int.not_lt, Int.not_le, Decidable.not_not, beq_iff_eq, bne_iff_ne, ne_eq, beq_eq_false_iff_ne, WA.wd] at h389_2
            refine c_skip ?_
            refine c_region ?_
            refine o_T (y_move rfl) rfl ?_
            refine o_T (y_add rfl rfl (w64 (by omega))) rfl ?_
            refine o_L (y_assign rfl) rfl rfl ?_
            refine o_nil0 rfl ?_
            refine ⟨(k + 1, v2, gv2), ⟨⟨by omega, by rw [keep_step hk, if_neg (by unfold keepW; simp only [hhn, Int.toNat_natCast, Bool.and_eq_true, decide_eq_true_eq]; first | exact fun z => absurd z.1.1 (by assumption) | exact fun z => absurd z.2 (by assumption) | exact fun z => Bool.noConfusion (z.1.2.symm.trans (show ((x.H hn).ent (x.ready[k]).sd).ready = false by assumption))), List.append_nil]; exact g2⟩, by dsimp only; omega⟩, ⟨rfl, gteI rfl (by dsimp only; omega), trivial⟩, ⟨rfl, rfl⟩, _, ((s_skip (s_skip (s_skip (s_take (s_take (s_take (s_take s_nil))))))))⟩
        · try simp only [decide_eq_true_eq, decide_eq_false_iff_not, Bool.not_eq_true', Bool.not_eq_false', Int.not_lt, Int.not_le, Decidable.not_not, beq_iff_eq, bne_iff_ne, ne_eq, beq_eq_false_iff_ne, WA.wd] at h389_1
          refine o_pass rfl rfl rfl rfl rfl ?_
          refine o_pass rfl rfl rfl rfl rfl ?_
          refine o_pass rfl rfl rfl rfl rfl ?_
          refine o_pass rfl rfl rfl rfl rfl ?_
          refine o_pass rfl rfl rfl rfl rfl ?_
          refine o_pass rfl rfl rfl rfl rfl ?_
          refine o_T (y_pickF rfl rfl) rfl ?_
          refine o_nil1 56 rfl rfl ?_
          refine c_condF rfl ?_
          refine c_skip ?_
          refine c_region ?_
          refine o_T (y_move rfl) rfl ?_
          refine o_T (y_add rfl rfl (w64 (by omega))) rfl ?_
          refine o_L (y_assign rfl) rfl rfl ?_
          refine o_nil0 rfl ?_
          refine ⟨(k + 1, v2, gv2), ⟨⟨by omega, by rw [keep_step hk, if_neg (by unfold keepW; simp only [hhn, Int.toNat_natCast, Bool.and_eq_true, decide_eq_true_eq]; first | exact fun z => absurd z.1.1 (by assumption) | exact fun z => absurd z.2 (by assumption) | exact fun z => Bool.noConfusion (z.1.2.symm.trans (show ((x.H hn).ent (x.ready[k]).sd).ready = false by assumption))), List.append_nil]; exact g2⟩, by dsimp only; omega⟩, ⟨rfl, gteI rfl (by dsimp only; omega), trivial⟩, ⟨rfl, rfl⟩, _, ((s_skip (s_skip (s_skip (s_take (s_take (s_take (s_take s_nil))))))))⟩
      · try simp only [decide_eq_true_eq, decide_eq_false_iff_not, Bool.not_eq_true', Bool.not_eq_false', Int.not_lt, Int.not_le, Decidable.not_not, beq_iff_eq, bne_iff_ne, ne_eq, beq_eq_false_iff_ne, WA.wd] at h389
        refine o_pass rfl rfl rfl rfl rfl ?_
        refine o_pass rfl rfl rfl rfl rfl ?_
        refine o_pass rfl rfl rfl rfl rfl ?_
        refine o_T (y_pickF rfl rfl) rfl ?_
        refine o_T (y_move rfl) rfl ?_
        refine o_pass rfl rfl rfl rfl rfl ?_
        refine o_pass rfl rfl rfl rfl rfl ?_
        refine o_pass rfl rfl rfl rfl rfl ?_
        refine o_pass rfl rfl rfl rfl rfl ?_
        refine o_pass rfl rfl rfl rfl rfl ?_
        refine o_pass rfl rfl rfl rfl rfl ?_
        refine o_T (y_pickF rfl rfl) rfl ?_
        refine o_nil1 56 rfl rfl ?_
        refine c_condF rfl ?_
        refine c_skip ?_
        refine c_region ?_
        refine o_T (y_move rfl) rfl ?_
        refine o_T (y_add rfl rfl (w64 (by omega))) rfl ?_
        refine o_L (y_assign rfl) rfl rfl ?_
        refine o_nil0 rfl ?_
        refine ⟨(k + 1, v2, gv2), ⟨⟨by omega, by rw [keep_step hk, if_neg (by unfold keepW; simp only [hhn, Int.toNat_natCast, Bool.and_eq_true, decide_eq_true_eq]; first | exact fun z => absurd z.1.1 (by assumption) | exact fun z => absurd z.2 (by assumption) | exact fun z => Bool.noConfusion (z.1.2.symm.trans (show ((x.H hn).ent (x.ready[k]).sd).ready = false by assumption))), List.append_nil]; exact g2⟩, by dsimp only; omega⟩, ⟨rfl, gteI rfl (by dsimp only; omega), trivial⟩, ⟨rfl, rfl⟩, _, ((s_skip (s_skip (s_skip (s_take (s_take (s_take (s_take s_nil))))))))⟩
  · try simp only [decide_eq_true_eq, decide_eq_false_iff_not, Bool.not_eq_true', Bool.not_eq_false', Int.not_lt, Int.not_le, Decidable.not_not, beq_iff_eq, bne_iff_ne, ne_eq, beq_eq_false_iff_ne, WA.wd] at h386
    refine c_exit ?_
    obtain ⟨pk2, ck2, hv2s⟩ := g2.slice
    subst hv2s
    refine c_region ?_
    refine o_T (y_move rfl) rfl ?_
    refine o_T (y_move rfl) rfl ?_
    refine o_T (y_nilck rfl) rfl ?_
    refine o_T (y_fa fl_53_14 rfl) rfl ?_
    refine o_st one_48 rfl rfl rfl (rs r0) Wd.s46 (of_blt rfl) ?_
    refine o_nil0 rfl ?_
    refine fun aX wX heX hsX => ret0 Tryz.results37 (s_get (ks k0) (s_get (ks k0) (s_get k0 s_nil))) ?_
    obtain rfl : k = x.ready.length := by omega
    rw [List.take_length] at g2
    exact ⟨_, _, rfl, g2, by rw [List.take_length]; rfl⟩

end Go.Proofs.Qxb6500351aGreat
