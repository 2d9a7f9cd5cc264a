/- MADE BY PROGRAM (tools/gen.py over tools/specsw.py): walks. -/
import Derived.Test.Qxb6500351aGreatW68
import Derived.Test.Qxb6500351aGreatMd23
set_option linter.unusedVariables false
set_option linter.unusedSimpArgs false
namespace Go.Proofs.Qxb6500351aGreat
open Go.Eng
set_option maxRecDepth 20000
set_option maxHeartbeats 4000000
attribute [local irreducible] Hst.ent Hst.err Hst.infoC
/-- (*e2e/towerlaw.World).Seam -/
theorem t35 (A : WA) (q : Bool) (x : Wrld) (V : WV) (gh gs : List Chunk) (c : Nat) (c3 : c < 3) (hh : HsG x.H A.hv A.bv gh) (ok : ∀ i, i < 3 → (x.H i).Ok ∧ InfoOk (x.H i)) (hs : SnG x.seen V.seen gs) (hsn : x.seen c = (x.H c).t.list) (hent : ∀ sd, sd ∈ (x.H c).t.list → (x.H c).err sd = 0 ∧ (((x.H c).ent sd).kind = 2 → 0 ≤ ((x.H c).ent sd).slot ∧ ((x.H c).ent sd).slot < 4)) : Trip Tryz.prog 35 #[.pointer (some ⟨A.b, 0, none⟩), .int .i64 (c : Int)] [[(A.b, .cells (A.wd q x V).enc 53 (0, 0))], gh, gs] (fun u S' => u = .bool true ∧ S' = [[(A.b, .cells (A.wd q x V).enc 53 (0, 0))], gh, gs]) := by
  obtain ⟨gc, grest, hin, hpm, hbk⟩ := hs.at c3
  obtain ⟨pse, hsv⟩ := hin.slice
  have hsl := hin.1
  have hin2 := hin
  rw [hsv] at hin2
  have hll := (x.H c).t.list_len
  refine fn_entry (args := [.pointer (some ⟨A.b, 0, none⟩), .int .i64 (c : Int)]) Tryz.func35 rfl Tryz.ntmps35 rfl (fun w0 => ?_)
  refine c_seq ?_
  refine c_region ?_
  refine o_L (y_assign rfl) rfl rfl ?_
  refine o_nil0 rfl ?_
  refine c_seq ?_
  refine c_region ?_
  refine o_T (y_move rfl) rfl ?_
  refine o_T (y_move rfl) rfl ?_
  refine o_T (y_nilck rfl) rfl ?_
  refine o_T (y_fa fl_53_1 rfl) rfl ?_
  refine o_T (y_ia ar_42 rfl rfl (by omega) (by omega)) rfl ?_
  refine o_T (y_fa fl_41_3 rfl) rfl ?_
  refine o_ld one_39 rfl m0 (Wd.g_b_t c (by omega) (by omega)) rfl ?_
  refine o_call en_65 rfl (i65 hh (by assumption)) (s_skip (s_take s_nil)) rfl ?_
  rintro v S' ⟨bl_1, rfl, rfl⟩
  refine o_L (y_assign rfl) rfl rfl ?_
  refine o_nil0 rfl ?_
  refine c_seq ?_
  refine c_seq ?_
  refine c_front (s_get (ks (ks (ks k0))) (s_get k0 (s_get k0 (s_get k0 s_nil)))) ?_
  refine c_opn hpm ?_
  refine c_region ?_
  refine o_T (y_move rfl) rfl ?_
  refine o_T (y_move rfl) rfl ?_
  refine o_T (y_move rfl) rfl ?_
  refine o_T (y_nilck rfl) rfl ?_
  refine o_T (y_fa fl_53_8 rfl) rfl ?_
  refine o_T (y_ia ar_47 rfl rfl (by omega) (by omega)) rfl ?_
  refine o_ld one_46 rfl (ms (ms (ms (ms m0)))) ((Wd.g_seen c (by omega) (by omega)).trans (congrArg some hsv)) rfl ?_
  refine o_callrv en_73 rfl (t73 _ _ _ _ _ _ (Inl.mk (by omega)) hin2) (s_get (ks (ks k0)) (s_get k0 s_nil)) rfl ?_
  refine o_T (y_not rfl) rfl ?_
  refine o_nil1 28 rfl rfl ?_
  refine c_cond rfl (fun h351 => ?_) (fun h351 => ?_)
  · try simp only [decide_eq_true_eq, decide_eq_false_iff_not, Bool.not_eq_true', Bool.not_eq_false', Int.not_lt, Int.not_le, Decidable.not_not, beq_iff_eq, bne_iff_ne, ne_eq, beq_eq_false_iff_ne, WA.wd] at h351
    exact absurd hsn.symm h351
  · try simp only [decide_eq_true_eq, decide_eq_false_iff_not, Bool.not_eq_true', Bool.not_eq_false', Int.not_lt, Int.not_le, Decidable.not_not, beq_iff_eq, bne_iff_ne, ne_eq, beq_eq_false_iff_ne, WA.wd] at h351
    refine c_skip ?_
    refine c_seq ?_
    refine c_seq ?_
    refine c_sht hpm ?_
    refine c_region ?_
    refine o_L (y_assign rfl) rfl rfl ?_
    refine o_nil0 rfl ?_
    refine c_block ?_
    refine c_loopG (ι := Nat) (fun i => [(6, .int .i64 (i : Int))]) (fun i => []) (fun i => i ≤ (x.H c).t.list.length) (fun i => (x.H c).t.list.length - i) 0 (by omega) ⟨by first | rfl | exact gteI rfl (by omega), trivial⟩ (s_take (s_take (s_take (s_take s_nil)))) ?_
    rintro k hI
    try dsimp only at hI
    refine c_seq ?_
    refine c_seq ?_
    refine c_region ?_
    refine o_T (y_move rfl) rfl ?_
    refine o_T (y_move rfl) rfl ?_
    refine o_T (y_len Tryz.underlying46 rfl) rfl ?_
    refine o_T (y_lss rfl rfl) rfl ?_
    refine o_nil1 32 rfl rfl ?_
    refine c_cond rfl (fun h354 => ?_) (fun h354 => ?_)
    · try simp only [decide_eq_true_eq, decide_eq_false_iff_not, Bool.not_eq_true', Bool.not_eq_false', Int.not_lt, Int.not_le, Decidable.not_not, beq_iff_eq, bne_iff_ne, ne_eq, beq_eq_false_iff_ne, WA.wd] at h354
      refine c_skip ?_
      refine c_seq ?_
      refine c_block ?_
      refine c_seq ?_
      refine c_draw #[true, true, true, true, true, true, true, true, true, true, true, true, true, true, true, true, false, true] rfl (n := 18) rfl ?_
      refine d_T 0 rfl (by kernel_rfl) rfl (y_move rfl) rfl ?_
      refine d_T 1 rfl (by kernel_rfl) rfl (y_move rfl) rfl ?_
      refine d_T 2 rfl (by kernel_rfl) rfl (y_nilck rfl) rfl ?_
      refine d_T 3 rfl (by kernel_rfl) rfl (y_fa fl_53_1 rfl) rfl ?_
      refine d_T 4 rfl (by kernel_rfl) rfl (y_ia ar_42 rfl rfl (by omega) (by omega)) rfl ?_
      refine d_T 5 rfl (by kernel_rfl) rfl (y_fa fl_41_3 rfl) rfl ?_
      refine d_ld 6 rfl (by kernel_rfl) one_39 rfl (fun x hx => hx) (ms (ms (ms m0))) (Wd.g_b_t c (by omega) (by omega)) rfl ?_
      refine d_T 7 rfl (by kernel_rfl) rfl (y_move rfl) rfl ?_
      refine d_T 8 rfl (by kernel_rfl) rfl (y_move rfl) rfl ?_
      refine d_T 9 rfl (by kernel_rfl) rfl (y_is sl_46 rfl rfl (by omega) (by omega)) rfl ?_
      refine d_ld 10 rfl (by kernel_rfl) one_3 rfl (fun x hx => hx) (ms m0) (iV_get k (by omega) (by omega)) rfl ?_
      refine d_hard2A 15 11 (l := [11, 15]) rfl rfl (by kernel_rfl) (by first | exact .inl rfl | exact .inr rfl) ze_66 rfl rfl (fun b_1 => ?_) ?_
      · skip
        refine d_hard 11 rfl (by kernel_rfl) ?_
        refine o_callrv en_66 rfl (i66 hh (by assumption) _) (s_skip (s_skip (s_skip (s_take s_nil)))) rfl ?_
        refine o_stop (fun _ => (fun x hx => (ms hx))) ?_
        refine d_T 12 rfl (by kernel_rfl) rfl (y_move rfl) rfl ?_
        refine d_T 13 rfl (by kernel_rfl) rfl (y_extract rfl rfl) rfl ?_
        refine d_T 14 rfl (by kernel_rfl) rfl (y_extract rfl rfl) rfl ?_
        refine d_hard 16 rfl (by kernel_rfl) ?_
        refine o_sta ag_66 rfl rfl rfl rfl r0 (setAll_full _ _ rfl) (of_ble rfl) ?_
        refine o_stop (fun h => nomatch h) ?_
        refine d_L 17 rfl (by kernel_rfl) rfl (y_assign rfl) rfl rfl ?_
        refine d_nil0 (by kernel_rfl) rfl ?_
        refine c_seq ?_
        refine c_draw #[true, true, true, true, true, true, true, true, true, true, true, true, true, true, true, false, true] rfl (n := 17) rfl ?_
        refine d_T 0 rfl (by kernel_rfl) rfl (y_move rfl) rfl ?_
        refine d_T 1 rfl (by kernel_rfl) rfl (y_move rfl) rfl ?_
        refine d_T 2 rfl (by kernel_rfl) rfl (y_nilck rfl) rfl ?_
        refine d_T 3 rfl (by kernel_rfl) rfl (y_fa fl_53_0 rfl) rfl ?_
        refine d_T 4 rfl (by kernel_rfl) rfl (y_ia ar_34 rfl rfl (by omega) (by omega)) rfl ?_
        refine d_ld 5 rfl (by kernel_rfl) one_33 rfl (fun x hx => hx) (ms (ms (ms (ms m0)))) (Wd.g_h c (by omega) (by omega)) rfl ?_
        refine d_T 6 rfl (by kernel_rfl) rfl (y_move rfl) rfl ?_
        refine d_T 7 rfl (by kernel_rfl) rfl (y_move rfl) rfl ?_
        refine d_T 8 rfl (by kernel_rfl) rfl (y_is sl_46 rfl rfl (by omega) (by omega)) rfl ?_
        refine d_ld 9 rfl (by kernel_rfl) one_3 rfl (fun x hx => hx) (ms (ms m0)) (iV_get k (by omega) (by omega)) rfl ?_
        refine d_hard2A 14 10 (l := [10, 14]) rfl rfl (by kernel_rfl) (by first | exact .inl rfl | exact .inr rfl) ze_69 rfl rfl (fun b_2 => ?_) ?_
        · skip
          refine d_hard 10 rfl (by kernel_rfl) ?_
          refine o_call en_32 rfl (i32 hh (by assumption) (ok _ (by assumption)).1 _ ((ok _ (by assumption)).2 _)) (s_skip (s_skip (s_skip (s_skip (s_take s_nil))))) rfl ?_
          rintro v S' ⟨pc_1, gc_1, rfl, hi_1, rfl⟩
          refine o_front (s_get k0 (s_get (ks k0) (s_get (ks k0) (s_get (ks k0) (s_get (ks k0) (s_get k0 (s_get k0 s_nil))))))) ?_
          refine o_stop (fun _ => (fun x hx => (ms (ms hx)))) ?_
          refine d_T 11 rfl (by kernel_rfl) rfl (y_move rfl) rfl ?_
          refine d_T 12 rfl (by kernel_rfl) rfl (y_extract rfl rfl) rfl ?_
          refine d_T 13 rfl (by kernel_rfl) rfl (y_extract rfl rfl) rfl ?_
          refine d_hard 15 rfl (by kernel_rfl) ?_
          refine o_sta ag_69 rfl rfl (si_plain hi_1) rfl (rs r0) (setAll_full _ _ rfl) (of_ble rfl) ?_
          refine o_stop (fun h => nomatch h) ?_
          refine d_L 16 rfl (by kernel_rfl) rfl (y_assign rfl) rfl rfl ?_
          refine d_nil0 (by kernel_rfl) rfl ?_
          refine c_seq ?_
          refine c_seq ?_
          have hent1 := hent _ (getD_mem (show k < (x.H c).t.list.length by omega))
          obtain ⟨he, hk⟩ := hent1
          refine c_region ?_
          refine o_T (y_move rfl) rfl ?_
          refine o_T (y_neq rfl rfl) rfl ?_
          refine o_T (y_move rfl) rfl ?_
          refine o_split 66 rfl (fun h357 => ?_) (fun h357 => ?_)
          · try simp only [decide_eq_true_eq, decide_eq_false_iff_not, Bool.not_eq_true', Bool.not_eq_false', Int.not_lt, Int.not_le, Decidable.not_not, beq_iff_eq, bne_iff_ne, ne_eq, beq_eq_false_iff_ne, WA.wd] at h357
            first | exact absurd he h357 | (exact absurd (h357) (by rw [sameEn_self]; decide)) | (simp [sameEn_self] at h357; done)
          · try simp only [decide_eq_true_eq, decide_eq_false_iff_not, Bool.not_eq_true', Bool.not_eq_false', Int.not_lt, Int.not_le, Decidable.not_not, beq_iff_eq, bne_iff_ne, ne_eq, beq_eq_false_iff_ne, WA.wd] at h357
            refine o_take rfl rfl rfl ?_
            refine o_T (y_move rfl) rfl ?_
            refine o_take rfl rfl rfl ?_
            refine o_T (y_neq rfl rfl) rfl ?_
            refine o_T (y_pickF rfl rfl) rfl ?_
            refine o_T (y_move rfl) rfl ?_
            refine o_split 70 rfl (fun h357_1 => ?_) (fun h357_1 => ?_)
            · try simp only [decide_eq_true_eq, decide_eq_false_iff_not, Bool.not_eq_true', Bool.not_eq_false', Int.not_lt, Int.not_le, Decidable.not_not, beq_iff_eq, bne_iff_ne, ne_eq, beq_eq_false_iff_ne, WA.wd] at h357_1
              first | exact absurd he h357_1 | (exact absurd (h357_1) (by rw [sameEn_self]; decide)) | (simp [sameEn_self] at h357_1; done)
            · try simp only [decide_eq_true_eq, decide_eq_false_iff_not, Bool.not_eq_true', Bool.not_eq_false', Int.not_lt, Int.not_le, Decidable.not_not, beq_iff_eq, bne_iff_ne, ne_eq, beq_eq_false_iff_ne, WA.wd] at h357_1
              refine o_take rfl rfl rfl ?_
              refine o_ldw ag_66 rfl (ms (ms m0)) rfl rfl ?_
              refine o_take rfl rfl rfl ?_
              refine o_T (y_fa fl_69_0 rfl) rfl ?_
              refine o_take rfl rfl rfl ?_
              refine o_lda ag_66 rfl (ms m0) rfl (of_ble rfl) rfl ?_
              refine o_take rfl rfl rfl ?_
              refine o_callv en_74 rfl (t74 _ _) rfl ?_
              refine o_take rfl rfl rfl ?_
              refine o_T (y_not rfl) rfl ?_
              refine o_T (y_pickF rfl rfl) rfl ?_
              refine o_nil1 76 rfl rfl ?_
              refine c_cond rfl (fun h357_2 => ?_) (fun h357_2 => ?_)
              · try simp only [decide_eq_true_eq, decide_eq_false_iff_not, Bool.not_eq_true', Bool.not_eq_false', Int.not_lt, Int.not_le, Decidable.not_not, beq_iff_eq, bne_iff_ne, ne_eq, beq_eq_false_iff_ne, WA.wd] at h357_2
                first | exact absurd he h357_2 | (exact absurd (h357_2) (by rw [sameEn_self]; decide)) | (simp [sameEn_self] at h357_2; done)
              · try simp only [decide_eq_true_eq, decide_eq_false_iff_not, Bool.not_eq_true', Bool.not_eq_false', Int.not_lt, Int.not_le, Decidable.not_not, beq_iff_eq, bne_iff_ne, ne_eq, beq_eq_false_iff_ne, WA.wd] at h357_2
                refine c_skip ?_
                refine c_seq ?_
                refine c_region ?_
                refine o_T (y_fa fl_66_1 rfl) rfl ?_
                refine o_ld one_3 rfl (ms (ms m0)) En.g1 rfl ?_
                refine o_T (y_eql rfl rfl) rfl ?_
                refine o_nil1 79 rfl rfl ?_
                refine c_cond rfl (fun h360 => ?_) (fun h360 => ?_)
                · try simp only [decide_eq_true_eq, decide_eq_false_iff_not, Bool.not_eq_true', Bool.not_eq_false', Int.not_lt, Int.not_le, Decidable.not_not, beq_iff_eq, bne_iff_ne, ne_eq, beq_eq_false_iff_ne, WA.wd] at h360
                  refine c_seq ?_
                  refine c_seq ?_
                  refine c_region ?_
                  refine o_T (y_fa fl_66_5 rfl) rfl ?_
                  refine o_ld one_3 rfl (ms (ms m0)) En.g5 rfl ?_
                  refine o_T (y_lss rfl rfl) rfl ?_
                  refine o_T (y_move rfl) rfl ?_
                  refine o_split 83 rfl (fun h361 => ?_) (fun h361 => ?_)
                  · try simp only [decide_eq_true_eq, decide_eq_false_iff_not, Bool.not_eq_true', Bool.not_eq_false', Int.not_lt, Int.not_le, Decidable.not_not, beq_iff_eq, bne_iff_ne, ne_eq, beq_eq_false_iff_ne, WA.wd] at h361
                    exfalso; have := (hk h360).1; have := (hk h360).2; omega
                  · try simp only [decide_eq_true_eq, decide_eq_false_iff_not, Bool.not_eq_true', Bool.not_eq_false', Int.not_lt, Int.not_le, Decidable.not_not, beq_iff_eq, bne_iff_ne, ne_eq, beq_eq_false_iff_ne, WA.wd] at h361
                    refine o_take rfl rfl rfl ?_
                    refine o_T (y_fa fl_66_5 rfl) rfl ?_
                    refine o_take rfl rfl rfl ?_
                    refine o_ld one_3 rfl (ms (ms m0)) En.g5 rfl ?_
                    refine o_take rfl rfl rfl ?_
                    refine o_T (y_geq rfl rfl) rfl ?_
                    refine o_T (y_pickF rfl rfl) rfl ?_
                    refine o_nil1 87 rfl rfl ?_
                    refine c_cond rfl (fun h361_1 => ?_) (fun h361_1 => ?_)
                    · try simp only [decide_eq_true_eq, decide_eq_false_iff_not, Bool.not_eq_true', Bool.not_eq_false', Int.not_lt, Int.not_le, Decidable.not_not, beq_iff_eq, bne_iff_ne, ne_eq, beq_eq_false_iff_ne, WA.wd] at h361_1
                      exfalso; have := (hk h360).1; have := (hk h360).2; omega
                    · try simp only [decide_eq_true_eq, decide_eq_false_iff_not, Bool.not_eq_true', Bool.not_eq_false', Int.not_lt, Int.not_le, Decidable.not_not, beq_iff_eq, bne_iff_ne, ne_eq, beq_eq_false_iff_ne, WA.wd] at h361_1
                      refine c_skip ?_
                      refine c_seq ?_
                      obtain ⟨hk1, hk2⟩ := hk h360
                      obtain ⟨js, hjs, hj4⟩ : ∃ js : Nat, ((x.H c).ent ((x.H c).t.list.getD k 0)).slot = (js : Int) ∧ js < 4 := ⟨((x.H c).ent ((x.H c).t.list.getD k 0)).slot.toNat, by omega, by omega⟩
                      refine c_draw #[true, true, true, true, true, true, true, true, true, true, true, true] rfl (n := 12) rfl ?_
                      refine d_T 0 rfl (by kernel_rfl) rfl (y_move rfl) rfl ?_
                      refine d_T 1 rfl (by kernel_rfl) rfl (y_move rfl) rfl ?_
                      refine d_T 2 rfl (by kernel_rfl) rfl (y_fa fl_66_5 rfl) rfl ?_
                      refine d_ld 3 rfl (by kernel_rfl) one_3 rfl (fun x hx => hx) (ms (ms m0)) (En.g5.trans (congrArg some (congrArg (Value.int .i64) hjs))) rfl ?_
                      refine d_T 4 rfl (by kernel_rfl) rfl (y_nilck rfl) rfl ?_
                      refine d_T 5 rfl (by kernel_rfl) rfl (y_fa fl_53_1 rfl) rfl ?_
                      refine d_T 6 rfl (by kernel_rfl) rfl (y_ia ar_42 rfl rfl (by omega) (by omega)) rfl ?_
                      refine d_T 7 rfl (by kernel_rfl) rfl (y_fa fl_41_2 rfl) rfl ?_
                      refine d_T 8 rfl (by kernel_rfl) rfl (y_ia ar_38 rfl rfl (by omega) (by omega)) rfl ?_
                      refine d_ld 9 rfl (by kernel_rfl) one_37 rfl (fun x hx => hx) (ms (ms (ms (ms (ms (ms m0)))))) (Wd.g_b_c c (by omega) js (by omega) (by omega)) rfl ?_
                      refine d_hard 10 rfl (by kernel_rfl) ?_
                      refine o_call en_67 rfl (i67 hh (by assumption) (ok _ (by assumption)).1 _ (by assumption)) (s_skip (s_skip (s_skip (s_skip (s_skip (s_take s_nil)))))) rfl ?_
                      rintro v S' ⟨bk_1, rfl, rfl⟩
                      refine o_front (s_get k0 (s_get (ks k0) (s_get (ks k0) (s_get (ks k0) (s_get (ks k0) (s_get (ks k0) (s_get k0 (s_get k0 s_nil)))))))) ?_
                      refine o_stop (fun _ => (fun x hx => (ms hx))) ?_
                      refine d_L 11 rfl (by kernel_rfl) rfl (y_assign rfl) rfl rfl ?_
                      refine d_nil0 (by kernel_rfl) rfl ?_
                      refine c_seq ?_
                      obtain ⟨bi_1, hpcbi_1, hgcbi_1⟩ := InfG.ok hi_1 he
                      subst hpcbi_1 hgcbi_1
                      have hin4 : (x.H c).infoC ((x.H c).t.list.getD k 0) = ((x.H c).c js).info := by unfold Hst.infoC; rw [if_pos h360, hjs, Int.toNat_natCast]
                      refine c_row (g' := [(bi_1, .cells ((x.H c).c js).info.enc 95 (0, 0))]) (qs q0) (by rw [hin4]) ?_
                      refine c_region ?_
                      refine o_T (y_move rfl) rfl ?_
                      refine o_T (y_fa fl_69_1 rfl) rfl ?_
                      refine o_ld one_67 rfl (ms (ms m0)) Si.g8 rfl ?_
                      refine o_callrv en_75 rfl (t75 _ _ _) (s_take (s_take s_nil)) rfl ?_
                      refine o_T (y_not rfl) rfl ?_
                      refine o_nil1 103 rfl rfl ?_
                      refine c_cond rfl (fun h365 => ?_) (fun h365 => ?_)
                      · try simp only [decide_eq_true_eq, decide_eq_false_iff_not, Bool.not_eq_true', Bool.not_eq_false', Int.not_lt, Int.not_le, Decidable.not_not, beq_iff_eq, bne_iff_ne, ne_eq, beq_eq_false_iff_ne, WA.wd] at h365
                        exact absurd h365 (by decide)
                      · try simp only [decide_eq_true_eq, decide_eq_false_iff_not, Bool.not_eq_true', Bool.not_eq_false', Int.not_lt, Int.not_le, Decidable.not_not, beq_iff_eq, bne_iff_ne, ne_eq, beq_eq_false_iff_ne, WA.wd] at h365
                        refine c_skip ?_
                        refine c_region ?_
                        refine o_T (y_move rfl) rfl ?_
                        refine o_T (y_add rfl rfl (w64 (by omega))) rfl ?_
                        refine o_L (y_assign rfl) rfl rfl ?_
                        refine o_nil0 rfl ?_
                        refine ⟨(k + 1), ⟨by omega, by first | omega | (dsimp only; omega)⟩, ⟨by first | rfl | exact gteI rfl (by omega), trivial⟩, ⟨rfl, rfl⟩, _, ((s_skip (s_skip (s_skip (s_skip (s_take (s_take (s_take (s_take s_nil)))))))))⟩
                · try simp only [decide_eq_true_eq, decide_eq_false_iff_not, Bool.not_eq_true', Bool.not_eq_false', Int.not_lt, Int.not_le, Decidable.not_not, beq_iff_eq, bne_iff_ne, ne_eq, beq_eq_false_iff_ne, WA.wd] at h360
                  refine c_skip ?_
                  refine c_region ?_
                  refine o_T (y_move rfl) rfl ?_
                  refine o_T (y_add rfl rfl (w64 (by omega))) rfl ?_
                  refine o_L (y_assign rfl) rfl rfl ?_
                  refine o_nil0 rfl ?_
                  refine ⟨(k + 1), ⟨by omega, by first | omega | (dsimp only; omega)⟩, ⟨by first | rfl | exact gteI rfl (by omega), trivial⟩, ⟨rfl, rfl⟩, _, ((s_skip (s_skip (s_skip (s_take (s_take (s_take (s_take s_nil))))))))⟩
        · skip
          refine o_call en_32 rfl (i32 hh (by assumption) (ok _ (by assumption)).1 _ ((ok _ (by assumption)).2 _)) (s_skip (s_skip (s_skip (s_take s_nil)))) rfl ?_
          rintro v S' ⟨pc_2, gc_2, rfl, hi_2, rfl⟩
          refine o_front (s_get k0 (s_get (ks k0) (s_get (ks k0) (s_get (ks k0) (s_get k0 (s_get k0 s_nil)))))) ?_
          refine o_stop (fun _ => (fun x hx => (ms hx))) ?_
          refine d_T 11 rfl (by kernel_rfl) rfl (y_move rfl) rfl ?_
          refine d_T 12 rfl (by kernel_rfl) rfl (y_extract rfl rfl) rfl ?_
          refine d_T 13 rfl (by kernel_rfl) rfl (y_extract rfl rfl) rfl ?_
          refine d_hardA 14 rfl (by kernel_rfl) ze_69 rfl rfl (fun b_3 => ?_)
          refine d_hard 15 rfl (by kernel_rfl) ?_
          refine o_sta ag_69 rfl rfl (si_plain hi_2) rfl r0 (setAll_full _ _ rfl) (of_ble rfl) ?_
          refine o_stop (fun h => nomatch h) ?_
          refine d_L 16 rfl (by kernel_rfl) rfl (y_assign rfl) rfl rfl ?_
          refine d_nil0 (by kernel_rfl) rfl ?_
          refine c_seq ?_
          refine c_seq ?_
          have hent1 := hent _ (getD_mem (show k < (x.H c).t.list.length by omega))
          obtain ⟨he, hk⟩ := hent1
          refine c_region ?_
          refine o_T (y_move rfl) rfl ?_
          refine o_T (y_neq rfl rfl) rfl ?_
          refine o_T (y_move rfl) rfl ?_
          refine o_split 66 rfl (fun h357 => ?_) (fun h357 => ?_)
          · try simp only [decide_eq_true_eq, decide_eq_false_iff_not, Bool.not_eq_true', Bool.not_eq_false', Int.not_lt, Int.not_le, Decidable.not_not, beq_iff_eq, bne_iff_ne, ne_eq, beq_eq_false_iff_ne, WA.wd] at h357
            first | exact absurd he h357 | (exact absurd (h357) (by rw [sameEn_self]; decide)) | (simp [sameEn_self] at h357; done)
          · try simp only [decide_eq_true_eq, decide_eq_false_iff_not, Bool.not_eq_true', Bool.not_eq_false', Int.not_lt, Int.not_le, Decidable.not_not, beq_iff_eq, bne_iff_ne, ne_eq, beq_eq_false_iff_ne, WA.wd] at h357
            refine o_take rfl rfl rfl ?_
            refine o_T (y_move rfl) rfl ?_
            refine o_take rfl rfl rfl ?_
            refine o_T (y_neq rfl rfl) rfl ?_
            refine o_T (y_pickF rfl rfl) rfl ?_
            refine o_T (y_move rfl) rfl ?_
            refine o_split 70 rfl (fun h357_1 => ?_) (fun h357_1 => ?_)
            · try simp only [decide_eq_true_eq, decide_eq_false_iff_not, Bool.not_eq_true', Bool.not_eq_false', Int.not_lt, Int.not_le, Decidable.not_not, beq_iff_eq, bne_iff_ne, ne_eq, beq_eq_false_iff_ne, WA.wd] at h357_1
              first | exact absurd he h357_1 | (exact absurd (h357_1) (by rw [sameEn_self]; decide)) | (simp [sameEn_self] at h357_1; done)
            · try simp only [decide_eq_true_eq, decide_eq_false_iff_not, Bool.not_eq_true', Bool.not_eq_false', Int.not_lt, Int.not_le, Decidable.not_not, beq_iff_eq, bne_iff_ne, ne_eq, beq_eq_false_iff_ne, WA.wd] at h357_1
              refine o_take rfl rfl rfl ?_
              refine o_ldw ag_66 rfl (ms (ms m0)) rfl rfl ?_
              refine o_take rfl rfl rfl ?_
              refine o_T (y_fa fl_69_0 rfl) rfl ?_
              refine o_take rfl rfl rfl ?_
              refine o_lda ag_66 rfl m0 rfl (of_ble rfl) rfl ?_
              refine o_take rfl rfl rfl ?_
              refine o_callv en_74 rfl (t74 _ _) rfl ?_
              refine o_take rfl rfl rfl ?_
              refine o_T (y_not rfl) rfl ?_
              refine o_T (y_pickF rfl rfl) rfl ?_
              refine o_nil1 76 rfl rfl ?_
              refine c_cond rfl (fun h357_2 => ?_) (fun h357_2 => ?_)
              · try simp only [decide_eq_true_eq, decide_eq_false_iff_not, Bool.not_eq_true', Bool.not_eq_false', Int.not_lt, Int.not_le, Decidable.not_not, beq_iff_eq, bne_iff_ne, ne_eq, beq_eq_false_iff_ne, WA.wd] at h357_2
                first | exact absurd he h357_2 | (exact absurd (h357_2) (by rw [sameEn_self]; decide)) | (simp [sameEn_self] at h357_2; done)
              · try simp only [decide_eq_true_eq, decide_eq_false_iff_not, Bool.not_eq_true', Bool.not_eq_false', Int.not_lt, Int.not_le, Decidable.not_not, beq_iff_eq, bne_iff_ne, ne_eq, beq_eq_false_iff_ne, WA.wd] at h357_2
                refine c_skip ?_
                refine c_seq ?_
                refine c_region ?_
                refine o_T (y_fa fl_66_1 rfl) rfl ?_
                refine o_ld one_3 rfl (ms (ms m0)) En.g1 rfl ?_
                refine o_T (y_eql rfl rfl) rfl ?_
                refine o_nil1 79 rfl rfl ?_
                refine c_cond rfl (fun h360 => ?_) (fun h360 => ?_)
                · try simp only [decide_eq_true_eq, decide_eq_false_iff_not, Bool.not_eq_true', Bool.not_eq_false', Int.not_lt, Int.not_le, Decidable.not_not, beq_iff_eq, bne_iff_ne, ne_eq, beq_eq_false_iff_ne, WA.wd] at h360
                  refine c_seq ?_
                  refine c_seq ?_
                  refine c_region ?_
                  refine o_T (y_fa fl_66_5 rfl) rfl ?_
                  refine o_ld one_3 rfl (ms (ms m0)) En.g5 rfl ?_
                  refine o_T (y_lss rfl rfl) rfl ?_
                  refine o_T (y_move rfl) rfl ?_
                  refine o_split 83 rfl (fun h361 => ?_) (fun h361 => ?_)
                  · try simp only [decide_eq_true_eq, decide_eq_false_iff_not, Bool.not_eq_true', Bool.not_eq_false', Int.not_lt, Int.not_le, Decidable.not_not, beq_iff_eq, bne_iff_ne, ne_eq, beq_eq_false_iff_ne, WA.wd] at h361
                    exfalso; have := (hk h360).1; have := (hk h360).2; omega
                  · try simp only [decide_eq_true_eq, decide_eq_false_iff_not, Bool.not_eq_true', Bool.not_eq_false', Int.not_lt, Int.not_le, Decidable.not_not, beq_iff_eq, bne_iff_ne, ne_eq, beq_eq_false_iff_ne, WA.wd] at h361
                    refine o_take rfl rfl rfl ?_
                    refine o_T (y_fa fl_66_5 rfl) rfl ?_
                    refine o_take rfl rfl rfl ?_
                    refine o_ld one_3 rfl (ms (ms m0)) En.g5 rfl ?_
                    refine o_take rfl rfl rfl ?_
                    refine o_T (y_geq rfl rfl) rfl ?_
                    refine o_T (y_pickF rfl rfl) rfl ?_
                    refine o_nil1 87 rfl rfl ?_
                    refine c_cond rfl (fun h361_1 => ?_) (fun h361_1 => ?_)
                    · try simp only [decide_eq_true_eq, decide_eq_false_iff_not, Bool.not_eq_true', Bool.not_eq_false', Int.not_lt, Int.not_le, Decidable.not_not, beq_iff_eq, bne_iff_ne, ne_eq, beq_eq_false_iff_ne, WA.wd] at h361_1
                      exfalso; have := (hk h360).1; have := (hk h360).2; omega
                    · try simp only [decide_eq_true_eq, decide_eq_false_iff_not, Bool.not_eq_true', Bool.not_eq_false', Int.not_lt, Int.not_le, Decidable.not_not, beq_iff_eq, bne_iff_ne, ne_eq, beq_eq_false_iff_ne, WA.wd] at h361_1
                      refine c_skip ?_
                      refine c_seq ?_
                      obtain ⟨hk1, hk2⟩ := hk h360
                      obtain ⟨js, hjs, hj4⟩ : ∃ js : Nat, ((x.H c).ent ((x.H c).t.list.getD k 0)).slot = (js : Int) ∧ js < 4 := ⟨((x.H c).ent ((x.H c).t.list.getD k 0)).slot.toNat, by omega, by omega⟩
                      refine c_draw #[true, true, true, true, true, true, true, true, true, true, true, true] rfl (n := 12) rfl ?_
                      refine d_T 0 rfl (by kernel_rfl) rfl (y_move rfl) rfl ?_
                      refine d_T 1 rfl (by kernel_rfl) rfl (y_move rfl) rfl ?_
                      refine d_T 2 rfl (by kernel_rfl) rfl (y_fa fl_66_5 rfl) rfl ?_
                      refine d_ld 3 rfl (by kernel_rfl) one_3 rfl (fun x hx => hx) (ms (ms m0)) (En.g5.trans (congrArg some (congrArg (Value.int .i64) hjs))) rfl ?_
                      refine d_T 4 rfl (by kernel_rfl) rfl (y_nilck rfl) rfl ?_
                      refine d_T 5 rfl (by kernel_rfl) rfl (y_fa fl_53_1 rfl) rfl ?_
                      refine d_T 6 rfl (by kernel_rfl) rfl (y_ia ar_42 rfl rfl (by omega) (by omega)) rfl ?_
                      refine d_T 7 rfl (by kernel_rfl) rfl (y_fa fl_41_2 rfl) rfl ?_
                      refine d_T 8 rfl (by kernel_rfl) rfl (y_ia ar_38 rfl rfl (by omega) (by omega)) rfl ?_
                      refine d_ld 9 rfl (by kernel_rfl) one_37 rfl (fun x hx => hx) (ms (ms (ms (ms (ms (ms m0)))))) (Wd.g_b_c c (by omega) js (by omega) (by omega)) rfl ?_
                      refine d_hard 10 rfl (by kernel_rfl) ?_
                      refine o_call en_67 rfl (i67 hh (by assumption) (ok _ (by assumption)).1 _ (by assumption)) (s_skip (s_skip (s_skip (s_skip (s_skip (s_take s_nil)))))) rfl ?_
                      rintro v S' ⟨bk_2, rfl, rfl⟩
                      refine o_front (s_get k0 (s_get (ks k0) (s_get (ks k0) (s_get (ks k0) (s_get (ks k0) (s_get (ks k0) (s_get k0 (s_get k0 s_nil)))))))) ?_
                      refine o_stop (fun _ => (fun x hx => (ms hx))) ?_
                      refine d_L 11 rfl (by kernel_rfl) rfl (y_assign rfl) rfl rfl ?_
                      refine d_nil0 (by kernel_rfl) rfl ?_
                      refine c_seq ?_
                      obtain ⟨bi_2, hpcbi_2, hgcbi_2⟩ := InfG.ok hi_2 he
                      subst hpcbi_2 hgcbi_2
                      have hin4 : (x.H c).infoC ((x.H c).t.list.getD k 0) = ((x.H c).c js).info := by unfold Hst.infoC; rw [if_pos h360, hjs, Int.toNat_natCast]
                      refine c_row (g' := [(bi_2, .cells ((x.H c).c js).info.enc 95 (0, 0))]) (qs (qs q0)) (by rw [hin4]) ?_
                      refine c_region ?_
                      refine o_T (y_move rfl) rfl ?_
                      refine o_T (y_fa fl_69_1 rfl) rfl ?_
                      refine o_ld one_67 rfl (ms m0) Si.g8 rfl ?_
                      refine o_callrv en_75 rfl (t75 _ _ _) (s_take (s_skip (s_take s_nil))) rfl ?_
                      refine o_T (y_not rfl) rfl ?_
                      refine o_nil1 103 rfl rfl ?_
                      refine c_cond rfl (fun h365 => ?_) (fun h365 => ?_)
                      · try simp only [decide_eq_true_eq, decide_eq_false_iff_not, Bool.not_eq_true', Bool.not_eq_false', Int.not_lt, Int.not_le, Decidable.not_not, beq_iff_eq, bne_iff_ne, ne_eq, beq_eq_false_iff_ne, WA.wd] at h365
                        exact absurd h365 (by decide)
                      · try simp only [decide_eq_true_eq, decide_eq_false_iff_not, Bool.not_eq_true', Bool.not_eq_false', Int.not_lt, Int.not_le, Decidable.not_not, beq_iff_eq, bne_iff_ne, ne_eq, beq_eq_false_iff_ne, WA.wd] at h365
                        refine c_skip ?_
                        refine c_region ?_
                        refine o_T (y_move rfl) rfl ?_
                        refine o_T (y_add rfl rfl (w64 (by omega))) rfl ?_
                        refine o_L (y_assign rfl) rfl rfl ?_
                        refine o_nil0 rfl ?_
                        refine ⟨(k + 1), ⟨by omega, by first | omega | (dsimp only; omega)⟩, ⟨by first | rfl | exact gteI rfl (by omega), trivial⟩, ⟨rfl, rfl⟩, _, ((s_skip (s_skip (s_skip (s_skip (s_take (s_take (s_take (s_take s_nil)))))))))⟩
                · try simp only [decide_eq_true_eq, decide_eq_false_iff_not, Bool.not_eq_true', Bool.not_eq_false', Int.not_lt, Int.not_le, Decidable.not_not, beq_iff_eq, bne_iff_ne, ne_eq, beq_eq_false_iff_ne, WA.wd] at h360
                  refine c_skip ?_
                  refine c_region ?_
                  refine o_T (y_move rfl) rfl ?_
                  refine o_T (y_add rfl rfl (w64 (by omega))) rfl ?_
                  refine o_L (y_assign rfl) rfl rfl ?_
                  refine o_nil0 rfl ?_
                  refine ⟨(k + 1), ⟨by omega, by first | omega | (dsimp only; omega)⟩, ⟨by first | rfl | exact gteI rfl (by omega), trivial⟩, ⟨rfl, rfl⟩, _, ((s_skip (s_skip (s_skip (s_take (s_take (s_take (s_take s_nil))))))))⟩
      · skip
        refine o_callrv en_66 rfl (i66 hh (by assumption) _) (s_skip (s_skip (s_take s_nil))) rfl ?_
        refine o_stop (fun _ => (fun x hx => hx)) ?_
        refine d_T 12 rfl (by kernel_rfl) rfl (y_move rfl) rfl ?_
        refine d_T 13 rfl (by kernel_rfl) rfl (y_extract rfl rfl) rfl ?_
        refine d_T 14 rfl (by kernel_rfl) rfl (y_extract rfl rfl) rfl ?_
        refine d_hardA 15 rfl (by kernel_rfl) ze_66 rfl rfl (fun b_4 => ?_)
        refine d_hard 16 rfl (by kernel_rfl) ?_
        refine o_sta ag_66 rfl rfl rfl rfl r0 (setAll_full _ _ rfl) (of_ble rfl) ?_
        refine o_stop (fun h => nomatch h) ?_
        refine d_L 17 rfl (by kernel_rfl) rfl (y_assign rfl) rfl rfl ?_
        refine d_nil0 (by kernel_rfl) rfl ?_
        refine c_seq ?_
        refine c_draw #[true, true, true, true, true, true, true, true, true, true, true, true, true, true, true, false, true] rfl (n := 17) rfl ?_
        refine d_T 0 rfl (by kernel_rfl) rfl (y_move rfl) rfl ?_
        refine d_T 1 rfl (by kernel_rfl) rfl (y_move rfl) rfl ?_
        refine d_T 2 rfl (by kernel_rfl) rfl (y_nilck rfl) rfl ?_
        refine d_T 3 rfl (by kernel_rfl) rfl (y_fa fl_53_0 rfl) rfl ?_
        refine d_T 4 rfl (by kernel_rfl) rfl (y_ia ar_34 rfl rfl (by omega) (by omega)) rfl ?_
        refine d_ld 5 rfl (by kernel_rfl) one_33 rfl (fun x hx => hx) (ms (ms (ms (ms m0)))) (Wd.g_h c (by omega) (by omega)) rfl ?_
        refine d_T 6 rfl (by kernel_rfl) rfl (y_move rfl) rfl ?_
        refine d_T 7 rfl (by kernel_rfl) rfl (y_move rfl) rfl ?_
        refine d_T 8 rfl (by kernel_rfl) rfl (y_is sl_46 rfl rfl (by omega) (by omega)) rfl ?_
        refine d_ld 9 rfl (by kernel_rfl) one_3 rfl (fun x hx => hx) (ms (ms m0)) (iV_get k (by omega) (by omega)) rfl ?_
        refine d_hard2A 14 10 (l := [10, 14]) rfl rfl (by kernel_rfl) (by first | exact .inl rfl | exact .inr rfl) ze_69 rfl rfl (fun b_5 => ?_) ?_
        · skip
          refine d_hard 10 rfl (by kernel_rfl) ?_
          refine o_call en_32 rfl (i32 hh (by assumption) (ok _ (by assumption)).1 _ ((ok _ (by assumption)).2 _)) (s_skip (s_skip (s_skip (s_skip (s_take s_nil))))) rfl ?_
          rintro v S' ⟨pc_3, gc_3, rfl, hi_3, rfl⟩
          refine o_front (s_get k0 (s_get (ks k0) (s_get (ks k0) (s_get (ks k0) (s_get (ks k0) (s_get k0 (s_get k0 s_nil))))))) ?_
          refine o_stop (fun _ => (fun x hx => (ms (ms hx)))) ?_
          refine d_T 11 rfl (by kernel_rfl) rfl (y_move rfl) rfl ?_
          refine d_T 12 rfl (by kernel_rfl) rfl (y_extract rfl rfl) rfl ?_
          refine d_T 13 rfl (by kernel_rfl) rfl (y_extract rfl rfl) rfl ?_
          refine d_hard 15 rfl (by kernel_rfl) ?_
          refine o_sta ag_69 rfl rfl (si_plain hi_3) rfl (rs r0) (setAll_full _ _ rfl) (of_ble rfl) ?_
          refine o_stop (fun h => nomatch h) ?_
          refine d_L 16 rfl (by kernel_rfl) rfl (y_assign rfl) rfl rfl ?_
          refine d_nil0 (by kernel_rfl) rfl ?_
          refine c_seq ?_
          refine c_seq ?_
          have hent1 := hent _ (getD_mem (show k < (x.H c).t.list.length by omega))
          obtain ⟨he, hk⟩ := hent1
          refine c_region ?_
          refine o_T (y_move rfl) rfl ?_
          refine o_T (y_neq rfl rfl) rfl ?_
          refine o_T (y_move rfl) rfl ?_
          refine o_split 66 rfl (fun h357 => ?_) (fun h357 => ?_)
          · try simp only [decide_eq_true_eq, decide_eq_false_iff_not, Bool.not_eq_true', Bool.not_eq_false', Int.not_lt, Int.not_le, Decidable.not_not, beq_iff_eq, bne_iff_ne, ne_eq, beq_eq_false_iff_ne, WA.wd] at h357
            first | exact absurd he h357 | (exact absurd (h357) (by rw [sameEn_self]; decide)) | (simp [sameEn_self] at h357; done)
          · try simp only [decide_eq_true_eq, decide_eq_false_iff_not, Bool.not_eq_true', Bool.not_eq_false', Int.not_lt, Int.not_le, Decidable.not_not, beq_iff_eq, bne_iff_ne, ne_eq, beq_eq_false_iff_ne, WA.wd] at h357
            refine o_take rfl rfl rfl ?_
            refine o_T (y_move rfl) rfl ?_
            refine o_take rfl rfl rfl ?_
            refine o_T (y_neq rfl rfl) rfl ?_
            refine o_T (y_pickF rfl rfl) rfl ?_
            refine o_T (y_move rfl) rfl ?_
            refine o_split 70 rfl (fun h357_1 => ?_) (fun h357_1 => ?_)
            · try simp only [decide_eq_true_eq, decide_eq_false_iff_not, Bool.not_eq_true', Bool.not_eq_false', Int.not_lt, Int.not_le, Decidable.not_not, beq_iff_eq, bne_iff_ne, ne_eq, beq_eq_false_iff_ne, WA.wd] at h357_1
              first | exact absurd he h357_1 | (exact absurd (h357_1) (by rw [sameEn_self]; decide)) | (simp [sameEn_self] at h357_1; done)
            · try simp only [decide_eq_true_eq, decide_eq_false_iff_not, Bool.not_eq_true', Bool.not_eq_false', Int.not_lt, Int.not_le, Decidable.not_not, beq_iff_eq, bne_iff_ne, ne_eq, beq_eq_false_iff_ne, WA.wd] at h357_1
              refine o_take rfl rfl rfl ?_
              refine o_ldw ag_66 rfl (ms (ms m0)) rfl rfl ?_
              refine o_take rfl rfl rfl ?_
              refine o_T (y_fa fl_69_0 rfl) rfl ?_
              refine o_take rfl rfl rfl ?_
              refine o_lda ag_66 rfl (ms m0) rfl (of_ble rfl) rfl ?_
              refine o_take rfl rfl rfl ?_
              refine o_callv en_74 rfl (t74 _ _) rfl ?_
              refine o_take rfl rfl rfl ?_
              refine o_T (y_not rfl) rfl ?_
              refine o_T (y_pickF rfl rfl) rfl ?_
              refine o_nil1 76 rfl rfl ?_
              refine c_cond rfl (fun h357_2 => ?_) (fun h357_2 => ?_)
              · try simp only [decide_eq_true_eq, decide_eq_false_iff_not, Bool.not_eq_true', Bool.not_eq_false', Int.not_lt, Int.not_le, Decidable.not_not, beq_iff_eq, bne_iff_ne, ne_eq, beq_eq_false_iff_ne, WA.wd] at h357_2
                first | exact absurd he h357_2 | (exact absurd (h357_2) (by rw [sameEn_self]; decide)) | (simp [sameEn_self] at h357_2; done)
              · try simp only [decide_eq_true_eq, decide_eq_false_iff_not, Bool.not_eq_true', Bool.not_eq_false', Int.not_lt, Int.not_le, Decidable.not_not, beq_iff_eq, bne_iff_ne, ne_eq, beq_eq_false_iff_ne, WA.wd] at h357_2
                refine c_skip ?_
                refine c_seq ?_
                refine c_region ?_
                refine o_T (y_fa fl_66_1 rfl) rfl ?_
                refine o_ld one_3 rfl (ms (ms m0)) En.g1 rfl ?_
                refine o_T (y_eql rfl rfl) rfl ?_
                refine o_nil1 79 rfl rfl ?_
                refine c_cond rfl (fun h360 => ?_) (fun h360 => ?_)
                · try simp only [decide_eq_true_eq, decide_eq_false_iff_not, Bool.not_eq_true', Bool.not_eq_false', Int.not_lt, Int.not_le, Decidable.not_not, beq_iff_eq, bne_iff_ne, ne_eq, beq_eq_false_iff_ne, WA.wd] at h360
                  refine c_seq ?_
                  refine c_seq ?_
                  refine c_region ?_
                  refine o_T (y_fa fl_66_5 rfl) rfl ?_
                  refine o_ld one_3 rfl (ms (ms m0)) En.g5 rfl ?_
                  refine o_T (y_lss rfl rfl) rfl ?_
                  refine o_T (y_move rfl) rfl ?_
                  refine o_split 83 rfl (fun h361 => ?_) (fun h361 => ?_)
                  · try simp only [decide_eq_true_eq, decide_eq_false_iff_not, Bool.not_eq_true', Bool.not_eq_false', Int.not_lt, Int.not_le, Decidable.not_not, beq_iff_eq, bne_iff_ne, ne_eq, beq_eq_false_iff_ne, WA.wd] at h361
                    exfalso; have := (hk h360).1; have := (hk h360).2; omega
                  · try simp only [decide_eq_true_eq, decide_eq_false_iff_not, Bool.not_eq_true', Bool.not_eq_false', Int.not_lt, Int.not_le, Decidable.not_not, beq_iff_eq, bne_iff_ne, ne_eq, beq_eq_false_iff_ne, WA.wd] at h361
                    refine o_take rfl rfl rfl ?_
                    refine o_T (y_fa fl_66_5 rfl) rfl ?_
                    refine o_take rfl rfl rfl ?_
                    refine o_ld one_3 rfl (ms (ms m0)) En.g5 rfl ?_
                    refine o_take rfl rfl rfl ?_
                    refine o_T (y_geq rfl rfl) rfl ?_
                    refine o_T (y_pickF rfl rfl) rfl ?_
                    refine o_nil1 87 rfl rfl ?_
                    refine c_cond rfl (fun h361_1 => ?_) (fun h361_1 => ?_)
                    · try simp only [decide_eq_true_eq, decide_eq_false_iff_not, Bool.not_eq_true', Bool.not_eq_false', Int.not_lt, Int.not_le, Decidable.not_not, beq_iff_eq, bne_iff_ne, ne_eq, beq_eq_false_iff_ne, WA.wd] at h361_1
                      exfalso; have := (hk h360).1; have := (hk h360).2; omega
                    · try simp only [decide_eq_true_eq, decide_eq_false_iff_not, Bool.not_eq_true', Bool.not_eq_false', Int.not_lt, Int.not_le, Decidable.not_not, beq_iff_eq, bne_iff_ne, ne_eq, beq_eq_false_iff_ne, WA.wd] at h361_1
                      refine c_skip ?_
                      refine c_seq ?_
                      obtain ⟨hk1, hk2⟩ := hk h360
                      obtain ⟨js, hjs, hj4⟩ : ∃ js : Nat, ((x.H c).ent ((x.H c).t.list.getD k 0)).slot = (js : Int) ∧ js < 4 := ⟨((x.H c).ent ((x.H c).t.list.getD k 0)).slot.toNat, by omega, by omega⟩
                      refine c_draw #[true, true, true, true, true, true, true, true, true, true, true, true] rfl (n := 12) rfl ?_
                      refine d_T 0 rfl (by kernel_rfl) rfl (y_move rfl) rfl ?_
                      refine d_T 1 rfl (by kernel_rfl) rfl (y_move rfl) rfl ?_
                      refine d_T 2 rfl (by kernel_rfl) rfl (y_fa fl_66_5 rfl) rfl ?_
                      refine d_ld 3 rfl (by kernel_rfl) one_3 rfl (fun x hx => hx) (ms (ms m0)) (En.g5.trans (congrArg some (congrArg (Value.int .i64) hjs))) rfl ?_
                      refine d_T 4 rfl (by kernel_rfl) rfl (y_nilck rfl) rfl ?_
                      refine d_T 5 rfl (by kernel_rfl) rfl (y_fa fl_53_1 rfl) rfl ?_
                      refine d_T 6 rfl (by kernel_rfl) rfl (y_ia ar_42 rfl rfl (by omega) (by omega)) rfl ?_
                      refine d_T 7 rfl (by kernel_rfl) rfl (y_fa fl_41_2 rfl) rfl ?_
                      refine d_T 8 rfl (by kernel_rfl) rfl (y_ia ar_38 rfl rfl (by omega) (by omega)) rfl ?_
                      refine d_ld 9 rfl (by kernel_rfl) one_37 rfl (fun x hx => hx) (ms (ms (ms (ms (ms (ms m0)))))) (Wd.g_b_c c (by omega) js (by omega) (by omega)) rfl ?_
                      refine d_hard 10 rfl (by kernel_rfl) ?_
                      refine o_call en_67 rfl (i67 hh (by assumption) (ok _ (by assumption)).1 _ (by assumption)) (s_skip (s_skip (s_skip (s_skip (s_skip (s_take s_nil)))))) rfl ?_
                      rintro v S' ⟨bk_3, rfl, rfl⟩
                      refine o_front (s_get k0 (s_get (ks k0) (s_get (ks k0) (s_get (ks k0) (s_get (ks k0) (s_get (ks k0) (s_get k0 (s_get k0 s_nil)))))))) ?_
                      refine o_stop (fun _ => (fun x hx => (ms hx))) ?_
                      refine d_L 11 rfl (by kernel_rfl) rfl (y_assign rfl) rfl rfl ?_
                      refine d_nil0 (by kernel_rfl) rfl ?_
                      refine c_seq ?_
                      obtain ⟨bi_3, hpcbi_3, hgcbi_3⟩ := InfG.ok hi_3 he
                      subst hpcbi_3 hgcbi_3
                      have hin4 : (x.H c).infoC ((x.H c).t.list.getD k 0) = ((x.H c).c js).info := by unfold Hst.infoC; rw [if_pos h360, hjs, Int.toNat_natCast]
                      refine c_row (g' := [(bi_3, .cells ((x.H c).c js).info.enc 95 (0, 0))]) (qs q0) (by rw [hin4]) ?_
                      refine c_region ?_
                      refine o_T (y_move rfl) rfl ?_
                      refine o_T (y_fa fl_69_1 rfl) rfl ?_
                      refine o_ld one_67 rfl (ms (ms m0)) Si.g8 rfl ?_
                      refine o_callrv en_75 rfl (t75 _ _ _) (s_take (s_take s_nil)) rfl ?_
                      refine o_T (y_not rfl) rfl ?_
                      refine o_nil1 103 rfl rfl ?_
                      refine c_cond rfl (fun h365 => ?_) (fun h365 => ?_)
                      · try simp only [decide_eq_true_eq, decide_eq_false_iff_not, Bool.not_eq_true', Bool.not_eq_false', Int.not_lt, Int.not_le, Decidable.not_not, beq_iff_eq, bne_iff_ne, ne_eq, beq_eq_false_iff_ne, WA.wd] at h365
                        exact absurd h365 (by decide)
                      · try simp only [decide_eq_true_eq, decide_eq_false_iff_not, Bool.not_eq_true', Bool.not_eq_false', Int.not_lt, Int.not_le, Decidable.not_not, beq_iff_eq, bne_iff_ne, ne_eq, beq_eq_false_iff_ne, WA.wd] at h365
                        refine c_skip ?_
                        refine c_region ?_
                        refine o_T (y_move rfl) rfl ?_
                        refine o_T (y_add rfl rfl (w64 (by omega))) rfl ?_
                        refine o_L (y_assign rfl) rfl rfl ?_
                        refine o_nil0 rfl ?_
                        refine ⟨(k + 1), ⟨by omega, by first | omega | (dsimp only; omega)⟩, ⟨by first | rfl | exact gteI rfl (by omega), trivial⟩, ⟨rfl, rfl⟩, _, ((s_skip (s_skip (s_skip (s_skip (s_take (s_take (s_take (s_take s_nil)))))))))⟩
                · try simp only [decide_eq_true_eq, decide_eq_false_iff_not, Bool.not_eq_true', Bool.not_eq_false', Int.not_lt, Int.not_le, Decidable.not_not, beq_iff_eq, bne_iff_ne, ne_eq, beq_eq_false_iff_ne, WA.wd] at h360
                  refine c_skip ?_
                  refine c_region ?_
                  refine o_T (y_move rfl) rfl ?_
                  refine o_T (y_add rfl rfl (w64 (by omega))) rfl ?_
                  refine o_L (y_assign rfl) rfl rfl ?_
                  refine o_nil0 rfl ?_
                  refine ⟨(k + 1), ⟨by omega, by first | omega | (dsimp only; omega)⟩, ⟨by first | rfl | exact gteI rfl (by omega), trivial⟩, ⟨rfl, rfl⟩, _, ((s_skip (s_skip (s_skip (s_take (s_take (s_take (s_take s_nil))))))))⟩
        · skip
          refine o_call en_32 rfl (i32 hh (by assumption) (ok _ (by assumption)).1 _ ((ok _ (by assumption)).2 _)) (s_skip (s_skip (s_skip (s_take s_nil)))) rfl ?_
          rintro v S' ⟨pc_4, gc_4, rfl, hi_4, rfl⟩
          refine o_front (s_get k0 (s_get (ks k0) (s_get (ks k0) (s_get (ks k0) (s_get k0 (s_get k0 s_nil)))))) ?_
          refine o_stop (fun _ => (fun x hx => (ms hx))) ?_
          refine d_T 11 rfl (by kernel_rfl) rfl (y_move rfl) rfl ?_
          refine d_T 12 rfl (by kernel_rfl) rfl (y_extract rfl rfl) rfl ?_
          refine d_T 13 rfl (by kernel_rfl) rfl (y_extract rfl rfl) rfl ?_
          refine d_hardA 14 rfl (by kernel_rfl) ze_69 rfl rfl (fun b_6 => ?_)
          refine d_hard 15 rfl (by kernel_rfl) ?_
          refine o_sta ag_69 rfl rfl (si_plain hi_4) rfl r0 (setAll_full _ _ rfl) (of_ble rfl) ?_
          refine o_stop (fun h => nomatch h) ?_
          refine d_L 16 rfl (by kernel_rfl) rfl (y_assign rfl) rfl rfl ?_
          refine d_nil0 (by kernel_rfl) rfl ?_
          refine c_seq ?_
          refine c_seq ?_
          have hent1 := hent _ (getD_mem (show k < (x.H c).t.list.length by omega))
          obtain ⟨he, hk⟩ := hent1
          refine c_region ?_
          refine o_T (y_move rfl) rfl ?_
          refine o_T (y_neq rfl rfl) rfl ?_
          refine o_T (y_move rfl) rfl ?_
          refine o_split 66 rfl (fun h357 => ?_) (fun h357 => ?_)
          · try simp only [decide_eq_true_eq, decide_eq_false_iff_not, Bool.not_eq_true', Bool.not_eq_false', Int.not_lt, Int.not_le, Decidable.not_not, beq_iff_eq, bne_iff_ne, ne_eq, beq_eq_false_iff_ne, WA.wd] at h357
            first | exact absurd he h357 | (exact absurd (h357) (by rw [sameEn_self]; decide)) | (simp [sameEn_self] at h357; done)
          · try simp only [decide_eq_true_eq, decide_eq_false_iff_not, Bool.not_eq_true', Bool.not_eq_false', Int.not_lt, Int.not_le, Decidable.not_not, beq_iff_eq, bne_iff_ne, ne_eq, beq_eq_false_iff_ne, WA.wd] at h357
            refine o_take rfl rfl rfl ?_
            refine o_T (y_move rfl) rfl ?_
            refine o_take rfl rfl rfl ?_
            refine o_T (y_neq rfl rfl) rfl ?_
            refine o_T (y_pickF rfl rfl) rfl ?_
            refine o_T (y_move rfl) rfl ?_
            refine o_split 70 rfl (fun h357_1 => ?_) (fun h357_1 => ?_)
            · try simp only [decide_eq_true_eq, decide_eq_false_iff_not, Bool.not_eq_true', Bool.not_eq_false', Int.not_lt, Int.not_le, Decidable.not_not, beq_iff_eq, bne_iff_ne, ne_eq, beq_eq_false_iff_ne, WA.wd] at h357_1
              first | exact absurd he h357_1 | (exact absurd (h357_1) (by rw [sameEn_self]; decide)) | (simp [sameEn_self] at h357_1; done)
            · try simp only [decide_eq_true_eq, decide_eq_false_iff_not, Bool.not_eq_true', Bool.not_eq_false', Int.not_lt, Int.not_le, Decidable.not_not, beq_iff_eq, bne_iff_ne, ne_eq, beq_eq_false_iff_ne, WA.wd] at h357_1
              refine o_take rfl rfl rfl ?_
              refine o_ldw ag_66 rfl (ms (ms m0)) rfl rfl ?_
              refine o_take rfl rfl rfl ?_
              refine o_T (y_fa fl_69_0 rfl) rfl ?_
              refine o_take rfl rfl rfl ?_
              refine o_lda ag_66 rfl m0 rfl (of_ble rfl) rfl ?_
              refine o_take rfl rfl rfl ?_
              refine o_callv en_74 rfl (t74 _ _) rfl ?_
              refine o_take rfl rfl rfl ?_
              refine o_T (y_not rfl) rfl ?_
              refine o_T (y_pickF rfl rfl) rfl ?_
              refine o_nil1 76 rfl rfl ?_
              refine c_cond rfl (fun h357_2 => ?_) (fun h357_2 => ?_)
              · try simp only [decide_eq_true_eq, decide_eq_false_iff_not, Bool.not_eq_true', Bool.not_eq_false', Int.not_lt, Int.not_le, Decidable.not_not, beq_iff_eq, bne_iff_ne, ne_eq, beq_eq_false_iff_ne, WA.wd] at h357_2
                first | exact absurd he h357_2 | (exact absurd (h357_2) (by rw [sameEn_self]; decide)) | (simp [sameEn_self] at h357_2; done)
              · try simp only [decide_eq_true_eq, decide_eq_false_iff_not, Bool.not_eq_true', Bool.not_eq_false', Int.not_lt, Int.not_le, Decidable.not_not, beq_iff_eq, bne_iff_ne, ne_eq, beq_eq_false_iff_ne, WA.wd] at h357_2
                refine c_skip ?_
                refine c_seq ?_
                refine c_region ?_
                refine o_T (y_fa fl_66_1 rfl) rfl ?_
                refine o_ld one_3 rfl (ms (ms m0)) En.g1 rfl ?_
                refine o_T (y_eql rfl rfl) rfl ?_
                refine o_nil1 79 rfl rfl ?_
                refine c_cond rfl (fun h360 => ?_) (fun h360 => ?_)
                · try simp only [decide_eq_true_eq, decide_eq_false_iff_not, Bool.not_eq_true', Bool.not_eq_false', Int.not_lt, Int.not_le, Decidable.not_not, beq_iff_eq, bne_iff_ne, ne_eq, beq_eq_false_iff_ne, WA.wd] at h360
                  refine c_seq ?_
                  refine c_seq ?_
                  refine c_region ?_
                  refine o_T (y_fa fl_66_5 rfl) rfl ?_
                  refine o_ld one_3 rfl (ms (ms m0)) En.g5 rfl ?_
                  refine o_T (y_lss rfl rfl) rfl ?_
                  refine o_T (y_move rfl) rfl ?_
                  refine o_split 83 rfl (fun h361 => ?_) (fun h361 => ?_)
                  · try simp only [decide_eq_true_eq, decide_eq_false_iff_not, Bool.not_eq_true', Bool.not_eq_false', Int.not_lt, Int.not_le, Decidable.not_not, beq_iff_eq, bne_iff_ne, ne_eq, beq_eq_false_iff_ne, WA.wd] at h361
                    exfalso; have := (hk h360).1; have := (hk h360).2; omega
                  · try simp only [decide_eq_true_eq, decide_eq_false_iff_not, Bool.not_eq_true', Bool.not_eq_false', Int.not_lt, Int.not_le, Decidable.not_not, beq_iff_eq, bne_iff_ne, ne_eq, beq_eq_false_iff_ne, WA.wd] at h361
                    refine o_take rfl rfl rfl ?_
                    refine o_T (y_fa fl_66_5 rfl) rfl ?_
                    refine o_take rfl rfl rfl ?_
                    refine o_ld one_3 rfl (ms (ms m0)) En.g5 rfl ?_
                    refine o_take rfl rfl rfl ?_
                    refine o_T (y_geq rfl rfl) rfl ?_
                    refine o_T (y_pickF rfl rfl) rfl ?_
                    refine o_nil1 87 rfl rfl ?_
                    refine c_cond rfl (fun h361_1 => ?_) (fun h361_1 => ?_)
                    · try simp only [decide_eq_true_eq, decide_eq_false_iff_not, Bool.not_eq_true', Bool.not_eq_false', Int.not_lt, Int.not_le, Decidable.not_not, beq_iff_eq, bne_iff_ne, ne_eq, beq_eq_false_iff_ne, WA.wd] at h361_1
                      exfalso; have := (hk h360).1; have := (hk h360).2; omega
                    · try simp only [decide_eq_true_eq, decide_eq_false_iff_not, Bool.not_eq_true', Bool.not_eq_false', Int.not_lt, Int.not_le, Decidable.not_not, beq_iff_eq, bne_iff_ne, ne_eq, beq_eq_false_iff_ne, WA.wd] at h361_1
                      refine c_skip ?_
                      refine c_seq ?_
                      obtain ⟨hk1, hk2⟩ := hk h360
                      obtain ⟨js, hjs, hj4⟩ : ∃ js : Nat, ((x.H c).ent ((x.H c).t.list.getD k 0)).slot = (js : Int) ∧ js < 4 := ⟨((x.H c).ent ((x.H c).t.list.getD k 0)).slot.toNat, by omega, by omega⟩
                      refine c_draw #[true, true, true, true, true, true, true, true, true, true, true, true] rfl (n := 12) rfl ?_
                      refine d_T 0 rfl (by kernel_rfl) rfl (y_move rfl) rfl ?_
                      refine d_T 1 rfl (by kernel_rfl) rfl (y_move rfl) rfl ?_
                      refine d_T 2 rfl (by kernel_rfl) rfl (y_fa fl_66_5 rfl) rfl ?_
                      refine d_ld 3 rfl (by kernel_rfl) one_3 rfl (fun x hx => hx) (ms (ms m0)) (En.g5.trans (congrArg some (congrArg (Value.int .i64) hjs))) rfl ?_
                      refine d_T 4 rfl (by kernel_rfl) rfl (y_nilck rfl) rfl ?_
                      refine d_T 5 rfl (by kernel_rfl) rfl (y_fa fl_53_1 rfl) rfl ?_
                      refine d_T 6 rfl (by kernel_rfl) rfl (y_ia ar_42 rfl rfl (by omega) (by omega)) rfl ?_
                      refine d_T 7 rfl (by kernel_rfl) rfl (y_fa fl_41_2 rfl) rfl ?_
                      refine d_T 8 rfl (by kernel_rfl) rfl (y_ia ar_38 rfl rfl (by omega) (by omega)) rfl ?_
                      refine d_ld 9 rfl (by kernel_rfl) one_37 rfl (fun x hx => hx) (ms (ms (ms (ms (ms (ms m0)))))) (Wd.g_b_c c (by omega) js (by omega) (by omega)) rfl ?_
                      refine d_hard 10 rfl (by kernel_rfl) ?_
                      refine o_call en_67 rfl (i67 hh (by assumption) (ok _ (by assumption)).1 _ (by assumption)) (s_skip (s_skip (s_skip (s_skip (s_skip (s_take s_nil)))))) rfl ?_
                      rintro v S' ⟨bk_4, rfl, rfl⟩
                      refine o_front (s_get k0 (s_get (ks k0) (s_get (ks k0) (s_get (ks k0) (s_get (ks k0) (s_get (ks k0) (s_get k0 (s_get k0 s_nil)))))))) ?_
                      refine o_stop (fun _ => (fun x hx => (ms hx))) ?_
                      refine d_L 11 rfl (by kernel_rfl) rfl (y_assign rfl) rfl rfl ?_
                      refine d_nil0 (by kernel_rfl) rfl ?_
                      refine c_seq ?_
                      obtain ⟨bi_4, hpcbi_4, hgcbi_4⟩ := InfG.ok hi_4 he
                      subst hpcbi_4 hgcbi_4
                      have hin4 : (x.H c).infoC ((x.H c).t.list.getD k 0) = ((x.H c).c js).info := by unfold Hst.infoC; rw [if_pos h360, hjs, Int.toNat_natCast]
                      refine c_row (g' := [(bi_4, .cells ((x.H c).c js).info.enc 95 (0, 0))]) (qs (qs q0)) (by rw [hin4]) ?_
                      refine c_region ?_
                      refine o_T (y_move rfl) rfl ?_
                      refine o_T (y_fa fl_69_1 rfl) rfl ?_
                      refine o_ld one_67 rfl (ms m0) Si.g8 rfl ?_
                      refine o_callrv en_75 rfl (t75 _ _ _) (s_take (s_skip (s_take s_nil))) rfl ?_
                      refine o_T (y_not rfl) rfl ?_
                      refine o_nil1 103 rfl rfl ?_
                      refine c_cond rfl (fun h365 => ?_) (fun h365 => ?_)
                      · try simp only [decide_eq_true_eq, decide_eq_false_iff_not, Bool.not_eq_true', Bool.not_eq_false', Int.not_lt, Int.not_le, Decidable.not_not, beq_iff_eq, bne_iff_ne, ne_eq, beq_eq_false_iff_ne, WA.wd] at h365
                        exact absurd h365 (by decide)
                      · try simp only [decide_eq_true_eq, decide_eq_false_iff_not, Bool.not_eq_true', Bool.not_eq_false', Int.not_lt, Int.not_le, Decidable.not_not, beq_iff_eq, bne_iff_ne, ne_eq, beq_eq_false_iff_ne, WA.wd] at h365
                        refine c_skip ?_
                        refine c_region ?_
                        refine o_T (y_move rfl) rfl ?_
                        refine o_T (y_add rfl rfl (w64 (by omega))) rfl ?_
                        refine o_L (y_assign rfl) rfl rfl ?_
                        refine o_nil0 rfl ?_
                        refine ⟨(k + 1), ⟨by omega, by first | omega | (dsimp only; omega)⟩, ⟨by first | rfl | exact gteI rfl (by omega), trivial⟩, ⟨rfl, rfl⟩, _, ((s_skip (s_skip (s_skip (s_skip (s_take (s_take (s_take (s_take s_nil)))))))))⟩
                · try simp only [decide_eq_true_eq, decide_eq_false_iff_not, Bool.not_eq_true', Bool.not_eq_false', Int.not_lt, Int.not_le, Decidable.not_not, beq_iff_eq, bne_iff_ne, ne_eq, beq_eq_false_iff_ne, WA.wd] at h360
                  refine c_skip ?_
                  refine c_region ?_
                  refine o_T (y_move rfl) rfl ?_
                  refine o_T (y_add rfl rfl (w64 (by omega))) rfl ?_
                  refine o_L (y_assign rfl) rfl rfl ?_
                  refine o_nil0 rfl ?_
                  refine ⟨(k + 1), ⟨by omega, by first | omega | (dsimp only; omega)⟩, ⟨by first | rfl | exact gteI rfl (by omega), trivial⟩, ⟨rfl, rfl⟩, _, ((s_skip (s_skip (s_skip (s_take (s_take (s_take (s_take s_nil))))))))⟩
    · try simp only [decide_eq_true_eq, decide_eq_false_iff_not, Bool.not_eq_true', Bool.not_eq_false', Int.not_lt, Int.not_le, Decidable.not_not, beq_iff_eq, bne_iff_ne, ne_eq, beq_eq_false_iff_ne, WA.wd] at h354
      refine c_exit ?_
      refine c_seq ?_
      refine c_region ?_
      refine o_L (y_assign rfl) rfl rfl ?_
      refine o_nil0 rfl ?_
      refine c_ret ?_
      refine fun aX wX heX hsX => ret1 Tryz.results35 heX rfl (s_get (ks (ks (ks k0))) (s_get (ks (ks k0)) (s_get k0 s_nil))) ?_
      exact ⟨rfl, rfl⟩

end Go.Proofs.Qxb6500351aGreat
