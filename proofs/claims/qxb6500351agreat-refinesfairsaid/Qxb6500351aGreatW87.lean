/- MADE BY PROGRAM (tools/gen.py over tools/specsw.py): walks. -/
import Derived.Test.Qxb6500351aGreatMd26
import Derived.Test.Qxb6500351aGreatW73
set_option linter.unusedVariables false
set_option linter.unusedSimpArgs false
namespace Go.Proofs.Qxb6500351aGreat
open Go.Eng
set_option maxRecDepth 20000
set_option maxHeartbeats 4000000
attribute [local irreducible] Hst.ent Hst.err Hst.infoC
/-- (*e2e/towerlaw.World).Connect -/
theorem t45 (A : WA) (q : Bool) (x : Wrld) (V : WV) (m : Nat) (gh gq gw gn gs gr gi go gm : List Chunk) (W : WG A q x V m gh gq gw gn gs gr gi go gm) (hm : m ≤ 2700000000000) (hz : Szs x) (hb : HBnd x) (c : Nat) (c3 : c < 3) (rh rp : Int) (Y : Wrld → Prop) (ok2 : ∀ i, i < 3 → ((upA x.H c ((x.H c).conH rh rp)) i).Ok ∧ InfoOk ((upA x.H c ((x.H c).conH rh rp)) i)) (h7 : ((x.H c).t.connect rh rp).2.1 = 0 → (((x.H c).t.connect rh rp).2.2.get ((x.H c).t.connect rh rp).1).2 = 0 ∧ (0 ≤ ((x.H c).conEn rh rp).slot ∧ ((x.H c).conEn rh rp).slot < 4) ∧ ((x.H c).c ((x.H c).conEn rh rp).slot.toNat).x.st = 0) (hw1 : ((x.H c).t.connect rh rp).2.1 = x.conW c rh rp) (hw2 : ¬ ((x.H c).t.connect rh rp).2.1 = 0 → ((x.H c).conS rh rp) = 0) (hw3 : ¬ ((x.H c).t.connect rh rp).2.1 = 0 → (x.H c).conH rh rp = x.H c) (hC : ((x.H c).t.connect rh rp).2.1 = 0 → ConW x c rh rp ((x.H c).conS rh rp) ((upA x.H c ((x.H c).conH rh rp)) c)) (hs7 : ((x.H c).conF rh rp).length ≤ 24) (hY0 : ¬ ((x.H c).t.connect rh rp).2.1 = 0 → Y x) (hY1 : ((x.H c).t.connect rh rp).2.1 = 0 → Y (({ x with H := (upA x.H c ((x.H c).conH rh rp)), N := nConn x.N c (((upA x.H c ((x.H c).conH rh rp)) c).ent ((x.H c).conS rh rp)) (((upA x.H c ((x.H c).conH rh rp)) c).infoC ((x.H c).conS rh rp)) } : Wrld).put c ((x.H c).conF rh rp))) : Trip Tryz.prog 45 #[.pointer (some ⟨A.b, 0, none⟩), .int .i64 (c : Int), .int .i64 rh, .int .i64 rp] [[(A.b, .cells (A.wd q x V).enc 53 (0, 0))], gh, gq, gw, gn, gs, gr, gi, go, gm] (fun u S' => u = .bool true ∧ ∃ y, Y y ∧ WPost A q y V.cm (m + 60) S') := by
  have hlb := hb.b c c3
  obtain ⟨gc, grest, hin, hpm, hbk⟩ := W.s.at c3
  obtain ⟨pse, hsv⟩ := hin.slice
  have hsl := hin.1
  have hzN := hz.N
  refine fn_entry (args := [.pointer (some ⟨A.b, 0, none⟩), .int .i64 (c : Int), .int .i64 rh, .int .i64 rp]) Tryz.func45 rfl Tryz.ntmps45 rfl (fun w0 => ?_)
  refine c_seq ?_
  refine c_region ?_
  refine o_L (y_assign rfl) rfl rfl ?_
  refine o_nil0 rfl ?_
  refine c_seq ?_
  refine c_region ?_
  refine o_L (y_assign rfl) rfl rfl ?_
  refine o_nil0 rfl ?_
  refine c_seq ?_
  refine c_seq ?_
  refine c_joinE (ι := Unit) (fun i => [(25, .bool (decide (rh < 1 ∨ 255 < rh)))]) (fun i => True) (fun _ _ h => h) ?_ ?_
  · skip
    refine c_region ?_
    refine o_T (y_move rfl) rfl ?_
    refine o_T (y_lss rfl rfl) rfl ?_
    refine o_T (y_move rfl) rfl ?_
    refine o_split 22 rfl (fun h528 => ?_) (fun h528 => ?_)
    · try simp only [decide_eq_true_eq, decide_eq_false_iff_not, Bool.not_eq_true', Bool.not_eq_false', Int.not_lt, Int.not_le, Decidable.not_not, beq_iff_eq, bne_iff_ne, ne_eq, beq_eq_false_iff_ne, WA.wd] at h528
      refine o_pass rfl rfl rfl rfl rfl ?_
      refine o_pass rfl rfl rfl rfl rfl ?_
      refine o_T (y_pickT rfl rfl) rfl ?_
      refine o_nil1 25 rfl rfl ?_
      refine ⟨(), trivial, ⟨gte rfl (congrArg Value.bool (by first | exact (decide_eq_true (by omega)).symm | exact (decide_eq_false (by omega)).symm | exact decide_eq_decide.2 (by omega) | (rw [← decide_not]; exact decide_eq_decide.2 (by omega)) | (simp_all; done))), trivial⟩, ⟨rfl, rfl⟩, _, ((s_take (s_take (s_take (s_take (s_take (s_take (s_take (s_take (s_take (s_take s_nil)))))))))))⟩
    · try simp only [decide_eq_true_eq, decide_eq_false_iff_not, Bool.not_eq_true', Bool.not_eq_false', Int.not_lt, Int.not_le, Decidable.not_not, beq_iff_eq, bne_iff_ne, ne_eq, beq_eq_false_iff_ne, WA.wd] at h528
      refine o_take rfl rfl rfl ?_
      refine o_T (y_move rfl) rfl ?_
      refine o_take rfl rfl rfl ?_
      refine o_T (y_gtr rfl rfl) rfl ?_
      refine o_T (y_pickF rfl rfl) rfl ?_
      refine o_nil1 25 rfl rfl ?_
      refine ⟨(), trivial, ⟨gte rfl (congrArg Value.bool (by first | exact (decide_eq_true (by omega)).symm | exact (decide_eq_false (by omega)).symm | exact decide_eq_decide.2 (by omega) | (rw [← decide_not]; exact decide_eq_decide.2 (by omega)) | (simp_all; done))), trivial⟩, ⟨rfl, rfl⟩, _, ((s_take (s_take (s_take (s_take (s_take (s_take (s_take (s_take (s_take (s_take s_nil)))))))))))⟩
  · rintro ⟨⟩ _
    try dsimp only at _
    refine c_joinE (ι := Unit) (fun i => [(9, .int .i64 (x.conW c rh rp))]) (fun i => True) (fun _ _ h => h) ?_ ?_
    · skip
      refine c_cond rfl (fun h528 => ?_) (fun h528 => ?_)
      · try simp only [decide_eq_true_eq, decide_eq_false_iff_not, Bool.not_eq_true', Bool.not_eq_false', Int.not_lt, Int.not_le, Decidable.not_not, beq_iff_eq, bne_iff_ne, ne_eq, beq_eq_false_iff_ne, WA.wd] at h528
        refine c_region ?_
        refine o_L (y_assign rfl) rfl rfl ?_
        refine o_nil0 rfl ?_
        refine ⟨(), trivial, ⟨gteI rfl (by unfold Wrld.conW; first | rw [if_pos (by assumption)] | rw [if_neg (by assumption), if_pos (by assumption)] | rw [if_neg (by assumption), if_neg (by assumption), if_pos (by omega)] | rw [if_neg (by assumption), if_neg (by assumption), if_neg (by omega)]), trivial⟩, ⟨rfl, rfl⟩, _, ((s_take (s_take (s_take (s_take (s_take (s_take (s_take (s_take (s_take (s_take s_nil)))))))))))⟩
      · try simp only [decide_eq_true_eq, decide_eq_false_iff_not, Bool.not_eq_true', Bool.not_eq_false', Int.not_lt, Int.not_le, Decidable.not_not, beq_iff_eq, bne_iff_ne, ne_eq, beq_eq_false_iff_ne, WA.wd] at h528
        refine c_seq ?_
        refine c_joinE (ι := Unit) (fun i => [(31, .bool (decide (rp < 1 ∨ 15 < rp)))]) (fun i => True) (fun _ _ h => h) ?_ ?_
        · skip
          refine c_region ?_
          refine o_T (y_move rfl) rfl ?_
          refine o_T (y_lss rfl rfl) rfl ?_
          refine o_T (y_move rfl) rfl ?_
          refine o_split 28 rfl (fun h530 => ?_) (fun h530 => ?_)
          · try simp only [decide_eq_true_eq, decide_eq_false_iff_not, Bool.not_eq_true', Bool.not_eq_false', Int.not_lt, Int.not_le, Decidable.not_not, beq_iff_eq, bne_iff_ne, ne_eq, beq_eq_false_iff_ne, WA.wd] at h530
            refine o_pass rfl rfl rfl rfl rfl ?_
            refine o_pass rfl rfl rfl rfl rfl ?_
            refine o_T (y_pickT rfl rfl) rfl ?_
            refine o_nil1 31 rfl rfl ?_
            refine ⟨(), trivial, ⟨gte rfl (congrArg Value.bool (by first | exact (decide_eq_true (by omega)).symm | exact (decide_eq_false (by omega)).symm | exact decide_eq_decide.2 (by omega) | (rw [← decide_not]; exact decide_eq_decide.2 (by omega)) | (simp_all; done))), trivial⟩, ⟨rfl, rfl⟩, _, ((s_take (s_take (s_take (s_take (s_take (s_take (s_take (s_take (s_take (s_take s_nil)))))))))))⟩
          · try simp only [decide_eq_true_eq, decide_eq_false_iff_not, Bool.not_eq_true', Bool.not_eq_false', Int.not_lt, Int.not_le, Decidable.not_not, beq_iff_eq, bne_iff_ne, ne_eq, beq_eq_false_iff_ne, WA.wd] at h530
            refine o_take rfl rfl rfl ?_
            refine o_T (y_move rfl) rfl ?_
            refine o_take rfl rfl rfl ?_
            refine o_T (y_gtr rfl rfl) rfl ?_
            refine o_T (y_pickF rfl rfl) rfl ?_
            refine o_nil1 31 rfl rfl ?_
            refine ⟨(), trivial, ⟨gte rfl (congrArg Value.bool (by first | exact (decide_eq_true (by omega)).symm | exact (decide_eq_false (by omega)).symm | exact decide_eq_decide.2 (by omega) | (rw [← decide_not]; exact decide_eq_decide.2 (by omega)) | (simp_all; done))), trivial⟩, ⟨rfl, rfl⟩, _, ((s_take (s_take (s_take (s_take (s_take (s_take (s_take (s_take (s_take (s_take s_nil)))))))))))⟩
        · rintro ⟨⟩ _
          try dsimp only at _
          refine c_cond rfl (fun h530 => ?_) (fun h530 => ?_)
          · try simp only [decide_eq_true_eq, decide_eq_false_iff_not, Bool.not_eq_true', Bool.not_eq_false', Int.not_lt, Int.not_le, Decidable.not_not, beq_iff_eq, bne_iff_ne, ne_eq, beq_eq_false_iff_ne, WA.wd] at h530
            refine c_region ?_
            refine o_L (y_assign rfl) rfl rfl ?_
            refine o_nil0 rfl ?_
            refine ⟨(), trivial, ⟨gteI rfl (by unfold Wrld.conW; first | rw [if_pos (by assumption)] | rw [if_neg (by assumption), if_pos (by assumption)] | rw [if_neg (by assumption), if_neg (by assumption), if_pos (by omega)] | rw [if_neg (by assumption), if_neg (by assumption), if_neg (by omega)]), trivial⟩, ⟨rfl, rfl⟩, _, ((s_take (s_take (s_take (s_take (s_take (s_take (s_take (s_take (s_take (s_take s_nil)))))))))))⟩
          · try simp only [decide_eq_true_eq, decide_eq_false_iff_not, Bool.not_eq_true', Bool.not_eq_false', Int.not_lt, Int.not_le, Decidable.not_not, beq_iff_eq, bne_iff_ne, ne_eq, beq_eq_false_iff_ne, WA.wd] at h530
            refine c_seq ?_
            refine c_region ?_
            refine o_T (y_move rfl) rfl ?_
            refine o_T (y_move rfl) rfl ?_
            refine o_call en_88 rfl (t88 _ _ _ _ _ _ _ (by assumption) _ W.h hb.ok W.s) (s_take (s_take (s_skip (s_skip (s_skip (s_take s_nil)))))) rfl ?_
            rintro v S' ⟨rfl, rfl⟩
            refine o_T (y_eql rfl rfl) rfl ?_
            refine o_nil1 35 rfl rfl ?_
            refine c_cond rfl (fun h532 => ?_) (fun h532 => ?_)
            · try simp only [decide_eq_true_eq, decide_eq_false_iff_not, Bool.not_eq_true', Bool.not_eq_false', Int.not_lt, Int.not_le, Decidable.not_not, beq_iff_eq, bne_iff_ne, ne_eq, beq_eq_false_iff_ne, WA.wd] at h532
              refine c_region ?_
              refine o_L (y_assign rfl) rfl rfl ?_
              refine o_nil0 rfl ?_
              refine ⟨(), trivial, ⟨gteI rfl (by unfold Wrld.conW; first | rw [if_pos (by assumption)] | rw [if_neg (by assumption), if_pos (by assumption)] | rw [if_neg (by assumption), if_neg (by assumption), if_pos (by omega)] | rw [if_neg (by assumption), if_neg (by assumption), if_neg (by omega)]), trivial⟩, ⟨rfl, rfl⟩, _, ((s_get k0 (s_get k0 (s_get (ks k0) (s_get (ks k0) (s_get (ks k0) (s_get k0 (s_get k0 (s_get k0 (s_get k0 (s_get k0 s_nil)))))))))))⟩
            · try simp only [decide_eq_true_eq, decide_eq_false_iff_not, Bool.not_eq_true', Bool.not_eq_false', Int.not_lt, Int.not_le, Decidable.not_not, beq_iff_eq, bne_iff_ne, ne_eq, beq_eq_false_iff_ne, WA.wd] at h532
              refine c_skip ?_
              refine ⟨(), trivial, ⟨gteI rfl (by unfold Wrld.conW; first | rw [if_pos (by assumption)] | rw [if_neg (by assumption), if_pos (by assumption)] | rw [if_neg (by assumption), if_neg (by assumption), if_pos (by omega)] | rw [if_neg (by assumption), if_neg (by assumption), if_neg (by omega)]), trivial⟩, ⟨rfl, rfl⟩, _, ((s_get k0 (s_get k0 (s_get (ks k0) (s_get (ks k0) (s_get (ks k0) (s_get k0 (s_get k0 (s_get k0 (s_get k0 (s_get k0 s_nil)))))))))))⟩
    · rintro ⟨⟩ _
      try dsimp only at _
      refine c_seq ?_
      refine c_region ?_
      refine o_T (y_move rfl) rfl ?_
      refine o_T (y_move rfl) rfl ?_
      refine o_T (y_nilck rfl) rfl ?_
      refine o_T (y_fa fl_53_0 rfl) rfl ?_
      refine o_T (y_ia ar_34 rfl rfl (by omega) (by omega)) rfl ?_
      refine o_ld one_33 rfl m0 (Wd.g_h c (by omega) (by omega)) rfl ?_
      refine o_T (y_move rfl) rfl ?_
      refine o_T (y_move rfl) rfl ?_
      refine o_call en_90 rfl (j90 W.h c3 (hb.ok _ c3).1 (by omega) (by omega) rh rp h7) (s_skip (s_take s_nil)) rfl ?_
      rintro v S' ⟨v_1, gv_1, gd_1, gx_1, rfl, hF_1, hx_1, rfl⟩
      refine o_T (y_move rfl) rfl ?_
      refine o_T (y_extract rfl rfl) rfl ?_
      refine o_T (y_extract rfl rfl) rfl ?_
      refine o_T (y_extract rfl rfl) rfl ?_
      refine o_L (y_assign rfl) rfl rfl ?_
      refine o_L (y_assign rfl) rfl rfl ?_
      refine o_L (y_assign rfl) rfl rfl ?_
      refine o_nil0 rfl ?_
      refine c_seq ?_
      refine c_seq ?_
      refine c_region ?_
      refine o_T (y_move rfl) rfl ?_
      refine o_T (y_nilck rfl) rfl ?_
      refine o_T (y_fa fl_53_3 rfl) rfl ?_
      refine o_ld one_4 rfl (ms (ms (ms m0))) Wd.g27 rfl ?_
      refine o_nil1 52 rfl rfl ?_
      refine c_front (s_get (ks (ks (ks k0))) (s_get (ks (ks (ks k0))) (s_get (ks (ks (ks (ks (ks (ks (ks (ks (ks k0))))))))) (s_get (ks (ks (ks (ks (ks (ks (ks (ks k0)))))))) (s_get k0 (s_get k0 (s_get k0 (s_get k0 (s_get k0 (s_get k0 (s_get k0 (s_get k0 s_nil)))))))))))) ?_
      refine c_joinD 4 (ι := Value × Value × List Chunk × List Chunk × List Chunk) (fun i => []) (fun i => [[(A.b, .cells (A.wd q x { V with mine := i.1, outs := i.2.1 }).enc 53 (0, 0))], i.2.2.1, i.2.2.2.1, i.2.2.2.2]) (fun i => (q = true → HsG (upA x.H c ((x.H c).conH rh rp)) A.qv A.qb i.2.2.1) ∧ PM (m + 24) i.1 i.2.2.2.1 ∧ PO (m + 1) i.2.1 i.2.2.2.2) (fun _ _ h => h) ?_ ?_
      · skip
        refine c_cond rfl (fun h536 => ?_) (fun h536 => ?_)
        · try simp only [decide_eq_true_eq, decide_eq_false_iff_not, Bool.not_eq_true', Bool.not_eq_false', Int.not_lt, Int.not_le, Decidable.not_not, beq_iff_eq, bne_iff_ne, ne_eq, beq_eq_false_iff_ne, WA.wd] at h536
          refine c_seq ?_
          refine c_region ?_
          refine o_T (y_move rfl) rfl ?_
          refine o_T (y_move rfl) rfl ?_
          refine o_T (y_nilck rfl) rfl ?_
          refine o_T (y_fa fl_53_2 rfl) rfl ?_
          refine o_T (y_ia ar_34 rfl rfl (by omega) (by omega)) rfl ?_
          refine o_ld one_33 rfl m0 (Wd.g_q c (by omega) (by omega)) rfl ?_
          refine o_T (y_move rfl) rfl ?_
          refine o_T (y_move rfl) rfl ?_
          refine o_call en_90 rfl (j90 (W.q h536) c3 (hb.ok _ c3).1 (by omega) (by omega) rh rp h7) (s_skip (s_take s_nil)) rfl ?_
          rintro v S' ⟨v_2, gv_2, gd_2, gx_2, rfl, hF_2, hx_2, rfl⟩
          refine o_T (y_move rfl) rfl ?_
          refine o_T (y_extract rfl rfl) rfl ?_
          refine o_T (y_extract rfl rfl) rfl ?_
          refine o_T (y_extract rfl rfl) rfl ?_
          refine o_L (y_assign rfl) rfl rfl ?_
          refine o_L (y_assign rfl) rfl rfl ?_
          refine o_L (y_assign rfl) rfl rfl ?_
          refine o_nil0 rfl ?_
          refine c_seq ?_
          refine c_seq ?_
          refine c_region ?_
          refine o_T (y_move rfl) rfl ?_
          refine o_T (y_move rfl) rfl ?_
          refine o_T (y_neq rfl rfl) rfl ?_
          refine o_T (y_move rfl) rfl ?_
          refine o_split 69 rfl (fun h538 => ?_) (fun h538 => ?_)
          · try simp only [decide_eq_true_eq, decide_eq_false_iff_not, Bool.not_eq_true', Bool.not_eq_false', Int.not_lt, Int.not_le, Decidable.not_not, beq_iff_eq, bne_iff_ne, ne_eq, beq_eq_false_iff_ne, WA.wd] at h538
            first | exact absurd trivial h538 | exact absurd rfl h538 | (simp at h538; done)
          · try simp only [decide_eq_true_eq, decide_eq_false_iff_not, Bool.not_eq_true', Bool.not_eq_false', Int.not_lt, Int.not_le, Decidable.not_not, beq_iff_eq, bne_iff_ne, ne_eq, beq_eq_false_iff_ne, WA.wd] at h538
            refine o_take rfl rfl rfl ?_
            refine o_T (y_move rfl) rfl ?_
            refine o_take rfl rfl rfl ?_
            refine o_T (y_move rfl) rfl ?_
            refine o_take rfl rfl rfl ?_
            refine o_T (y_neq rfl rfl) rfl ?_
            refine o_T (y_pickF rfl rfl) rfl ?_
            refine o_T (y_move rfl) rfl ?_
            refine o_split 74 rfl (fun h538_1 => ?_) (fun h538_1 => ?_)
            · try simp only [decide_eq_true_eq, decide_eq_false_iff_not, Bool.not_eq_true', Bool.not_eq_false', Int.not_lt, Int.not_le, Decidable.not_not, beq_iff_eq, bne_iff_ne, ne_eq, beq_eq_false_iff_ne, WA.wd] at h538_1
              first | exact absurd trivial h538_1 | exact absurd rfl h538_1 | (simp at h538_1; done)
            · try simp only [decide_eq_true_eq, decide_eq_false_iff_not, Bool.not_eq_true', Bool.not_eq_false', Int.not_lt, Int.not_le, Decidable.not_not, beq_iff_eq, bne_iff_ne, ne_eq, beq_eq_false_iff_ne, WA.wd] at h538_1
              refine o_take rfl rfl rfl ?_
              refine o_T (y_move rfl) rfl ?_
              refine o_take rfl rfl rfl ?_
              refine o_T (y_move rfl) rfl ?_
              refine o_take rfl rfl rfl ?_
              refine o_callrv en_81 rfl (t81 _ _ _ _ _ _ _ _ hF_1 hF_2) (s_get (ks (ks (ks (ks (ks (ks k0)))))) (s_get (ks (ks (ks (ks (ks (ks k0)))))) (s_get k0 (s_get k0 s_nil)))) rfl ?_
              refine o_take rfl rfl rfl ?_
              refine o_T (y_not rfl) rfl ?_
              refine o_T (y_pickF rfl rfl) rfl ?_
              refine o_nil1 79 rfl rfl ?_
              refine c_cond rfl (fun h538_2 => ?_) (fun h538_2 => ?_)
              · try simp only [decide_eq_true_eq, decide_eq_false_iff_not, Bool.not_eq_true', Bool.not_eq_false', Int.not_lt, Int.not_le, Decidable.not_not, beq_iff_eq, bne_iff_ne, ne_eq, beq_eq_false_iff_ne, WA.wd] at h538_2
                first | exact absurd trivial h538_2 | exact absurd rfl h538_2 | (simp at h538_2; done)
              · try simp only [decide_eq_true_eq, decide_eq_false_iff_not, Bool.not_eq_true', Bool.not_eq_false', Int.not_lt, Int.not_le, Decidable.not_not, beq_iff_eq, bne_iff_ne, ne_eq, beq_eq_false_iff_ne, WA.wd] at h538_2
                refine c_skip ?_
                refine c_region ?_
                refine o_T (y_move rfl) rfl ?_
                refine o_T (y_move rfl) rfl ?_
                refine o_call en_82 rfl (t82 A q x V W.m W.o (by omega) (by omega) hF_2) (s_get (ks (ks (ks k0))) (s_get (ks (ks (ks k0))) (s_get (ks (ks (ks k0))) (s_get k0 (s_get k0 s_nil))))) rfl ?_
                rintro v S' ⟨vm_1, vo_1, gm_1, go_1, rfl, hm_1, ho_1, rfl⟩
                refine o_nil0 rfl ?_
                refine ⟨(vm_1, vo_1, _, _, _), ⟨fun _ => hx_2, hm_1.mono (by omega), ho_1.mono (by omega)⟩, trivial, ⟨rfl, rfl⟩, _, ((s_get k0 (s_get (ks (ks k0)) (s_get k0 (s_get k0 (s_get k0 (s_get k0 (s_get k0 (s_get k0 (s_get k0 (s_get k0 (s_get k0 (s_get k0 s_nil)))))))))))))⟩
        · try simp only [decide_eq_true_eq, decide_eq_false_iff_not, Bool.not_eq_true', Bool.not_eq_false', Int.not_lt, Int.not_le, Decidable.not_not, beq_iff_eq, bne_iff_ne, ne_eq, beq_eq_false_iff_ne, WA.wd] at h536
          refine c_skip ?_
          refine ⟨(V.mine, V.outs, _, _, _), ⟨fun z => absurd (z.symm.trans h536) (fun y => nomatch y), W.m.mono (by omega), W.o.mono (by omega)⟩, trivial, ⟨rfl, rfl⟩, _, ((s_take (s_take (s_take (s_take (s_take (s_take (s_take (s_take (s_take (s_take (s_take (s_take s_nil)))))))))))))⟩
      · rintro ⟨vm2, vo2, gq2, gm2, go2⟩ ⟨hq2, hm2, ho2⟩
        try dsimp only at hq2
        refine c_seq ?_
        refine c_seq ?_
        refine c_region ?_
        refine o_T (y_move rfl) rfl ?_
        refine o_T (y_move rfl) rfl ?_
        refine o_T (y_neq rfl rfl) rfl ?_
        refine o_nil1 85 rfl rfl ?_
        refine c_cond rfl (fun h543 => ?_) (fun h543 => ?_)
        · try simp only [decide_eq_true_eq, decide_eq_false_iff_not, Bool.not_eq_true', Bool.not_eq_false', Int.not_lt, Int.not_le, Decidable.not_not, beq_iff_eq, bne_iff_ne, ne_eq, beq_eq_false_iff_ne, WA.wd] at h543
          exact absurd hw1 h543
        · try simp only [decide_eq_true_eq, decide_eq_false_iff_not, Bool.not_eq_true', Bool.not_eq_false', Int.not_lt, Int.not_le, Decidable.not_not, beq_iff_eq, bne_iff_ne, ne_eq, beq_eq_false_iff_ne, WA.wd] at h543
          refine c_skip ?_
          refine c_seq ?_
          refine c_seq ?_
          refine c_region ?_
          refine o_T (y_move rfl) rfl ?_
          refine o_T (y_neq rfl rfl) rfl ?_
          refine o_nil1 87 rfl rfl ?_
          refine c_cond rfl (fun h546 => ?_) (fun h546 => ?_)
          · try simp only [decide_eq_true_eq, decide_eq_false_iff_not, Bool.not_eq_true', Bool.not_eq_false', Int.not_lt, Int.not_le, Decidable.not_not, beq_iff_eq, bne_iff_ne, ne_eq, beq_eq_false_iff_ne, WA.wd] at h546
            refine c_seq ?_
            obtain ⟨pf, cf, hvf⟩ := hF_1.slice
            subst hvf
            refine c_region ?_
            refine o_T (y_move rfl) rfl ?_
            refine o_T (y_eql rfl rfl) rfl ?_
            refine o_T (y_move rfl) rfl ?_
            refine o_split 90 rfl (fun h547 => ?_) (fun h547 => ?_)
            · try simp only [decide_eq_true_eq, decide_eq_false_iff_not, Bool.not_eq_true', Bool.not_eq_false', Int.not_lt, Int.not_le, Decidable.not_not, beq_iff_eq, bne_iff_ne, ne_eq, beq_eq_false_iff_ne, WA.wd] at h547
              refine o_take rfl rfl rfl ?_
              refine o_T (y_move rfl) rfl ?_
              refine o_take rfl rfl rfl ?_
              refine o_T (y_len Tryz.underlying51 rfl) rfl ?_
              refine o_take rfl rfl rfl ?_
              refine o_T (y_eql rfl rfl) rfl ?_
              refine o_T (y_pickT rfl rfl) rfl ?_
              refine o_L (y_assign rfl) rfl rfl ?_
              refine o_nil0 rfl ?_
              refine c_ret ?_
              refine fun aX wX heX hsX => ret1 Tryz.results45 heX rfl (s_get k0 (s_get (ks (ks (ks (ks (ks k0))))) (s_get k0 (s_get (ks (ks (ks (ks k0)))) (s_get (ks (ks (ks (ks k0)))) (s_get (ks (ks (ks (ks k0)))) (s_get (ks (ks (ks (ks k0)))) (s_get (ks (ks (ks (ks k0)))) (s_get (ks k0) (s_get k0 s_nil)))))))))) ?_
              have eF : (x.H c).conF rh rp = [] := if_pos h546
              have eH := hw3 h546
              rw [eH, upA_self] at hq2
              have hhx := hx_1
              rw [eH, upA_self] at hhx
              exact ⟨congrArg Value.bool (decide_eq_true (by rw [eF]; rfl)), x, hY0 h546, { V with mine := vm2, outs := vo2 }, _, _, _, _, _, _, _, _, _, ⟨hhx, hq2, W.w, W.n, W.s, W.r, W.i.mono (by omega), ho2.mono (by omega), hm2.mono (by omega)⟩, rfl, rfl⟩
            · try simp only [decide_eq_true_eq, decide_eq_false_iff_not, Bool.not_eq_true', Bool.not_eq_false', Int.not_lt, Int.not_le, Decidable.not_not, beq_iff_eq, bne_iff_ne, ne_eq, beq_eq_false_iff_ne, WA.wd] at h547
              exact absurd (hw2 h546) h547
          · try simp only [decide_eq_true_eq, decide_eq_false_iff_not, Bool.not_eq_true', Bool.not_eq_false', Int.not_lt, Int.not_le, Decidable.not_not, beq_iff_eq, bne_iff_ne, ne_eq, beq_eq_false_iff_ne, WA.wd] at h546
            refine c_skip ?_
            refine c_seq ?_
            refine c_region ?_
            refine o_T (y_move rfl) rfl ?_
            refine o_T (y_move rfl) rfl ?_
            refine o_T (y_nilck rfl) rfl ?_
            refine o_T (y_fa fl_53_0 rfl) rfl ?_
            refine o_T (y_ia ar_34 rfl rfl (by omega) (by omega)) rfl ?_
            refine o_ld one_33 rfl m0 (Wd.g_h c (by omega) (by omega)) rfl ?_
            refine o_T (y_move rfl) rfl ?_
            refine o_call en_32 rfl (i32 hx_1 c3 (ok2 _ c3).1 _ ((ok2 _ c3).2 _)) (s_skip (s_skip (s_skip (s_skip (s_skip (s_skip (s_take s_nil))))))) rfl ?_
            rintro v S' ⟨pc_1, gc_1, rfl, hi_1, rfl⟩
            refine o_T (y_move rfl) rfl ?_
            refine o_T (y_extract rfl rfl) rfl ?_
            refine o_T (y_extract rfl rfl) rfl ?_
            refine o_alloc ze_69 rfl rfl (fun b_1 => ?_)
            refine o_sta ag_69 rfl rfl (si_plain hi_1) rfl r0 (setAll_full _ _ rfl) (of_ble rfl) ?_
            refine o_L (y_assign rfl) rfl rfl ?_
            refine o_nil0 rfl ?_
            refine c_seq ?_
            refine c_seq ?_
            refine c_region ?_
            refine o_T (y_move rfl) rfl ?_
            refine o_T (y_move rfl) rfl ?_
            refine o_T (y_move rfl) rfl ?_
            refine o_T (y_nilck rfl) rfl ?_
            refine o_T (y_fa fl_53_7 rfl) rfl ?_
            refine o_T (y_ia ar_45 rfl rfl (by omega) (by omega)) rfl ?_
            refine o_ld one_3 rfl (ms (ms (ms m0))) (Wd.g_top c (by omega) (by omega)) rfl ?_
            refine o_T (y_leq rfl rfl) rfl ?_
            refine o_T (y_move rfl) rfl ?_
            refine o_split 114 rfl (fun h550 => ?_) (fun h550 => ?_)
            · try simp only [decide_eq_true_eq, decide_eq_false_iff_not, Bool.not_eq_true', Bool.not_eq_false', Int.not_lt, Int.not_le, Decidable.not_not, beq_iff_eq, bne_iff_ne, ne_eq, beq_eq_false_iff_ne, WA.wd] at h550
              first | exact absurd (hC h546).err h550 | exact absurd (hC h546).kind h550 | exact absurd (hC h546).par h550 | (exfalso; have := (hC h546).top; omega)
            · try simp only [decide_eq_true_eq, decide_eq_false_iff_not, Bool.not_eq_true', Bool.not_eq_false', Int.not_lt, Int.not_le, Decidable.not_not, beq_iff_eq, bne_iff_ne, ne_eq, beq_eq_false_iff_ne, WA.wd] at h550
              refine o_take rfl rfl rfl ?_
              refine o_T (y_move rfl) rfl ?_
              refine o_take rfl rfl rfl ?_
              refine o_T (y_neq rfl rfl) rfl ?_
              refine o_T (y_pickF rfl rfl) rfl ?_
              refine o_T (y_move rfl) rfl ?_
              refine o_split 118 rfl (fun h550_1 => ?_) (fun h550_1 => ?_)
              · try simp only [decide_eq_true_eq, decide_eq_false_iff_not, Bool.not_eq_true', Bool.not_eq_false', Int.not_lt, Int.not_le, Decidable.not_not, beq_iff_eq, bne_iff_ne, ne_eq, beq_eq_false_iff_ne, WA.wd] at h550_1
                first | exact absurd (hC h546).err h550_1 | exact absurd (hC h546).kind h550_1 | exact absurd (hC h546).par h550_1 | (exfalso; have := (hC h546).top; omega)
              · try simp only [decide_eq_true_eq, decide_eq_false_iff_not, Bool.not_eq_true', Bool.not_eq_false', Int.not_lt, Int.not_le, Decidable.not_not, beq_iff_eq, bne_iff_ne, ne_eq, beq_eq_false_iff_ne, WA.wd] at h550_1
                refine o_take rfl rfl rfl ?_
                refine o_T (y_fa fl_69_0 rfl) rfl ?_
                refine o_take rfl rfl rfl ?_
                refine o_T (y_fa fl_66_1 rfl) rfl ?_
                refine o_take rfl rfl rfl ?_
                refine o_ld one_3 rfl m0 Si.g1 rfl ?_
                refine o_take rfl rfl rfl ?_
                refine o_T (y_neq rfl rfl) rfl ?_
                refine o_T (y_pickF rfl rfl) rfl ?_
                refine o_T (y_move rfl) rfl ?_
                refine o_split 124 rfl (fun h550_2 => ?_) (fun h550_2 => ?_)
                · try simp only [decide_eq_true_eq, decide_eq_false_iff_not, Bool.not_eq_true', Bool.not_eq_false', Int.not_lt, Int.not_le, Decidable.not_not, beq_iff_eq, bne_iff_ne, ne_eq, beq_eq_false_iff_ne, WA.wd] at h550_2
                  first | exact absurd (hC h546).err h550_2 | exact absurd (hC h546).kind h550_2 | exact absurd (hC h546).par h550_2 | (exfalso; have := (hC h546).top; omega)
                · try simp only [decide_eq_true_eq, decide_eq_false_iff_not, Bool.not_eq_true', Bool.not_eq_false', Int.not_lt, Int.not_le, Decidable.not_not, beq_iff_eq, bne_iff_ne, ne_eq, beq_eq_false_iff_ne, WA.wd] at h550_2
                  refine o_take rfl rfl rfl ?_
                  refine o_T (y_fa fl_69_0 rfl) rfl ?_
                  refine o_take rfl rfl rfl ?_
                  refine o_T (y_fa fl_66_6 rfl) rfl ?_
                  refine o_take rfl rfl rfl ?_
                  refine o_ld one_3 rfl m0 Si.g6 rfl ?_
                  refine o_take rfl rfl rfl ?_
                  refine o_T (y_neq rfl rfl) rfl ?_
                  refine o_T (y_pickF rfl rfl) rfl ?_
                  refine o_nil1 129 rfl rfl ?_
                  refine c_cond rfl (fun h550_3 => ?_) (fun h550_3 => ?_)
                  · try simp only [decide_eq_true_eq, decide_eq_false_iff_not, Bool.not_eq_true', Bool.not_eq_false', Int.not_lt, Int.not_le, Decidable.not_not, beq_iff_eq, bne_iff_ne, ne_eq, beq_eq_false_iff_ne, WA.wd] at h550_3
                    first | exact absurd (hC h546).err h550_3 | exact absurd (hC h546).kind h550_3 | exact absurd (hC h546).par h550_3 | (exfalso; have := (hC h546).top; omega)
                  · try simp only [decide_eq_true_eq, decide_eq_false_iff_not, Bool.not_eq_true', Bool.not_eq_false', Int.not_lt, Int.not_le, Decidable.not_not, beq_iff_eq, bne_iff_ne, ne_eq, beq_eq_false_iff_ne, WA.wd] at h550_3
                    refine c_skip ?_
                    refine c_seq ?_
                    refine c_seq ?_
                    refine c_region ?_
                    refine o_T (y_fa fl_69_0 rfl) rfl ?_
                    refine o_T (y_fa fl_66_3 rfl) rfl ?_
                    refine o_ld one_3 rfl m0 Si.g3 rfl ?_
                    refine o_T (y_move rfl) rfl ?_
                    refine o_T (y_neq rfl rfl) rfl ?_
                    refine o_T (y_move rfl) rfl ?_
                    refine o_split 135 rfl (fun h553 => ?_) (fun h553 => ?_)
                    · try simp only [decide_eq_true_eq, decide_eq_false_iff_not, Bool.not_eq_true', Bool.not_eq_false', Int.not_lt, Int.not_le, Decidable.not_not, beq_iff_eq, bne_iff_ne, ne_eq, beq_eq_false_iff_ne, WA.wd] at h553
                      first | exact absurd (hC h546).hrh h553 | exact absurd (hC h546).hrp h553 | (exfalso; have := (hC h546).hlp; omega)
                    · try simp only [decide_eq_true_eq, decide_eq_false_iff_not, Bool.not_eq_true', Bool.not_eq_false', Int.not_lt, Int.not_le, Decidable.not_not, beq_iff_eq, bne_iff_ne, ne_eq, beq_eq_false_iff_ne, WA.wd] at h553
                      refine o_take rfl rfl rfl ?_
                      refine o_T (y_fa fl_69_0 rfl) rfl ?_
                      refine o_take rfl rfl rfl ?_
                      refine o_T (y_fa fl_66_4 rfl) rfl ?_
                      refine o_take rfl rfl rfl ?_
                      refine o_ld one_3 rfl m0 Si.g4 rfl ?_
                      refine o_take rfl rfl rfl ?_
                      refine o_T (y_move rfl) rfl ?_
                      refine o_take rfl rfl rfl ?_
                      refine o_T (y_neq rfl rfl) rfl ?_
                      refine o_T (y_pickF rfl rfl) rfl ?_
                      refine o_T (y_move rfl) rfl ?_
                      refine o_split 142 rfl (fun h553_1 => ?_) (fun h553_1 => ?_)
                      · try simp only [decide_eq_true_eq, decide_eq_false_iff_not, Bool.not_eq_true', Bool.not_eq_false', Int.not_lt, Int.not_le, Decidable.not_not, beq_iff_eq, bne_iff_ne, ne_eq, beq_eq_false_iff_ne, WA.wd] at h553_1
                        first | exact absurd (hC h546).hrh h553_1 | exact absurd (hC h546).hrp h553_1 | (exfalso; have := (hC h546).hlp; omega)
                      · try simp only [decide_eq_true_eq, decide_eq_false_iff_not, Bool.not_eq_true', Bool.not_eq_false', Int.not_lt, Int.not_le, Decidable.not_not, beq_iff_eq, bne_iff_ne, ne_eq, beq_eq_false_iff_ne, WA.wd] at h553_1
                        refine o_take rfl rfl rfl ?_
                        refine o_T (y_fa fl_69_0 rfl) rfl ?_
                        refine o_take rfl rfl rfl ?_
                        refine o_T (y_fa fl_66_2 rfl) rfl ?_
                        refine o_take rfl rfl rfl ?_
                        refine o_ld one_3 rfl m0 Si.g2 rfl ?_
                        refine o_take rfl rfl rfl ?_
                        refine o_T (y_lss rfl rfl) rfl ?_
                        refine o_T (y_pickF rfl rfl) rfl ?_
                        refine o_T (y_move rfl) rfl ?_
                        refine o_split 148 rfl (fun h553_2 => ?_) (fun h553_2 => ?_)
                        · try simp only [decide_eq_true_eq, decide_eq_false_iff_not, Bool.not_eq_true', Bool.not_eq_false', Int.not_lt, Int.not_le, Decidable.not_not, beq_iff_eq, bne_iff_ne, ne_eq, beq_eq_false_iff_ne, WA.wd] at h553_2
                          first | exact absurd (hC h546).hrh h553_2 | exact absurd (hC h546).hrp h553_2 | (exfalso; have := (hC h546).hlp; omega)
                        · try simp only [decide_eq_true_eq, decide_eq_false_iff_not, Bool.not_eq_true', Bool.not_eq_false', Int.not_lt, Int.not_le, Decidable.not_not, beq_iff_eq, bne_iff_ne, ne_eq, beq_eq_false_iff_ne, WA.wd] at h553_2
                          refine o_take rfl rfl rfl ?_
                          refine o_T (y_fa fl_69_0 rfl) rfl ?_
                          refine o_take rfl rfl rfl ?_
                          refine o_T (y_fa fl_66_2 rfl) rfl ?_
                          refine o_take rfl rfl rfl ?_
                          refine o_ld one_3 rfl m0 Si.g2 rfl ?_
                          refine o_take rfl rfl rfl ?_
                          refine o_T (y_gtr rfl rfl) rfl ?_
                          refine o_T (y_pickF rfl rfl) rfl ?_
                          refine o_nil1 153 rfl rfl ?_
                          refine c_cond rfl (fun h553_3 => ?_) (fun h553_3 => ?_)
                          · try simp only [decide_eq_true_eq, decide_eq_false_iff_not, Bool.not_eq_true', Bool.not_eq_false', Int.not_lt, Int.not_le, Decidable.not_not, beq_iff_eq, bne_iff_ne, ne_eq, beq_eq_false_iff_ne, WA.wd] at h553_3
                            first | exact absurd (hC h546).hrh h553_3 | exact absurd (hC h546).hrp h553_3 | (exfalso; have := (hC h546).hlp; omega)
                          · try simp only [decide_eq_true_eq, decide_eq_false_iff_not, Bool.not_eq_true', Bool.not_eq_false', Int.not_lt, Int.not_le, Decidable.not_not, beq_iff_eq, bne_iff_ne, ne_eq, beq_eq_false_iff_ne, WA.wd] at h553_3
                            refine c_skip ?_
                            refine c_seq ?_
                            refine c_seq ?_
                            refine c_front (s_get (ks (ks (ks (ks (ks (ks (ks (ks (ks (ks (ks k0))))))))))) (s_get k0 (s_get k0 (s_get k0 (s_get k0 (s_get k0 (s_get k0 (s_get k0 (s_get k0 (s_get k0 (s_get k0 (s_get k0 (s_get k0 (s_get k0 s_nil)))))))))))))) ?_
                            refine c_opn hpm ?_
                            refine c_region ?_
                            refine o_L (y_assign rfl) rfl rfl ?_
                            refine o_nil0 rfl ?_
                            refine c_block ?_
                            refine c_loopG (ι := Nat) (fun i => [(17, .int .i64 (i : Int))]) (fun i => []) (fun i => i ≤ (x.seen c).length) (fun i => (x.seen c).length - i) 0 (by omega) ⟨by first | rfl | exact gteI rfl (by omega), trivial⟩ (s_take (s_take (s_take (s_take (s_take (s_take (s_take (s_take (s_take (s_take (s_take (s_take (s_take (s_take (s_take s_nil))))))))))))))) ?_
                            rintro k hI
                            try dsimp only at hI
                            refine c_seq ?_
                            refine c_seq ?_
                            refine c_region ?_
                            refine o_T (y_move rfl) rfl ?_
                            refine o_T (y_move rfl) rfl ?_
                            refine o_T (y_move rfl) rfl ?_
                            refine o_T (y_nilck rfl) rfl ?_
                            refine o_T (y_fa fl_53_8 rfl) rfl ?_
                            refine o_T (y_ia ar_47 rfl rfl (by omega) (by omega)) rfl ?_
                            refine o_ld one_46 rfl (ms (ms (ms (ms (ms m0))))) ((Wd.g_seen c (by omega) (by omega)).trans (congrArg some hsv)) rfl ?_
                            refine o_T (y_len Tryz.underlying46 rfl) rfl ?_
                            refine o_T (y_lss rfl rfl) rfl ?_
                            refine o_nil1 162 rfl rfl ?_
                            refine c_cond rfl (fun h556 => ?_) (fun h556 => ?_)
                            · try simp only [decide_eq_true_eq, decide_eq_false_iff_not, Bool.not_eq_true', Bool.not_eq_false', Int.not_lt, Int.not_le, Decidable.not_not, beq_iff_eq, bne_iff_ne, ne_eq, beq_eq_false_iff_ne, WA.wd] at h556
                              refine c_skip ?_
                              refine c_seq ?_
                              refine c_block ?_
                              refine c_seq ?_
                              obtain ⟨bs, hsv2, hgc⟩ := hin.pos (by omega)
                              subst hgc
                              refine c_draw #[true, true, true, true, true, true, true, true, true, true, true, true, true, true, true, true, true, true, true, true, false, true] rfl (n := 22) rfl ?_
                              refine d_T 0 rfl (by kernel_rfl) rfl (y_move rfl) rfl ?_
                              refine d_T 1 rfl (by kernel_rfl) rfl (y_move rfl) rfl ?_
                              refine d_T 2 rfl (by kernel_rfl) rfl (y_nilck rfl) rfl ?_
                              refine d_T 3 rfl (by kernel_rfl) rfl (y_fa fl_53_0 rfl) rfl ?_
                              refine d_T 4 rfl (by kernel_rfl) rfl (y_ia ar_34 rfl rfl (by omega) (by omega)) rfl ?_
                              refine d_ld 5 rfl (by kernel_rfl) one_33 rfl (fun x hx => hx) (ms (ms (ms (ms (ms m0))))) (Wd.g_h c (by omega) (by omega)) rfl ?_
                              refine d_T 6 rfl (by kernel_rfl) rfl (y_move rfl) rfl ?_
                              refine d_T 7 rfl (by kernel_rfl) rfl (y_move rfl) rfl ?_
                              refine d_T 8 rfl (by kernel_rfl) rfl (y_nilck rfl) rfl ?_
                              refine d_T 9 rfl (by kernel_rfl) rfl (y_fa fl_53_8 rfl) rfl ?_
                              refine d_T 10 rfl (by kernel_rfl) rfl (y_ia ar_47 rfl rfl (by omega) (by omega)) rfl ?_
                              refine d_ld 11 rfl (by kernel_rfl) one_46 rfl (fun x hx => hx) (ms (ms (ms (ms (ms m0))))) ((Wd.g_seen c (by omega) (by omega)).trans (congrArg some hsv2)) rfl ?_
                              refine d_T 12 rfl (by kernel_rfl) rfl (y_move rfl) rfl ?_
                              refine d_T 13 rfl (by kernel_rfl) rfl (y_is sl_46 rfl rfl (by omega) (by omega)) rfl ?_
                              refine d_ld 14 rfl (by kernel_rfl) one_3 rfl (fun x hx => hx) m0 (iV_get k (by omega) (by omega)) rfl ?_
                              refine d_hard2A 19 15 (l := [15, 19]) rfl rfl (by kernel_rfl) (by first | exact .inl rfl | exact .inr rfl) ze_69 rfl rfl (fun b_2 => ?_) ?_
                              · skip
                                refine d_hard 15 rfl (by kernel_rfl) ?_
                                refine o_call en_32 rfl (i32 hx_1 c3 (ok2 _ c3).1 _ ((ok2 _ c3).2 _)) (s_skip (s_skip (s_skip (s_skip (s_skip (s_take s_nil)))))) rfl ?_
                                rintro v S' ⟨pc_2, gc_2, rfl, hi_2, rfl⟩
                                refine o_front (s_get k0 (s_get (ks k0) (s_get (ks k0) (s_get (ks k0) (s_get (ks k0) (s_get (ks k0) (s_get k0 (s_get k0 (s_get k0 (s_get k0 (s_get k0 (s_get k0 (s_get k0 (s_get k0 (s_get k0 (s_get k0 (s_get k0 s_nil))))))))))))))))) ?_
                                refine o_stop (fun _ => (fun x hx => (ms (ms hx)))) ?_
                                refine d_T 16 rfl (by kernel_rfl) rfl (y_move rfl) rfl ?_
                                refine d_T 17 rfl (by kernel_rfl) rfl (y_extract rfl rfl) rfl ?_
                                refine d_T 18 rfl (by kernel_rfl) rfl (y_extract rfl rfl) rfl ?_
                                refine d_hard 20 rfl (by kernel_rfl) ?_
                                refine o_sta ag_69 rfl rfl (si_plain hi_2) rfl (rs r0) (setAll_full _ _ rfl) (of_ble rfl) ?_
                                refine o_stop (fun h => nomatch h) ?_
                                refine d_L 21 rfl (by kernel_rfl) rfl (y_assign rfl) rfl rfl ?_
                                refine d_nil0 (by kernel_rfl) rfl ?_
                                refine c_seq ?_
                                refine c_region ?_
                                refine o_T (y_move rfl) rfl ?_
                                refine o_T (y_eql rfl rfl) rfl ?_
                                refine o_T (y_move rfl) rfl ?_
                                refine o_split 186 rfl (fun h558 => ?_) (fun h558 => ?_)
                                · try simp only [decide_eq_true_eq, decide_eq_false_iff_not, Bool.not_eq_true', Bool.not_eq_false', Int.not_lt, Int.not_le, Decidable.not_not, beq_iff_eq, bne_iff_ne, ne_eq, beq_eq_false_iff_ne, WA.wd] at h558
                                  refine o_take rfl rfl rfl ?_
                                  refine o_T (y_fa fl_69_0 rfl) rfl ?_
                                  refine o_take rfl rfl rfl ?_
                                  refine o_T (y_fa fl_66_1 rfl) rfl ?_
                                  refine o_take rfl rfl rfl ?_
                                  refine o_ld one_3 rfl (ms m0) Si.g1 rfl ?_
                                  refine o_take rfl rfl rfl ?_
                                  refine o_T (y_eql rfl rfl) rfl ?_
                                  refine o_T (y_pickT rfl rfl) rfl ?_
                                  refine o_T (y_move rfl) rfl ?_
                                  refine o_split 192 rfl (fun h558_1 => ?_) (fun h558_1 => ?_)
                                  · try simp only [decide_eq_true_eq, decide_eq_false_iff_not, Bool.not_eq_true', Bool.not_eq_false', Int.not_lt, Int.not_le, Decidable.not_not, beq_iff_eq, bne_iff_ne, ne_eq, beq_eq_false_iff_ne, WA.wd] at h558_1
                                    refine o_take rfl rfl rfl ?_
                                    refine o_T (y_fa fl_69_0 rfl) rfl ?_
                                    refine o_take rfl rfl rfl ?_
                                    refine o_T (y_fa fl_66_2 rfl) rfl ?_
                                    refine o_take rfl rfl rfl ?_
                                    refine o_ld one_3 rfl (ms m0) Si.g2 rfl ?_
                                    refine o_take rfl rfl rfl ?_
                                    refine o_T (y_fa fl_69_0 rfl) rfl ?_
                                    refine o_take rfl rfl rfl ?_
                                    refine o_T (y_fa fl_66_2 rfl) rfl ?_
                                    refine o_take rfl rfl rfl ?_
                                    refine o_ld one_3 rfl (ms (ms (ms (ms m0)))) Si.g2 rfl ?_
                                    refine o_take rfl rfl rfl ?_
                                    refine o_T (y_eql rfl rfl) rfl ?_
                                    refine o_T (y_pickT rfl rfl) rfl ?_
                                    refine o_T (y_move rfl) rfl ?_
                                    refine o_split 201 rfl (fun h558_2 => ?_) (fun h558_2 => ?_)
                                    · try simp only [decide_eq_true_eq, decide_eq_false_iff_not, Bool.not_eq_true', Bool.not_eq_false', Int.not_lt, Int.not_le, Decidable.not_not, beq_iff_eq, bne_iff_ne, ne_eq, beq_eq_false_iff_ne, WA.wd] at h558_2
                                      refine o_take rfl rfl rfl ?_
                                      refine o_T (y_fa fl_69_0 rfl) rfl ?_
                                      refine o_take rfl rfl rfl ?_
                                      refine o_T (y_fa fl_66_3 rfl) rfl ?_
                                      refine o_take rfl rfl rfl ?_
                                      refine o_ld one_3 rfl (ms m0) Si.g3 rfl ?_
                                      refine o_take rfl rfl rfl ?_
                                      refine o_T (y_move rfl) rfl ?_
                                      refine o_take rfl rfl rfl ?_
                                      refine o_T (y_eql rfl rfl) rfl ?_
                                      refine o_T (y_pickT rfl rfl) rfl ?_
                                      refine o_T (y_move rfl) rfl ?_
                                      refine o_split 208 rfl (fun h558_3 => ?_) (fun h558_3 => ?_)
                                      · try simp only [decide_eq_true_eq, decide_eq_false_iff_not, Bool.not_eq_true', Bool.not_eq_false', Int.not_lt, Int.not_le, Decidable.not_not, beq_iff_eq, bne_iff_ne, ne_eq, beq_eq_false_iff_ne, WA.wd] at h558_3
                                        refine o_take rfl rfl rfl ?_
                                        refine o_T (y_fa fl_69_0 rfl) rfl ?_
                                        refine o_take rfl rfl rfl ?_
                                        refine o_T (y_fa fl_66_4 rfl) rfl ?_
                                        refine o_take rfl rfl rfl ?_
                                        refine o_ld one_3 rfl (ms m0) Si.g4 rfl ?_
                                        refine o_take rfl rfl rfl ?_
                                        refine o_T (y_move rfl) rfl ?_
                                        refine o_take rfl rfl rfl ?_
                                        refine o_T (y_eql rfl rfl) rfl ?_
                                        refine o_T (y_pickT rfl rfl) rfl ?_
                                        refine o_nil1 214 rfl rfl ?_
                                        refine c_cond rfl (fun h558_4 => ?_) (fun h558_4 => ?_)
                                        · try simp only [decide_eq_true_eq, decide_eq_false_iff_not, Bool.not_eq_true', Bool.not_eq_false', Int.not_lt, Int.not_le, Decidable.not_not, beq_iff_eq, bne_iff_ne, ne_eq, beq_eq_false_iff_ne, WA.wd] at h558_4
                                          exact absurd ⟨h558, h558_1, h558_2, h558_3, h558_4⟩ ((hC h546).tup _ (getD_mem (show k < (x.seen c).length by omega)))
                                        · try simp only [decide_eq_true_eq, decide_eq_false_iff_not, Bool.not_eq_true', Bool.not_eq_false', Int.not_lt, Int.not_le, Decidable.not_not, beq_iff_eq, bne_iff_ne, ne_eq, beq_eq_false_iff_ne, WA.wd] at h558_4
                                          refine c_skip ?_
                                          refine c_region ?_
                                          refine o_T (y_move rfl) rfl ?_
                                          refine o_T (y_add rfl rfl (w64 (by omega))) rfl ?_
                                          refine o_L (y_assign rfl) rfl rfl ?_
                                          refine o_nil0 rfl ?_
                                          refine ⟨(k + 1), ⟨by omega, by first | omega | (dsimp only; omega)⟩, ⟨by first | rfl | exact gteI rfl (by omega), trivial⟩, ⟨rfl, rfl⟩, _, ((s_skip (s_skip (s_take (s_take (s_take (s_take (s_take (s_take (s_take (s_take (s_take (s_take (s_take (s_take (s_take (s_take (s_take s_nil))))))))))))))))))⟩
                                      · try simp only [decide_eq_true_eq, decide_eq_false_iff_not, Bool.not_eq_true', Bool.not_eq_false', Int.not_lt, Int.not_le, Decidable.not_not, beq_iff_eq, bne_iff_ne, ne_eq, beq_eq_false_iff_ne, WA.wd] at h558_3
                                        refine o_pass rfl rfl rfl rfl rfl ?_
                                        refine o_pass rfl rfl rfl rfl rfl ?_
                                        refine o_pass rfl rfl rfl rfl rfl ?_
                                        refine o_pass rfl rfl rfl rfl rfl ?_
                                        refine o_pass rfl rfl rfl rfl rfl ?_
                                        refine o_T (y_pickF rfl rfl) rfl ?_
                                        refine o_nil1 214 rfl rfl ?_
                                        refine c_condF rfl ?_
                                        refine c_skip ?_
                                        refine c_region ?_
                                        refine o_T (y_move rfl) rfl ?_
                                        refine o_T (y_add rfl rfl (w64 (by omega))) rfl ?_
                                        refine o_L (y_assign rfl) rfl rfl ?_
                                        refine o_nil0 rfl ?_
                                        refine ⟨(k + 1), ⟨by omega, by first | omega | (dsimp only; omega)⟩, ⟨by first | rfl | exact gteI rfl (by omega), trivial⟩, ⟨rfl, rfl⟩, _, ((s_skip (s_skip (s_take (s_take (s_take (s_take (s_take (s_take (s_take (s_take (s_take (s_take (s_take (s_take (s_take (s_take (s_take s_nil))))))))))))))))))⟩
                                    · try simp only [decide_eq_true_eq, decide_eq_false_iff_not, Bool.not_eq_true', Bool.not_eq_false', Int.not_lt, Int.not_le, Decidable.not_not, beq_iff_eq, bne_iff_ne, ne_eq, beq_eq_false_iff_ne, WA.wd] at h558_2
                                      refine o_pass rfl rfl rfl rfl rfl ?_
                                      refine o_pass rfl rfl rfl rfl rfl ?_
                                      refine o_pass rfl rfl rfl rfl rfl ?_
                                      refine o_pass rfl rfl rfl rfl rfl ?_
                                      refine o_pass rfl rfl rfl rfl rfl ?_
                                      refine o_T (y_pickF rfl rfl) rfl ?_
                                      refine o_T (y_move rfl) rfl ?_
                                      refine o_pass rfl rfl rfl rfl rfl ?_
                                      refine o_pass rfl rfl rfl rfl rfl ?_
                                      refine o_pass rfl rfl rfl rfl rfl ?_
                                      refine o_pass rfl rfl rfl rfl rfl ?_
                                      refine o_pass rfl rfl rfl rfl rfl ?_
                                      refine o_T (y_pickF rfl rfl) rfl ?_
                                      refine o_nil1 214 rfl rfl ?_
                                      refine c_condF rfl ?_
                                      refine c_skip ?_
                                      refine c_region ?_
                                      refine o_T (y_move rfl) rfl ?_
                                      refine o_T (y_add rfl rfl (w64 (by omega))) rfl ?_
                                      refine o_L (y_assign rfl) rfl rfl ?_
                                      refine o_nil0 rfl ?_
                                      refine ⟨(k + 1), ⟨by omega, by first | omega | (dsimp only; omega)⟩, ⟨by first | rfl | exact gteI rfl (by omega), trivial⟩, ⟨rfl, rfl⟩, _, ((s_skip (s_skip (s_take (s_take (s_take (s_take (s_take (s_take (s_take (s_take (s_take (s_take (s_take (s_take (s_take (s_take (s_take s_nil))))))))))))))))))⟩
                                  · try simp only [decide_eq_true_eq, decide_eq_false_iff_not, Bool.not_eq_true', Bool.not_eq_false', Int.not_lt, Int.not_le, Decidable.not_not, beq_iff_eq, bne_iff_ne, ne_eq, beq_eq_false_iff_ne, WA.wd] at h558_1
                                    refine o_pass rfl rfl rfl rfl rfl ?_
                                    refine o_pass rfl rfl rfl rfl rfl ?_
                                    refine o_pass rfl rfl rfl rfl rfl ?_
                                    refine o_pass rfl rfl rfl rfl rfl ?_
                                    refine o_pass rfl rfl rfl rfl rfl ?_
                                    refine o_pass rfl rfl rfl rfl rfl ?_
                                    refine o_pass rfl rfl rfl rfl rfl ?_
                                    refine o_T (y_pickF rfl rfl) rfl ?_
                                    refine o_T (y_move rfl) rfl ?_
                                    refine o_pass rfl rfl rfl rfl rfl ?_
                                    refine o_pass rfl rfl rfl rfl rfl ?_
                                    refine o_pass rfl rfl rfl rfl rfl ?_
                                    refine o_pass rfl rfl rfl rfl rfl ?_
                                    refine o_pass rfl rfl rfl rfl rfl ?_
                                    refine o_T (y_pickF rfl rfl) rfl ?_
                                    refine o_T (y_move rfl) rfl ?_
                                    refine o_pass rfl rfl rfl rfl rfl ?_
                                    refine o_pass rfl rfl rfl rfl rfl ?_
                                    refine o_pass rfl rfl rfl rfl rfl ?_
                                    refine o_pass rfl rfl rfl rfl rfl ?_
                                    refine o_pass rfl rfl rfl rfl rfl ?_
                                    refine o_T (y_pickF rfl rfl) rfl ?_
                                    refine o_nil1 214 rfl rfl ?_
                                    refine c_condF rfl ?_
                                    refine c_skip ?_
                                    refine c_region ?_
                                    refine o_T (y_move rfl) rfl ?_
                                    refine o_T (y_add rfl rfl (w64 (by omega))) rfl ?_
                                    refine o_L (y_assign rfl) rfl rfl ?_
                                    refine o_nil0 rfl ?_
                                    refine ⟨(k + 1), ⟨by omega, by first | omega | (dsimp only; omega)⟩, ⟨by first | rfl | exact gteI rfl (by omega), trivial⟩, ⟨rfl, rfl⟩, _, ((s_skip (s_skip (s_take (s_take (s_take (s_take (s_take (s_take (s_take (s_take (s_take (s_take (s_take (s_take (s_take (s_take (s_take s_nil))))))))))))))))))⟩
                                · try simp only [decide_eq_true_eq, decide_eq_false_iff_not, Bool.not_eq_true', Bool.not_eq_false', Int.not_lt, Int.not_le, Decidable.not_not, beq_iff_eq, bne_iff_ne, ne_eq, beq_eq_false_iff_ne, WA.wd] at h558
                                  refine o_pass rfl rfl rfl rfl rfl ?_
                                  refine o_pass rfl rfl rfl rfl rfl ?_
                                  refine o_pass rfl rfl rfl rfl rfl ?_
                                  refine o_pass rfl rfl rfl rfl rfl ?_
                                  refine o_T (y_pickF rfl rfl) rfl ?_
                                  refine o_T (y_move rfl) rfl ?_
                                  refine o_pass rfl rfl rfl rfl rfl ?_
                                  refine o_pass rfl rfl rfl rfl rfl ?_
                                  refine o_pass rfl rfl rfl rfl rfl ?_
                                  refine o_pass rfl rfl rfl rfl rfl ?_
                                  refine o_pass rfl rfl rfl rfl rfl ?_
                                  refine o_pass rfl rfl rfl rfl rfl ?_
                                  refine o_pass rfl rfl rfl rfl rfl ?_
                                  refine o_T (y_pickF rfl rfl) rfl ?_
                                  refine o_T (y_move rfl) rfl ?_
                                  refine o_pass rfl rfl rfl rfl rfl ?_
                                  refine o_pass rfl rfl rfl rfl rfl ?_
                                  refine o_pass rfl rfl rfl rfl rfl ?_
                                  refine o_pass rfl rfl rfl rfl rfl ?_
                                  refine o_pass rfl rfl rfl rfl rfl ?_
                                  refine o_T (y_pickF rfl rfl) rfl ?_
                                  refine o_T (y_move rfl) rfl ?_
                                  refine o_pass rfl rfl rfl rfl rfl ?_
                                  refine o_pass rfl rfl rfl rfl rfl ?_
                                  refine o_pass rfl rfl rfl rfl rfl ?_
                                  refine o_pass rfl rfl rfl rfl rfl ?_
                                  refine o_pass rfl rfl rfl rfl rfl ?_
                                  refine o_T (y_pickF rfl rfl) rfl ?_
                                  refine o_nil1 214 rfl rfl ?_
                                  refine c_condF rfl ?_
                                  refine c_skip ?_
                                  refine c_region ?_
                                  refine o_T (y_move rfl) rfl ?_
                                  refine o_T (y_add rfl rfl (w64 (by omega))) rfl ?_
                                  refine o_L (y_assign rfl) rfl rfl ?_
                                  refine o_nil0 rfl ?_
                                  refine ⟨(k + 1), ⟨by omega, by first | omega | (dsimp only; omega)⟩, ⟨by first | rfl | exact gteI rfl (by omega), trivial⟩, ⟨rfl, rfl⟩, _, ((s_skip (s_skip (s_take (s_take (s_take (s_take (s_take (s_take (s_take (s_take (s_take (s_take (s_take (s_take (s_take (s_take (s_take s_nil))))))))))))))))))⟩
                              · skip
                                refine o_call en_32 rfl (i32 hx_1 c3 (ok2 _ c3).1 _ ((ok2 _ c3).2 _)) (s_skip (s_skip (s_skip (s_skip (s_take s_nil))))) rfl ?_
                                rintro v S' ⟨pc_3, gc_3, rfl, hi_3, rfl⟩
                                refine o_front (s_get k0 (s_get (ks k0) (s_get (ks k0) (s_get (ks k0) (s_get (ks k0) (s_get k0 (s_get k0 (s_get k0 (s_get k0 (s_get k0 (s_get k0 (s_get k0 (s_get k0 (s_get k0 (s_get k0 (s_get k0 s_nil)))))))))))))))) ?_
                                refine o_stop (fun _ => (fun x hx => (ms hx))) ?_
                                refine d_T 16 rfl (by kernel_rfl) rfl (y_move rfl) rfl ?_
                                refine d_T 17 rfl (by kernel_rfl) rfl (y_extract rfl rfl) rfl ?_
                                refine d_T 18 rfl (by kernel_rfl) rfl (y_extract rfl rfl) rfl ?_
                                refine d_hardA 19 rfl (by kernel_rfl) ze_69 rfl rfl (fun b_3 => ?_)
                                refine d_hard 20 rfl (by kernel_rfl) ?_
                                refine o_sta ag_69 rfl rfl (si_plain hi_3) rfl r0 (setAll_full _ _ rfl) (of_ble rfl) ?_
                                refine o_stop (fun h => nomatch h) ?_
                                refine d_L 21 rfl (by kernel_rfl) rfl (y_assign rfl) rfl rfl ?_
                                refine d_nil0 (by kernel_rfl) rfl ?_
                                refine c_seq ?_
                                refine c_region ?_
                                refine o_T (y_move rfl) rfl ?_
                                refine o_T (y_eql rfl rfl) rfl ?_
                                refine o_T (y_move rfl) rfl ?_
                                refine o_split 186 rfl (fun h558 => ?_) (fun h558 => ?_)
                                · try simp only [decide_eq_true_eq, decide_eq_false_iff_not, Bool.not_eq_true', Bool.not_eq_false', Int.not_lt, Int.not_le, Decidable.not_not, beq_iff_eq, bne_iff_ne, ne_eq, beq_eq_false_iff_ne, WA.wd] at h558
                                  refine o_take rfl rfl rfl ?_
                                  refine o_T (y_fa fl_69_0 rfl) rfl ?_
                                  refine o_take rfl rfl rfl ?_
                                  refine o_T (y_fa fl_66_1 rfl) rfl ?_
                                  refine o_take rfl rfl rfl ?_
                                  refine o_ld one_3 rfl m0 Si.g1 rfl ?_
                                  refine o_take rfl rfl rfl ?_
                                  refine o_T (y_eql rfl rfl) rfl ?_
                                  refine o_T (y_pickT rfl rfl) rfl ?_
                                  refine o_T (y_move rfl) rfl ?_
                                  refine o_split 192 rfl (fun h558_1 => ?_) (fun h558_1 => ?_)
                                  · try simp only [decide_eq_true_eq, decide_eq_false_iff_not, Bool.not_eq_true', Bool.not_eq_false', Int.not_lt, Int.not_le, Decidable.not_not, beq_iff_eq, bne_iff_ne, ne_eq, beq_eq_false_iff_ne, WA.wd] at h558_1
                                    refine o_take rfl rfl rfl ?_
                                    refine o_T (y_fa fl_69_0 rfl) rfl ?_
                                    refine o_take rfl rfl rfl ?_
                                    refine o_T (y_fa fl_66_2 rfl) rfl ?_
                                    refine o_take rfl rfl rfl ?_
                                    refine o_ld one_3 rfl m0 Si.g2 rfl ?_
                                    refine o_take rfl rfl rfl ?_
                                    refine o_T (y_fa fl_69_0 rfl) rfl ?_
                                    refine o_take rfl rfl rfl ?_
                                    refine o_T (y_fa fl_66_2 rfl) rfl ?_
                                    refine o_take rfl rfl rfl ?_
                                    refine o_ld one_3 rfl (ms (ms (ms (ms m0)))) Si.g2 rfl ?_
                                    refine o_take rfl rfl rfl ?_
                                    refine o_T (y_eql rfl rfl) rfl ?_
                                    refine o_T (y_pickT rfl rfl) rfl ?_
                                    refine o_T (y_move rfl) rfl ?_
                                    refine o_split 201 rfl (fun h558_2 => ?_) (fun h558_2 => ?_)
                                    · try simp only [decide_eq_true_eq, decide_eq_false_iff_not, Bool.not_eq_true', Bool.not_eq_false', Int.not_lt, Int.not_le, Decidable.not_not, beq_iff_eq, bne_iff_ne, ne_eq, beq_eq_false_iff_ne, WA.wd] at h558_2
                                      refine o_take rfl rfl rfl ?_
                                      refine o_T (y_fa fl_69_0 rfl) rfl ?_
                                      refine o_take rfl rfl rfl ?_
                                      refine o_T (y_fa fl_66_3 rfl) rfl ?_
                                      refine o_take rfl rfl rfl ?_
                                      refine o_ld one_3 rfl m0 Si.g3 rfl ?_
                                      refine o_take rfl rfl rfl ?_
                                      refine o_T (y_move rfl) rfl ?_
                                      refine o_take rfl rfl rfl ?_
                                      refine o_T (y_eql rfl rfl) rfl ?_
                                      refine o_T (y_pickT rfl rfl) rfl ?_
                                      refine o_T (y_move rfl) rfl ?_
                                      refine o_split 208 rfl (fun h558_3 => ?_) (fun h558_3 => ?_)
                                      · try simp only [decide_eq_true_eq, decide_eq_false_iff_not, Bool.not_eq_true', Bool.not_eq_false', Int.not_lt, Int.not_le, Decidable.not_not, beq_iff_eq, bne_iff_ne, ne_eq, beq_eq_false_iff_ne, WA.wd] at h558_3
                                        refine o_take rfl rfl rfl ?_
                                        refine o_T (y_fa fl_69_0 rfl) rfl ?_
                                        refine o_take rfl rfl rfl ?_
                                        refine o_T (y_fa fl_66_4 rfl) rfl ?_
                                        refine o_take rfl rfl rfl ?_
                                        refine o_ld one_3 rfl m0 Si.g4 rfl ?_
                                        refine o_take rfl rfl rfl ?_
                                        refine o_T (y_move rfl) rfl ?_
                                        refine o_take rfl rfl rfl ?_
                                        refine o_T (y_eql rfl rfl) rfl ?_
                                        refine o_T (y_pickT rfl rfl) rfl ?_
                                        refine o_nil1 214 rfl rfl ?_
                                        refine c_cond rfl (fun h558_4 => ?_) (fun h558_4 => ?_)
                                        · try simp only [decide_eq_true_eq, decide_eq_false_iff_not, Bool.not_eq_true', Bool.not_eq_false', Int.not_lt, Int.not_le, Decidable.not_not, beq_iff_eq, bne_iff_ne, ne_eq, beq_eq_false_iff_ne, WA.wd] at h558_4
                                          exact absurd ⟨h558, h558_1, h558_2, h558_3, h558_4⟩ ((hC h546).tup _ (getD_mem (show k < (x.seen c).length by omega)))
                                        · try simp only [decide_eq_true_eq, decide_eq_false_iff_not, Bool.not_eq_true', Bool.not_eq_false', Int.not_lt, Int.not_le, Decidable.not_not, beq_iff_eq, bne_iff_ne, ne_eq, beq_eq_false_iff_ne, WA.wd] at h558_4
                                          refine c_skip ?_
                                          refine c_region ?_
                                          refine o_T (y_move rfl) rfl ?_
                                          refine o_T (y_add rfl rfl (w64 (by omega))) rfl ?_
                                          refine o_L (y_assign rfl) rfl rfl ?_
                                          refine o_nil0 rfl ?_
                                          refine ⟨(k + 1), ⟨by omega, by first | omega | (dsimp only; omega)⟩, ⟨by first | rfl | exact gteI rfl (by omega), trivial⟩, ⟨rfl, rfl⟩, _, ((s_skip (s_skip (s_take (s_take (s_take (s_take (s_take (s_take (s_take (s_take (s_take (s_take (s_take (s_take (s_take (s_take (s_take s_nil))))))))))))))))))⟩
                                      · try simp only [decide_eq_true_eq, decide_eq_false_iff_not, Bool.not_eq_true', Bool.not_eq_false', Int.not_lt, Int.not_le, Decidable.not_not, beq_iff_eq, bne_iff_ne, ne_eq, beq_eq_false_iff_ne, WA.wd] at h558_3
                                        refine o_pass rfl rfl rfl rfl rfl ?_
                                        refine o_pass rfl rfl rfl rfl rfl ?_
                                        refine o_pass rfl rfl rfl rfl rfl ?_
                                        refine o_pass rfl rfl rfl rfl rfl ?_
                                        refine o_pass rfl rfl rfl rfl rfl ?_
                                        refine o_T (y_pickF rfl rfl) rfl ?_
                                        refine o_nil1 214 rfl rfl ?_
                                        refine c_condF rfl ?_
                                        refine c_skip ?_
                                        refine c_region ?_
                                        refine o_T (y_move rfl) rfl ?_
                                        refine o_T (y_add rfl rfl (w64 (by omega))) rfl ?_
                                        refine o_L (y_assign rfl) rfl rfl ?_
                                        refine o_nil0 rfl ?_
                                        refine ⟨(k + 1), ⟨by omega, by first | omega | (dsimp only; omega)⟩, ⟨by first | rfl | exact gteI rfl (by omega), trivial⟩, ⟨rfl, rfl⟩, _, ((s_skip (s_skip (s_take (s_take (s_take (s_take (s_take (s_take (s_take (s_take (s_take (s_take (s_take (s_take (s_take (s_take (s_take s_nil))))))))))))))))))⟩
                                    · try simp only [decide_eq_true_eq, decide_eq_false_iff_not, Bool.not_eq_true', Bool.not_eq_false', Int.not_lt, Int.not_le, Decidable.not_not, beq_iff_eq, bne_iff_ne, ne_eq, beq_eq_false_iff_ne, WA.wd] at h558_2
                                      refine o_pass rfl rfl rfl rfl rfl ?_
                                      refine o_pass rfl rfl rfl rfl rfl ?_
                                      refine o_pass rfl rfl rfl rfl rfl ?_
                                      refine o_pass rfl rfl rfl rfl rfl ?_
                                      refine o_pass rfl rfl rfl rfl rfl ?_
                                      refine o_T (y_pickF rfl rfl) rfl ?_
                                      refine o_T (y_move rfl) rfl ?_
                                      refine o_pass rfl rfl rfl rfl rfl ?_
                                      refine o_pass rfl rfl rfl rfl rfl ?_
                                      refine o_pass rfl rfl rfl rfl rfl ?_
                                      refine o_pass rfl rfl rfl rfl rfl ?_
                                      refine o_pass rfl rfl rfl rfl rfl ?_
                                      refine o_T (y_pickF rfl rfl) rfl ?_
                                      refine o_nil1 214 rfl rfl ?_
                                      refine c_condF rfl ?_
                                      refine c_skip ?_
                                      refine c_region ?_
                                      refine o_T (y_move rfl) rfl ?_
                                      refine o_T (y_add rfl rfl (w64 (by omega))) rfl ?_
                                      refine o_L (y_assign rfl) rfl rfl ?_
                                      refine o_nil0 rfl ?_
                                      refine ⟨(k + 1), ⟨by omega, by first | omega | (dsimp only; omega)⟩, ⟨by first | rfl | exact gteI rfl (by omega), trivial⟩, ⟨rfl, rfl⟩, _, ((s_skip (s_skip (s_take (s_take (s_take (s_take (s_take (s_take (s_take (s_take (s_take (s_take (s_take (s_take (s_take (s_take (s_take s_nil))))))))))))))))))⟩
                                  · try simp only [decide_eq_true_eq, decide_eq_false_iff_not, Bool.not_eq_true', Bool.not_eq_false', Int.not_lt, Int.not_le, Decidable.not_not, beq_iff_eq, bne_iff_ne, ne_eq, beq_eq_false_iff_ne, WA.wd] at h558_1
                                    refine o_pass rfl rfl rfl rfl rfl ?_
                                    refine o_pass rfl rfl rfl rfl rfl ?_
                                    refine o_pass rfl rfl rfl rfl rfl ?_
                                    refine o_pass rfl rfl rfl rfl rfl ?_
                                    refine o_pass rfl rfl rfl rfl rfl ?_
                                    refine o_pass rfl rfl rfl rfl rfl ?_
                                    refine o_pass rfl rfl rfl rfl rfl ?_
                                    refine o_T (y_pickF rfl rfl) rfl ?_
                                    refine o_T (y_move rfl) rfl ?_
                                    refine o_pass rfl rfl rfl rfl rfl ?_
                                    refine o_pass rfl rfl rfl rfl rfl ?_
                                    refine o_pass rfl rfl rfl rfl rfl ?_
                                    refine o_pass rfl rfl rfl rfl rfl ?_
                                    refine o_pass rfl rfl rfl rfl rfl ?_
                                    refine o_T (y_pickF rfl rfl) rfl ?_
                                    refine o_T (y_move rfl) rfl ?_
                                    refine o_pass rfl rfl rfl rfl rfl ?_
                                    refine o_pass rfl rfl rfl rfl rfl ?_
                                    refine o_pass rfl rfl rfl rfl rfl ?_
                                    refine o_pass rfl rfl rfl rfl rfl ?_
                                    refine o_pass rfl rfl rfl rfl rfl ?_
                                    refine o_T (y_pickF rfl rfl) rfl ?_
                                    refine o_nil1 214 rfl rfl ?_
                                    refine c_condF rfl ?_
                                    refine c_skip ?_
                                    refine c_region ?_
                                    refine o_T (y_move rfl) rfl ?_
                                    refine o_T (y_add rfl rfl (w64 (by omega))) rfl ?_
                                    refine o_L (y_assign rfl) rfl rfl ?_
                                    refine o_nil0 rfl ?_
                                    refine ⟨(k + 1), ⟨by omega, by first | omega | (dsimp only; omega)⟩, ⟨by first | rfl | exact gteI rfl (by omega), trivial⟩, ⟨rfl, rfl⟩, _, ((s_skip (s_skip (s_take (s_take (s_take (s_take (s_take (s_take (s_take (s_take (s_take (s_take (s_take (s_take (s_take (s_take (s_take s_nil))))))))))))))))))⟩
                                · try simp only [decide_eq_true_eq, decide_eq_false_iff_not, Bool.not_eq_true', Bool.not_eq_false', Int.not_lt, Int.not_le, Decidable.not_not, beq_iff_eq, bne_iff_ne, ne_eq, beq_eq_false_iff_ne, WA.wd] at h558
                                  refine o_pass rfl rfl rfl rfl rfl ?_
                                  refine o_pass rfl rfl rfl rfl rfl ?_
                                  refine o_pass rfl rfl rfl rfl rfl ?_
                                  refine o_pass rfl rfl rfl rfl rfl ?_
                                  refine o_T (y_pickF rfl rfl) rfl ?_
                                  refine o_T (y_move rfl) rfl ?_
                                  refine o_pass rfl rfl rfl rfl rfl ?_
                                  refine o_pass rfl rfl rfl rfl rfl ?_
                                  refine o_pass rfl rfl rfl rfl rfl ?_
                                  refine o_pass rfl rfl rfl rfl rfl ?_
                                  refine o_pass rfl rfl rfl rfl rfl ?_
                                  refine o_pass rfl rfl rfl rfl rfl ?_
                                  refine o_pass rfl rfl rfl rfl rfl ?_
                                  refine o_T (y_pickF rfl rfl) rfl ?_
                                  refine o_T (y_move rfl) rfl ?_
                                  refine o_pass rfl rfl rfl rfl rfl ?_
                                  refine o_pass rfl rfl rfl rfl rfl ?_
                                  refine o_pass rfl rfl rfl rfl rfl ?_
                                  refine o_pass rfl rfl rfl rfl rfl ?_
                                  refine o_pass rfl rfl rfl rfl rfl ?_
                                  refine o_T (y_pickF rfl rfl) rfl ?_
                                  refine o_T (y_move rfl) rfl ?_
                                  refine o_pass rfl rfl rfl rfl rfl ?_
                                  refine o_pass rfl rfl rfl rfl rfl ?_
                                  refine o_pass rfl rfl rfl rfl rfl ?_
                                  refine o_pass rfl rfl rfl rfl rfl ?_
                                  refine o_pass rfl rfl rfl rfl rfl ?_
                                  refine o_T (y_pickF rfl rfl) rfl ?_
                                  refine o_nil1 214 rfl rfl ?_
                                  refine c_condF rfl ?_
                                  refine c_skip ?_
                                  refine c_region ?_
                                  refine o_T (y_move rfl) rfl ?_
                                  refine o_T (y_add rfl rfl (w64 (by omega))) rfl ?_
                                  refine o_L (y_assign rfl) rfl rfl ?_
                                  refine o_nil0 rfl ?_
                                  refine ⟨(k + 1), ⟨by omega, by first | omega | (dsimp only; omega)⟩, ⟨by first | rfl | exact gteI rfl (by omega), trivial⟩, ⟨rfl, rfl⟩, _, ((s_skip (s_skip (s_take (s_take (s_take (s_take (s_take (s_take (s_take (s_take (s_take (s_take (s_take (s_take (s_take (s_take (s_take s_nil))))))))))))))))))⟩
                            · try simp only [decide_eq_true_eq, decide_eq_false_iff_not, Bool.not_eq_true', Bool.not_eq_false', Int.not_lt, Int.not_le, Decidable.not_not, beq_iff_eq, bne_iff_ne, ne_eq, beq_eq_false_iff_ne, WA.wd] at h556
                              refine c_exit ?_
                              refine c_seq ?_
                              refine c_seq ?_
                              refine c_sht hpm ?_
                              obtain ⟨bi_1, hpcbi_1, hgcbi_1⟩ := InfG.ok hi_1 (hC h546).err
                              subst hpcbi_1 hgcbi_1
                              refine c_draw #[true, true, true, true, true, true, false, true] rfl (n := 8) rfl ?_
                              refine d_T 0 rfl (by kernel_rfl) rfl (y_move rfl) rfl ?_
                              refine d_T 1 rfl (by kernel_rfl) rfl (y_nilck rfl) rfl ?_
                              refine d_T 2 rfl (by kernel_rfl) rfl (y_fa fl_53_6 rfl) rfl ?_
                              refine d_ld 3 rfl (by kernel_rfl) one_44 rfl (fun x hx => hx) (ms (ms (ms (ms m0)))) Wd.g30 rfl ?_
                              refine d_T 4 rfl (by kernel_rfl) rfl (y_move rfl) rfl ?_
                              refine d_ldw 5 rfl (by kernel_rfl) ag_69 rfl (fun x hx => hx) (ms m0) rfl rfl ?_
                              refine d_hard 6 rfl (by kernel_rfl) ?_
                              refine o_call en_91 rfl (i91 W.n (by omega) _ _ _ _) (s_get (ks (ks (ks (ks (ks (ks (ks (ks (ks (ks (ks k0))))))))))) (s_get (ks (ks k0)) s_nil)) rfl ?_
                              rintro v S' ⟨gn_1, rfl, hn_1, rfl⟩
                              refine o_stop (fun h => nomatch h) ?_
                              refine d_T 7 rfl (by kernel_rfl) rfl (y_not rfl) rfl ?_
                              refine d_nil1 222 (by kernel_rfl) rfl rfl ?_
                              refine c_cond rfl (fun h562 => ?_) (fun h562 => ?_)
                              · try simp only [decide_eq_true_eq, decide_eq_false_iff_not, Bool.not_eq_true', Bool.not_eq_false', Int.not_lt, Int.not_le, Decidable.not_not, beq_iff_eq, bne_iff_ne, ne_eq, beq_eq_false_iff_ne, WA.wd] at h562
                                exact absurd ((hC h546).can.symm.trans h562) (fun z => nomatch z)
                              · try simp only [decide_eq_true_eq, decide_eq_false_iff_not, Bool.not_eq_true', Bool.not_eq_false', Int.not_lt, Int.not_le, Decidable.not_not, beq_iff_eq, bne_iff_ne, ne_eq, beq_eq_false_iff_ne, WA.wd] at h562
                                refine c_skip ?_
                                refine c_seq ?_
                                refine c_region ?_
                                refine o_T (y_move rfl) rfl ?_
                                refine o_T (y_move rfl) rfl ?_
                                refine o_T (y_move rfl) rfl ?_
                                refine o_call en_83 rfl (t83 A q { x with H := (upA x.H c ((x.H c).conH rh rp)), N := nConn x.N c (((upA x.H c ((x.H c).conH rh rp)) c).ent ((x.H c).conS rh rp)) (((upA x.H c ((x.H c).conH rh rp)) c).infoC ((x.H c).conS rh rp)) } { V with mine := vm2, outs := vo2 } c c3 _ _ _ _ _ _ _ _ _ hF_1 (by omega) W.w hz.wl hm2 ho2 (by omega) (by omega) (by have := hz.out c c3; dsimp only; omega) (by have := hz.spilt; dsimp only; omega)) (s_get (ks (ks (ks (ks (ks k0))))) (s_get (ks (ks (ks (ks (ks (ks (ks (ks (ks (ks k0)))))))))) (s_get (ks (ks (ks (ks (ks (ks k0)))))) (s_get (ks (ks (ks (ks (ks (ks k0)))))) (s_get (ks (ks (ks (ks (ks (ks k0)))))) (s_get (ks (ks (ks (ks (ks (ks k0)))))) s_nil)))))) rfl ?_
                                rintro v S' ⟨vm_2, vo_2, gw_1, gm_2, go_2, rfl, hw_1, hm_2, ho_2, rfl⟩
                                refine o_nil0 rfl ?_
                                refine c_seq ?_
                                refine c_region ?_
                                refine o_L (y_assign rfl) rfl rfl ?_
                                refine o_nil0 rfl ?_
                                refine c_ret ?_
                                refine fun aX wX heX hsX => ret1 Tryz.results45 heX rfl (s_get k0 (s_get (ks (ks (ks (ks (ks (ks (ks k0))))))) (s_get (ks (ks (ks (ks (ks (ks (ks k0))))))) (s_get k0 (s_get (ks (ks k0)) (s_get (ks (ks (ks k0))) (s_get (ks (ks (ks (ks k0)))) (s_get (ks (ks (ks (ks k0)))) (s_get (ks k0) (s_get k0 s_nil)))))))))) ?_
                                exact ⟨rfl, _, hY1 h546, { V with mine := vm_2, outs := vo_2 }, _, _, _, _, _, _, _, _, _, ⟨hx_1, hq2, hw_1, hn_1, W.s, W.r, W.i.mono (by omega), ho_2.mono (by omega), hm_2.mono (by omega)⟩, rfl, rfl⟩

end Go.Proofs.Qxb6500351aGreat
