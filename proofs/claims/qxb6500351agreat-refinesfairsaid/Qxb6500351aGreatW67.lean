/- MADE BY PROGRAM (tools/gen.py over tools/specs351.py): walks. -/
import Derived.Test.Qxb6500351aGreatW67a
import Derived.Test.Qxb6500351aGreatW67b
import Derived.Test.Qxb6500351aGreatW67c
import Derived.Test.Qxb6500351aGreatW67d
import Derived.Test.Qxb6500351aGreatW67e
import Derived.Test.Qxb6500351aGreatW67f
import Derived.Test.Qxb6500351aGreatFacts
import Derived.Test.Qxb6500351aGreatRp7
import Derived.Test.Qxb6500351aGreatW66
set_option linter.unusedVariables false
set_option linter.unusedSimpArgs false
namespace Go.Proofs.Qxb6500351aGreat
open Go.Eng
set_option maxRecDepth 20000
set_option maxHeartbeats 4000000
/-- (*e2e/hostm.Net).See -/
theorem t33 (b : Nat) (v : Value) (l : List Ned) (gv gd : List Chunk) (dl : Nat → Int) (h : Nat) (en : En) (bc : Nat) (ci : Ci) (l9 : List Ned) (hn : LstN 83 16 edR v l gv gd) (hK : NPk l) (h64 : l.length ≤ 59000000000) (hrh : ∀ x ∈ l, 0 ≤ x.rHost ∧ x.rHost < 256) (hz : ∀ x ∈ l, x.rcvd.length ≤ 1000000000000) (hci : 0 ≤ ci.avail ∧ ci.avail ≤ 1000) (hen : en.Ok) (hs : nSee l dl (h : Int) en ci = some l9) : Trip Tryz.prog 33 #[.pointer (some ⟨b, 0, none⟩), .int .i64 (h : Int), .agg (Si.mk en (.pointer (some ⟨bc, 0, none⟩))).enc] [[(b, .cells (Nt.mk v dl).enc 80 (0, 0))], gv, gd, [(bc, .cells ci.enc 95 (0, 0))]] (fun u S' => ∃ (v' : Value) (gv' gd' : List Chunk), u = .bool true ∧ LstN 83 16 edR v' (l9) gv' gd' ∧ S' = [[(b, .cells (Nt.mk v' dl).enc 80 (0, 0))], gv', gd', [(bc, .cells ci.enc 95 (0, 0))]]) := by
  have hln := lstN_bnd hn
  obtain ⟨pw, cw, hvw⟩ := hn.slice
  subst hvw
  have hh := nSee_h hs
  refine fn_entry (args := [.pointer (some ⟨b, 0, none⟩), .int .i64 (h : Int), .agg (Si.mk en (.pointer (some ⟨bc, 0, none⟩))).enc]) Tryz.func33 rfl Tryz.ntmps33 rfl (fun w0 => ?_)
  refine c_seq ?_
  refine c_region ?_
  refine o_box rfl rfl rfl rfl (fun b_1 => ?_)
  refine o_L (y_assign rfl) rfl rfl ?_
  refine o_nil0 rfl ?_
  refine c_seq ?_
  refine c_seq ?_
  refine c_region ?_
  refine o_T (y_move rfl) rfl ?_
  refine o_T (y_lss rfl rfl) rfl ?_
  refine o_T (y_move rfl) rfl ?_
  refine o_split 13 rfl (fun h80 => ?_) (fun h80 => ?_)
  · try simp only [decide_eq_true_eq, decide_eq_false_iff_not, Bool.not_eq_true', Bool.not_eq_false', Int.not_lt, Int.not_le, Decidable.not_not, beq_iff_eq, bne_iff_ne, ne_eq, beq_eq_false_iff_ne] at h80
    first | exact absurd h80 a3 | exact absurd a4 h80 | exact absurd h80 a5 | exact absurd (a6.symm.trans h80) Bool.false_ne_true | exact absurd h80 d1 | exact absurd d5 h80 | (exfalso; omega)
  · try simp only [decide_eq_true_eq, decide_eq_false_iff_not, Bool.not_eq_true', Bool.not_eq_false', Int.not_lt, Int.not_le, Decidable.not_not, beq_iff_eq, bne_iff_ne, ne_eq, beq_eq_false_iff_ne] at h80
    refine o_take rfl rfl rfl ?_
    refine o_T (y_move rfl) rfl ?_
    refine o_take rfl rfl rfl ?_
    refine o_T (y_geq rfl rfl) rfl ?_
    refine o_T (y_pickF rfl rfl) rfl ?_
    refine o_nil1 16 rfl rfl ?_
    refine c_cond rfl (fun h80_1 => ?_) (fun h80_1 => ?_)
    · try simp only [decide_eq_true_eq, decide_eq_false_iff_not, Bool.not_eq_true', Bool.not_eq_false', Int.not_lt, Int.not_le, Decidable.not_not, beq_iff_eq, bne_iff_ne, ne_eq, beq_eq_false_iff_ne] at h80_1
      first | exact absurd h80_1 a3 | exact absurd a4 h80_1 | exact absurd h80_1 a5 | exact absurd (a6.symm.trans h80_1) Bool.false_ne_true | exact absurd h80_1 d1 | exact absurd d5 h80_1 | (exfalso; omega)
    · try simp only [decide_eq_true_eq, decide_eq_false_iff_not, Bool.not_eq_true', Bool.not_eq_false', Int.not_lt, Int.not_le, Decidable.not_not, beq_iff_eq, bne_iff_ne, ne_eq, beq_eq_false_iff_ne] at h80_1
      refine c_skip ?_
      refine c_seq ?_
      refine c_region ?_
      refine o_T (y_move rfl) rfl ?_
      refine o_T (y_move rfl) rfl ?_
      refine o_T (y_fa fl_69_0 rfl) rfl ?_
      refine o_T (y_fa fl_66_0 rfl) rfl ?_
      refine o_ld one_3 rfl m0 Si.g0 rfl ?_
      refine o_callrv en_70 rfl (t70 _ _ _ _ _ _ _ _ (by assumption)) (s_skip (s_take (s_take s_nil))) rfl ?_
      refine o_L (y_assign rfl) rfl rfl ?_
      refine o_nil0 rfl ?_
      refine c_seq ?_
      refine c_seq ?_
      refine c_region ?_
      refine o_T (y_move rfl) rfl ?_
      refine o_T (y_lss rfl rfl) rfl ?_
      refine o_nil1 24 rfl rfl ?_
      refine c_cond rfl (fun h84 => ?_) (fun h84 => ?_)
      · try simp only [decide_eq_true_eq, decide_eq_false_iff_not, Bool.not_eq_true', Bool.not_eq_false', Int.not_lt, Int.not_le, Decidable.not_not, beq_iff_eq, bne_iff_ne, ne_eq, beq_eq_false_iff_ne] at h84
        refine c_seq ?_
        obtain ⟨⟨a1, a2⟩, a3, a4, a5, a6, a7, a8⟩ := nSee_A hs h84
        have a10 := hen.rh
        refine c_region ?_
        refine o_T (y_fa fl_69_0 rfl) rfl ?_
        refine o_T (y_fa fl_66_3 rfl) rfl ?_
        refine o_ld one_3 rfl m0 Si.g3 rfl ?_
        refine o_T (y_sub rfl rfl (w64 (by omega))) rfl ?_
        refine o_L (y_assign rfl) rfl rfl ?_
        refine o_nil0 rfl ?_
        refine c_seq ?_
        refine c_seq ?_
        refine c_region ?_
        refine o_T (y_move rfl) rfl ?_
        refine o_T (y_lss rfl rfl) rfl ?_
        refine o_T (y_move rfl) rfl ?_
        refine o_split 31 rfl (fun h86 => ?_) (fun h86 => ?_)
        · try simp only [decide_eq_true_eq, decide_eq_false_iff_not, Bool.not_eq_true', Bool.not_eq_false', Int.not_lt, Int.not_le, Decidable.not_not, beq_iff_eq, bne_iff_ne, ne_eq, beq_eq_false_iff_ne] at h86
          first | exact absurd h86 a3 | exact absurd a4 h86 | exact absurd h86 a5 | exact absurd (a6.symm.trans h86) Bool.false_ne_true | exact absurd h86 d1 | exact absurd d5 h86 | (exfalso; omega)
        · try simp only [decide_eq_true_eq, decide_eq_false_iff_not, Bool.not_eq_true', Bool.not_eq_false', Int.not_lt, Int.not_le, Decidable.not_not, beq_iff_eq, bne_iff_ne, ne_eq, beq_eq_false_iff_ne] at h86
          refine o_take rfl rfl rfl ?_
          refine o_T (y_move rfl) rfl ?_
          refine o_take rfl rfl rfl ?_
          refine o_T (y_geq rfl rfl) rfl ?_
          refine o_T (y_pickF rfl rfl) rfl ?_
          refine o_T (y_move rfl) rfl ?_
          refine o_split 35 rfl (fun h86_1 => ?_) (fun h86_1 => ?_)
          · try simp only [decide_eq_true_eq, decide_eq_false_iff_not, Bool.not_eq_true', Bool.not_eq_false', Int.not_lt, Int.not_le, Decidable.not_not, beq_iff_eq, bne_iff_ne, ne_eq, beq_eq_false_iff_ne] at h86_1
            first | exact absurd h86_1 a3 | exact absurd a4 h86_1 | exact absurd h86_1 a5 | exact absurd (a6.symm.trans h86_1) Bool.false_ne_true | exact absurd h86_1 d1 | exact absurd d5 h86_1 | (exfalso; omega)
          · try simp only [decide_eq_true_eq, decide_eq_false_iff_not, Bool.not_eq_true', Bool.not_eq_false', Int.not_lt, Int.not_le, Decidable.not_not, beq_iff_eq, bne_iff_ne, ne_eq, beq_eq_false_iff_ne] at h86_1
            refine o_take rfl rfl rfl ?_
            refine o_T (y_move rfl) rfl ?_
            refine o_take rfl rfl rfl ?_
            refine o_T (y_move rfl) rfl ?_
            refine o_take rfl rfl rfl ?_
            refine o_T (y_nilck rfl) rfl ?_
            refine o_take rfl rfl rfl ?_
            refine o_T (y_fa fl_80_1 rfl) rfl ?_
            refine o_take rfl rfl rfl ?_
            refine o_T (y_ia ar_45 rfl rfl (by omega) (by omega)) rfl ?_
            refine o_take rfl rfl rfl ?_
            refine o_ld one_3 rfl (ms m0) (Nt.gr_delivered _ (by omega) rfl) rfl ?_
            refine o_take rfl rfl rfl ?_
            refine o_T (y_eql rfl rfl) rfl ?_
            refine o_T (y_pickF rfl rfl) rfl ?_
            refine o_T (y_move rfl) rfl ?_
            refine o_split 44 rfl (fun h86_2 => ?_) (fun h86_2 => ?_)
            · try simp only [decide_eq_true_eq, decide_eq_false_iff_not, Bool.not_eq_true', Bool.not_eq_false', Int.not_lt, Int.not_le, Decidable.not_not, beq_iff_eq, bne_iff_ne, ne_eq, beq_eq_false_iff_ne] at h86_2
              first | exact absurd h86_2 a3 | exact absurd a4 h86_2 | exact absurd h86_2 a5 | exact absurd (a6.symm.trans h86_2) Bool.false_ne_true | exact absurd h86_2 d1 | exact absurd d5 h86_2 | (exfalso; omega)
            · try simp only [decide_eq_true_eq, decide_eq_false_iff_not, Bool.not_eq_true', Bool.not_eq_false', Int.not_lt, Int.not_le, Decidable.not_not, beq_iff_eq, bne_iff_ne, ne_eq, beq_eq_false_iff_ne] at h86_2
              refine o_take rfl rfl rfl ?_
              refine o_T (y_fa fl_69_1 rfl) rfl ?_
              refine o_take rfl rfl rfl ?_
              refine o_ld one_67 rfl m0 Si.g8 rfl ?_
              refine o_take rfl rfl rfl ?_
              refine o_T (y_nilck rfl) rfl ?_
              refine o_take rfl rfl rfl ?_
              refine o_T (y_fa fl_95_0 rfl) rfl ?_
              refine o_take rfl rfl rfl ?_
              refine o_ld one_3 rfl (ms (ms (ms (ms m0)))) Ci.g0 rfl ?_
              refine o_take rfl rfl rfl ?_
              refine o_T (y_neq rfl rfl) rfl ?_
              refine o_T (y_pickF rfl rfl) rfl ?_
              refine o_T (y_move rfl) rfl ?_
              refine o_split 52 rfl (fun h86_3 => ?_) (fun h86_3 => ?_)
              · try simp only [decide_eq_true_eq, decide_eq_false_iff_not, Bool.not_eq_true', Bool.not_eq_false', Int.not_lt, Int.not_le, Decidable.not_not, beq_iff_eq, bne_iff_ne, ne_eq, beq_eq_false_iff_ne] at h86_3
                first | exact absurd h86_3 a3 | exact absurd a4 h86_3 | exact absurd h86_3 a5 | exact absurd (a6.symm.trans h86_3) Bool.false_ne_true | exact absurd h86_3 d1 | exact absurd d5 h86_3 | (exfalso; omega)
              · try simp only [decide_eq_true_eq, decide_eq_false_iff_not, Bool.not_eq_true', Bool.not_eq_false', Int.not_lt, Int.not_le, Decidable.not_not, beq_iff_eq, bne_iff_ne, ne_eq, beq_eq_false_iff_ne] at h86_3
                refine o_take rfl rfl rfl ?_
                refine o_T (y_fa fl_69_0 rfl) rfl ?_
                refine o_take rfl rfl rfl ?_
                refine o_T (y_fa fl_66_6 rfl) rfl ?_
                refine o_take rfl rfl rfl ?_
                refine o_ld one_3 rfl m0 Si.g6 rfl ?_
                refine o_take rfl rfl rfl ?_
                refine o_T (y_eql rfl rfl) rfl ?_
                refine o_T (y_pickF rfl rfl) rfl ?_
                refine o_T (y_move rfl) rfl ?_
                refine o_split 58 rfl (fun h86_4 => ?_) (fun h86_4 => ?_)
                · try simp only [decide_eq_true_eq, decide_eq_false_iff_not, Bool.not_eq_true', Bool.not_eq_false', Int.not_lt, Int.not_le, Decidable.not_not, beq_iff_eq, bne_iff_ne, ne_eq, beq_eq_false_iff_ne] at h86_4
                  first | exact absurd h86_4 a3 | exact absurd a4 h86_4 | exact absurd h86_4 a5 | exact absurd (a6.symm.trans h86_4) Bool.false_ne_true | exact absurd h86_4 d1 | exact absurd d5 h86_4 | (exfalso; omega)
                · try simp only [decide_eq_true_eq, decide_eq_false_iff_not, Bool.not_eq_true', Bool.not_eq_false', Int.not_lt, Int.not_le, Decidable.not_not, beq_iff_eq, bne_iff_ne, ne_eq, beq_eq_false_iff_ne] at h86_4
                  refine o_take rfl rfl rfl ?_
                  refine o_T (y_fa fl_69_0 rfl) rfl ?_
                  refine o_take rfl rfl rfl ?_
                  refine o_T (y_fa fl_66_7 rfl) rfl ?_
                  refine o_take rfl rfl rfl ?_
                  refine o_ld one_4 rfl m0 Si.g7 rfl ?_
                  refine o_T (y_pickF rfl rfl) rfl ?_
                  refine o_nil1 62 rfl rfl ?_
                  refine c_cond rfl (fun h86_5 => ?_) (fun h86_5 => ?_)
                  · try simp only [decide_eq_true_eq, decide_eq_false_iff_not, Bool.not_eq_true', Bool.not_eq_false', Int.not_lt, Int.not_le, Decidable.not_not, beq_iff_eq, bne_iff_ne, ne_eq, beq_eq_false_iff_ne] at h86_5
                    first | exact absurd h86_5 a3 | exact absurd a4 h86_5 | exact absurd h86_5 a5 | exact absurd (a6.symm.trans h86_5) Bool.false_ne_true | exact absurd h86_5 d1 | exact absurd d5 h86_5 | (exfalso; omega)
                  · try simp only [decide_eq_true_eq, decide_eq_false_iff_not, Bool.not_eq_true', Bool.not_eq_false', Int.not_lt, Int.not_le, Decidable.not_not, beq_iff_eq, bne_iff_ne, ne_eq, beq_eq_false_iff_ne] at h86_5
                    refine c_skip ?_
                    refine c_seq ?_
                    refine c_region ?_
                    refine o_T (y_move rfl) rfl ?_
                    refine o_T (y_move rfl) rfl ?_
                    refine o_T (y_fa fl_69_0 rfl) rfl ?_
                    refine o_T (y_fa fl_66_4 rfl) rfl ?_
                    refine o_ld one_3 rfl m0 Si.g4 rfl ?_
                    refine o_T (y_move rfl) rfl ?_
                    refine o_T (y_add rfl rfl (w64 (by omega))) rfl ?_
                    refine o_T (y_fa fl_69_0 rfl) rfl ?_
                    refine o_T (y_fa fl_66_2 rfl) rfl ?_
                    refine o_ld one_3 rfl m0 Si.g2 rfl ?_
                    refine o_callrv en_71 rfl (t71 _ _ _ _ _ _ _ _ _ _ _ (by assumption)) (s_skip (s_take (s_take s_nil))) rfl ?_
                    refine o_L (y_assign rfl) rfl rfl ?_
                    refine o_nil0 rfl ?_
                    refine c_seq ?_
                    refine c_seq ?_
                    refine c_region ?_
                    refine o_T (y_move rfl) rfl ?_
                    refine o_T (y_lss rfl rfl) rfl ?_
                    refine o_nil1 75 rfl rfl ?_
                    refine c_cond rfl (fun h90 => ?_) (fun h90 => ?_)
                    · try simp only [decide_eq_true_eq, decide_eq_false_iff_not, Bool.not_eq_true', Bool.not_eq_false', Int.not_lt, Int.not_le, Decidable.not_not, beq_iff_eq, bne_iff_ne, ne_eq, beq_eq_false_iff_ne] at h90
                      first | exact absurd h90 a3 | exact absurd a4 h90 | exact absurd h90 a5 | exact absurd (a6.symm.trans h90) Bool.false_ne_true | exact absurd h90 d1 | exact absurd d5 h90 | (exfalso; omega)
                    · try simp only [decide_eq_true_eq, decide_eq_false_iff_not, Bool.not_eq_true', Bool.not_eq_false', Int.not_lt, Int.not_le, Decidable.not_not, beq_iff_eq, bne_iff_ne, ne_eq, beq_eq_false_iff_ne] at h90
                      refine c_skip ?_
                      refine c_seq ?_
                      refine c_draw #[true, true, true, true, true, true, true, true, true, true, true, true, true, true, true, true, true, true, true, true, true, false, true, true, false] rfl (n := 25) rfl ?_
                      refine d_T 0 rfl sb_33_11_0 rfl (y_move rfl) rfl ?_
                      refine d_T 1 rfl sb_33_11_1 rfl (y_move rfl) rfl ?_
                      refine d_T 2 rfl sb_33_11_2 rfl (y_nilck rfl) rfl ?_
                      refine d_T 3 rfl sb_33_11_3 rfl (y_fa fl_80_0 rfl) rfl ?_
                      refine d_ld 4 rfl sb_33_11_4 one_78 rfl (fun x hx => hx) (ms m0) Nt.g0 rfl ?_
                      refine d_T 5 rfl sb_33_11_5 rfl (y_move rfl) rfl ?_
                      refine d_T 6 rfl sb_33_11_6 rfl (y_fa fl_69_0 rfl) rfl ?_
                      refine d_T 7 rfl sb_33_11_7 rfl (y_fa fl_66_0 rfl) rfl ?_
                      refine d_ld 8 rfl sb_33_11_8 one_3 rfl (fun x hx => hx) m0 Si.g0 rfl ?_
                      refine d_T 9 rfl sb_33_11_9 rfl (y_fa fl_69_0 rfl) rfl ?_
                      refine d_T 10 rfl sb_33_11_10 rfl (y_fa fl_66_2 rfl) rfl ?_
                      refine d_ld 11 rfl sb_33_11_11 one_3 rfl (fun x hx => hx) m0 Si.g2 rfl ?_
                      refine d_T 12 rfl sb_33_11_12 rfl (y_fa fl_69_0 rfl) rfl ?_
                      refine d_T 13 rfl sb_33_11_13 rfl (y_fa fl_66_3 rfl) rfl ?_
                      refine d_ld 14 rfl sb_33_11_14 one_3 rfl (fun x hx => hx) m0 Si.g3 rfl ?_
                      refine d_T 15 rfl sb_33_11_15 rfl (y_fa fl_69_0 rfl) rfl ?_
                      refine d_T 16 rfl sb_33_11_16 rfl (y_fa fl_66_4 rfl) rfl ?_
                      refine d_ld 17 rfl sb_33_11_17 one_3 rfl (fun x hx => hx) m0 Si.g4 rfl ?_
                      refine d_T 18 rfl sb_33_11_18 rfl (y_move rfl) rfl ?_
                      refine d_T 19 rfl sb_33_11_19 rfl (y_build st_83 rfl (fb rfl rfl rfl Ed.s0 (fb rfl rfl rfl Ed.s1 (fb rfl rfl rfl Ed.s2 (fb rfl rfl rfl Ed.s3 (fb rfl rfl rfl Ed.s4 (fb rfl rfl rfl Ed.s6 (fb rfl rfl rfl Ed.s10 fb0)))))))) rfl ?_
                      refine d_hard 20 rfl sb_33_11_20 ?_
                      refine o_bs1 sz_78 rfl rfl rfl rfl rfl rfl (fun b_2 => ?_)
                      refine o_stop (fun _ => (fun x hx => (ms hx))) ?_
                      refine d_hard 21 rfl sb_33_11_21 ?_
                      refine o_lapp0 (R := edR) (u := Ned.kid (h : Int) en (nLatest l (en.rHost - 1) en.rPort ((h : Int) + 1) en.lPort true)) sz_78 rfl rfl rfl hn rfl rfl ⟨.slice none 0 0, .slice none 0 0, [], [], rfl, rfl, GB.nil, GB.nil⟩ (s_get (ks (ks (ks k0))) (s_get (ks (ks (ks k0))) (s_get k0 s_nil))) (by omega) (by omega) rfl (fun v_9 gv_9 hl_9 => ?_)
                      obtain ⟨bq, cq, hvq⟩ := hl_9.slice
                      subst hvq
                      refine o_stop (fun h => nomatch h) ?_
                      refine d_T 22 rfl sb_33_11_22 rfl (y_nilck rfl) rfl ?_
                      refine d_T 23 rfl sb_33_11_23 rfl (y_fa fl_80_0 rfl) rfl ?_
                      refine d_hard 24 rfl sb_33_11_24 ?_
                      refine o_st one_78 rfl rfl rfl (rs (rs (rs r0))) Nt.s0 (of_blt rfl) ?_
                      refine o_stop (fun h => nomatch h) ?_
                      refine d_nil0 sb_33_11_25 rfl ?_
                      refine c_seq ?_
                      refine c_region ?_
                      refine o_L (y_assign rfl) rfl rfl ?_
                      refine o_nil0 rfl ?_
                      refine c_ret ?_
                      refine fun aX wX heX hsX => ret1 Tryz.results33 heX rfl (s_get (ks (ks (ks k0))) (s_get k0 (s_get k0 (s_get (ks k0) s_nil)))) ?_
                      rw [a8]
                      exact ⟨_, _, _, rfl, .of hl_9, rfl⟩
      · try simp only [decide_eq_true_eq, decide_eq_false_iff_not, Bool.not_eq_true', Bool.not_eq_false', Int.not_lt, Int.not_le, Decidable.not_not, beq_iff_eq, bne_iff_ne, ne_eq, beq_eq_false_iff_ne] at h84
        refine c_skip ?_
        refine c_seq ?_
        refine c_seq ?_
        obtain ⟨k, pe, l1, l2, l3, l4, l5, B⟩ := nSee_B hK hs (by omega)
        have hk := B.hk
        have n1 := B.n1
        have n2 := B.n2
        have n3 := B.n3
        have n4 := B.n4
        have n5 := B.n5
        rw [B.find]
        have hrk := hrh l[k] (List.getElem_mem hk)
        have hzk := hz l[k] (List.getElem_mem hk)
        have hrc := congrArg List.length (B.rc (by omega))
        have b1 := B.gone
        have b2 := B.may
        have b3 := B.why
        obtain ⟨bw, cpw, cur, hv2, hg2, hO⟩ := (hn.lst (by omega)).open
        injection hv2 with e1 e2 e3
        subst e1 e3 hg2
        refine c_joinE (ι := Unit) (fun i => [(171, .bool false)]) (fun i => True) (fun _ _ h => h) ?_ ?_
        · skip
          refine c_draw #[true, true, true, true, true, true, true, true, true, true, true, true, true, true, true, true, true, true, true, true, true, true, true, true, true, true, true, true, true, true, true, true, true, true, true, true, true, true, true, true, true, true, true, true, true, true, true, true, true, true, true, true, true, true, true, true, true, true, true, true, true, true, true, true, true, true, true, true, true, true, true, true] rfl (n := 72) rfl ?_
          refine d_T 0 rfl sb_33_13_26 rfl (y_move rfl) rfl ?_
          refine d_T 1 rfl sb_33_13_27 rfl (y_nilck rfl) rfl ?_
          refine d_T 2 rfl sb_33_13_28 rfl (y_fa fl_80_0 rfl) rfl ?_
          refine d_ld 3 rfl sb_33_13_29 one_78 rfl (fun x hx => hx) (ms m0) Nt.g0 rfl ?_
          refine d_T 4 rfl sb_33_13_30 rfl (y_move rfl) rfl ?_
          refine d_T 5 rfl sb_33_13_31 rfl (y_is sl_78 rfl rfl (by omega) (by omega)) rfl ?_
          refine d_T 6 rfl sb_33_13_32 rfl (y_fa fl_83_15 rfl) rfl ?_
          refine d_ld 7 rfl sb_33_13_33 one_4 rfl (fun x hx => hx) (ms (ms m0)) (Ed.l_gone hO k (by omega) (by omega)) rfl ?_
          refine d_T 8 rfl sb_33_13_34 rfl (y_move rfl) rfl ?_
          refine d_split 108 rfl (fun h96 => ?_) (fun h96 => ?_)
          · try simp only [decide_eq_true_eq, decide_eq_false_iff_not, Bool.not_eq_true', Bool.not_eq_false', Int.not_lt, Int.not_le, Decidable.not_not, beq_iff_eq, bne_iff_ne, ne_eq, beq_eq_false_iff_ne] at h96
            refine d_pass 9 rfl rfl rfl rfl rfl sb_33_13_35 (fun x hx => hx) rfl ?_
            refine d_pass 10 rfl rfl rfl rfl rfl sb_33_13_36 (fun x hx => hx) rfl ?_
            refine d_pass 11 rfl rfl rfl rfl rfl sb_33_13_37 (fun x hx => hx) rfl ?_
            refine d_pass 12 rfl rfl rfl rfl rfl sb_33_13_38 (fun x hx => hx) rfl ?_
            refine d_pass 13 rfl rfl rfl rfl rfl sb_33_13_39 (fun x hx => hx) rfl ?_
            refine d_pass 14 rfl rfl rfl rfl rfl sb_33_13_40 (fun x hx => hx) rfl ?_
            refine d_pass 15 rfl rfl rfl rfl rfl sb_33_13_41 (fun x hx => hx) rfl ?_
            refine d_pass 16 rfl rfl rfl rfl rfl sb_33_13_42 (fun x hx => hx) rfl ?_
            refine d_pass 17 rfl rfl rfl rfl rfl sb_33_13_43 (fun x hx => hx) rfl ?_
            refine d_pass 18 rfl rfl rfl rfl rfl sb_33_13_44 (fun x hx => hx) rfl ?_
            refine d_pass 19 rfl rfl rfl rfl rfl sb_33_13_45 (fun x hx => hx) rfl ?_
            refine d_pass 20 rfl rfl rfl rfl rfl sb_33_13_46 (fun x hx => hx) rfl ?_
            refine d_pass 21 rfl rfl rfl rfl rfl sb_33_13_47 (fun x hx => hx) rfl ?_
            refine d_pass 22 rfl rfl rfl rfl rfl sb_33_13_48 (fun x hx => hx) rfl ?_
            refine d_pass 23 rfl rfl rfl rfl rfl sb_33_13_49 (fun x hx => hx) rfl ?_
            refine d_T 24 rfl sb_33_13_50 rfl (y_pickT rfl rfl) rfl ?_
            refine d_T 25 rfl sb_33_13_51 rfl (y_move rfl) rfl ?_
            refine d_pass 26 rfl rfl rfl rfl rfl sb_33_13_52 (fun x hx => hx) rfl ?_
            refine d_pass 27 rfl rfl rfl rfl rfl sb_33_13_53 (fun x hx => hx) rfl ?_
            refine d_pass 28 rfl rfl rfl rfl rfl sb_33_13_54 (fun x hx => hx) rfl ?_
            refine d_pass 29 rfl rfl rfl rfl rfl sb_33_13_55 (fun x hx => hx) rfl ?_
            refine d_pass 30 rfl rfl rfl rfl rfl sb_33_13_56 (fun x hx => hx) rfl ?_
            refine d_pass 31 rfl rfl rfl rfl rfl sb_33_13_57 (fun x hx => hx) rfl ?_
            refine d_pass 32 rfl rfl rfl rfl rfl sb_33_13_58 (fun x hx => hx) rfl ?_
            refine d_pass 33 rfl rfl rfl rfl rfl sb_33_13_59 (fun x hx => hx) rfl ?_
            refine d_pass 34 rfl rfl rfl rfl rfl sb_33_13_60 (fun x hx => hx) rfl ?_
            refine d_pass 35 rfl rfl rfl rfl rfl sb_33_13_61 (fun x hx => hx) rfl ?_
            refine d_passU 36 rfl rfl rfl rfl sb_33_13_62 (fun x hx => hx) rfl ?_
            refine d_passU 37 rfl rfl rfl rfl sb_33_13_63 (fun x hx => hx) rfl ?_
            refine d_passU 38 rfl rfl rfl rfl sb_33_13_64 (fun x hx => hx) rfl ?_
            refine d_passU 39 rfl rfl rfl rfl sb_33_13_65 (fun x hx => hx) rfl ?_
            refine d_passU 40 rfl rfl rfl rfl sb_33_13_66 (fun x hx => hx) rfl ?_
            refine d_passU 41 rfl rfl rfl rfl sb_33_13_67 (fun x hx => hx) rfl ?_
            refine d_passU 42 rfl rfl rfl rfl sb_33_13_68 (fun x hx => hx) rfl ?_
            refine d_passU 43 rfl rfl rfl rfl sb_33_13_69 (fun x hx => hx) rfl ?_
            refine d_passU 44 rfl rfl rfl rfl sb_33_13_70 (fun x hx => hx) rfl ?_
            refine d_passU 45 rfl rfl rfl rfl sb_33_13_71 (fun x hx => hx) rfl ?_
            refine d_passU 46 rfl rfl rfl rfl sb_33_13_72 (fun x hx => hx) rfl ?_
            refine d_passU 47 rfl rfl rfl rfl sb_33_13_73 (fun x hx => hx) rfl ?_
            refine d_passU 48 rfl rfl rfl rfl sb_33_13_74 (fun x hx => hx) rfl ?_
            refine d_passU 49 rfl rfl rfl rfl sb_33_13_75 (fun x hx => hx) rfl ?_
            refine d_pass 50 rfl rfl rfl rfl rfl sb_33_13_76 (fun x hx => hx) rfl ?_
            refine d_pass 51 rfl rfl rfl rfl rfl sb_33_13_77 (fun x hx => hx) rfl ?_
            refine d_passU 52 rfl rfl rfl rfl sb_33_13_78 (fun x hx => hx) rfl ?_
            refine d_passU 53 rfl rfl rfl rfl sb_33_13_79 (fun x hx => hx) rfl ?_
            refine d_passU 54 rfl rfl rfl rfl sb_33_13_80 (fun x hx => hx) rfl ?_
            refine d_passU 55 rfl rfl rfl rfl sb_33_13_81 (fun x hx => hx) rfl ?_
            refine d_passU 56 rfl rfl rfl rfl sb_33_13_82 (fun x hx => hx) rfl ?_
            refine d_passU 57 rfl rfl rfl rfl sb_33_13_83 (fun x hx => hx) rfl ?_
            refine d_passU 58 rfl rfl rfl rfl sb_33_13_84 (fun x hx => hx) rfl ?_
            refine d_passU 59 rfl rfl rfl rfl sb_33_13_85 (fun x hx => hx) rfl ?_
            refine d_passU 60 rfl rfl rfl rfl sb_33_13_86 (fun x hx => hx) rfl ?_
            refine d_passU 61 rfl rfl rfl rfl sb_33_13_87 (fun x hx => hx) rfl ?_
            refine d_passU 62 rfl rfl rfl rfl sb_33_13_88 (fun x hx => hx) rfl ?_
            refine d_passU 63 rfl rfl rfl rfl sb_33_13_89 (fun x hx => hx) rfl ?_
            refine d_passU 64 rfl rfl rfl rfl sb_33_13_90 (fun x hx => hx) rfl ?_
            refine d_passU 65 rfl rfl rfl rfl sb_33_13_91 (fun x hx => hx) rfl ?_
            refine d_passU 66 rfl rfl rfl rfl sb_33_13_92 (fun x hx => hx) rfl ?_
            refine d_passU 67 rfl rfl rfl rfl sb_33_13_93 (fun x hx => hx) rfl ?_
            refine d_passU 68 rfl rfl rfl rfl sb_33_13_94 (fun x hx => hx) rfl ?_
            refine d_passU 69 rfl rfl rfl rfl sb_33_13_95 (fun x hx => hx) rfl ?_
            refine d_pass 70 rfl rfl rfl rfl rfl sb_33_13_96 (fun x hx => hx) rfl ?_
            refine d_T 71 rfl sb_33_13_97 rfl (y_pickT rfl rfl) rfl ?_
            first | exact absurd (b1.symm.trans h96) Bool.false_ne_true | exact absurd (b2.symm.trans h96) (fun z => nomatch z) | (exfalso; omega)
          · try simp only [decide_eq_true_eq, decide_eq_false_iff_not, Bool.not_eq_true', Bool.not_eq_false', Int.not_lt, Int.not_le, Decidable.not_not, beq_iff_eq, bne_iff_ne, ne_eq, beq_eq_false_iff_ne] at h96
            refine d_Tg 9 rfl rfl rfl rfl sb_33_13_35 rfl (y_move rfl) rfl ?_
            refine d_Tg 10 rfl rfl rfl rfl sb_33_13_36 rfl (y_nilck rfl) rfl ?_
            refine d_Tg 11 rfl rfl rfl rfl sb_33_13_37 rfl (y_fa fl_80_0 rfl) rfl ?_
            refine d_ldt 12 rfl rfl rfl rfl sb_33_13_38 one_78 rfl (fun x hx => hx) (ms m0) Nt.g0 rfl ?_
            refine d_Tg 13 rfl rfl rfl rfl sb_33_13_39 rfl (y_move rfl) rfl ?_
            refine d_Tg 14 rfl rfl rfl rfl sb_33_13_40 rfl (y_is sl_78 rfl rfl (by omega) (by omega)) rfl ?_
            refine d_Tg 15 rfl rfl rfl rfl sb_33_13_41 rfl (y_fa fl_83_10 rfl) rfl ?_
            refine d_ldt 16 rfl rfl rfl rfl sb_33_13_42 one_3 rfl (fun x hx => hx) (ms (ms m0)) (Ed.l_state hO k (by omega) (by omega)) rfl ?_
            refine d_Tg 17 rfl rfl rfl rfl sb_33_13_43 rfl (y_fa fl_69_1 rfl) rfl ?_
            refine d_ldt 18 rfl rfl rfl rfl sb_33_13_44 one_67 rfl (fun x hx => hx) m0 Si.g8 rfl ?_
            refine d_Tg 19 rfl rfl rfl rfl sb_33_13_45 rfl (y_nilck rfl) rfl ?_
            refine d_Tg 20 rfl rfl rfl rfl sb_33_13_46 rfl (y_fa fl_95_0 rfl) rfl ?_
            refine d_ldt 21 rfl rfl rfl rfl sb_33_13_47 one_3 rfl (fun x hx => hx) (ms (ms (ms (ms m0)))) Ci.g0 rfl ?_
            refine d_hard 22 rfl sb_33_13_98 ?_
            refine o_take rfl rfl rfl ?_
            refine o_callv en_72 rfl (t72 _ _) rfl ?_
            refine o_stop (fun _ => (fun x hx => hx)) ?_
            refine d_Tg 23 rfl rfl rfl rfl sb_33_13_49 rfl (y_not rfl) rfl ?_
            refine d_T 24 rfl sb_33_13_50 rfl (y_pickF rfl rfl) rfl ?_
            refine d_T 25 rfl sb_33_13_51 rfl (y_move rfl) rfl ?_
            refine d_split 125 rfl (fun h96_1 => ?_) (fun h96_1 => ?_)
            · try simp only [decide_eq_true_eq, decide_eq_false_iff_not, Bool.not_eq_true', Bool.not_eq_false', Int.not_lt, Int.not_le, Decidable.not_not, beq_iff_eq, bne_iff_ne, ne_eq, beq_eq_false_iff_ne] at h96_1
              refine d_pass 26 rfl rfl rfl rfl rfl sb_33_13_52 (fun x hx => hx) rfl ?_
              refine d_pass 27 rfl rfl rfl rfl rfl sb_33_13_53 (fun x hx => hx) rfl ?_
              refine d_pass 28 rfl rfl rfl rfl rfl sb_33_13_54 (fun x hx => hx) rfl ?_
              refine d_pass 29 rfl rfl rfl rfl rfl sb_33_13_55 (fun x hx => hx) rfl ?_
              refine d_pass 30 rfl rfl rfl rfl rfl sb_33_13_56 (fun x hx => hx) rfl ?_
              refine d_pass 31 rfl rfl rfl rfl rfl sb_33_13_57 (fun x hx => hx) rfl ?_
              refine d_pass 32 rfl rfl rfl rfl rfl sb_33_13_58 (fun x hx => hx) rfl ?_
              refine d_pass 33 rfl rfl rfl rfl rfl sb_33_13_59 (fun x hx => hx) rfl ?_
              refine d_pass 34 rfl rfl rfl rfl rfl sb_33_13_60 (fun x hx => hx) rfl ?_
              refine d_pass 35 rfl rfl rfl rfl rfl sb_33_13_61 (fun x hx => hx) rfl ?_
              refine d_passU 36 rfl rfl rfl rfl sb_33_13_62 (fun x hx => hx) rfl ?_
              refine d_passU 37 rfl rfl rfl rfl sb_33_13_63 (fun x hx => hx) rfl ?_
              refine d_passU 38 rfl rfl rfl rfl sb_33_13_64 (fun x hx => hx) rfl ?_
              refine d_passU 39 rfl rfl rfl rfl sb_33_13_65 (fun x hx => hx) rfl ?_
              refine d_passU 40 rfl rfl rfl rfl sb_33_13_66 (fun x hx => hx) rfl ?_
              refine d_passU 41 rfl rfl rfl rfl sb_33_13_67 (fun x hx => hx) rfl ?_
              refine d_passU 42 rfl rfl rfl rfl sb_33_13_68 (fun x hx => hx) rfl ?_
              refine d_passU 43 rfl rfl rfl rfl sb_33_13_69 (fun x hx => hx) rfl ?_
              refine d_passU 44 rfl rfl rfl rfl sb_33_13_70 (fun x hx => hx) rfl ?_
              refine d_passU 45 rfl rfl rfl rfl sb_33_13_71 (fun x hx => hx) rfl ?_
              refine d_passU 46 rfl rfl rfl rfl sb_33_13_72 (fun x hx => hx) rfl ?_
              refine d_passU 47 rfl rfl rfl rfl sb_33_13_73 (fun x hx => hx) rfl ?_
              refine d_passU 48 rfl rfl rfl rfl sb_33_13_74 (fun x hx => hx) rfl ?_
              refine d_passU 49 rfl rfl rfl rfl sb_33_13_75 (fun x hx => hx) rfl ?_
              refine d_pass 50 rfl rfl rfl rfl rfl sb_33_13_76 (fun x hx => hx) rfl ?_
              refine d_pass 51 rfl rfl rfl rfl rfl sb_33_13_77 (fun x hx => hx) rfl ?_
              refine d_passU 52 rfl rfl rfl rfl sb_33_13_78 (fun x hx => hx) rfl ?_
              refine d_passU 53 rfl rfl rfl rfl sb_33_13_79 (fun x hx => hx) rfl ?_
              refine d_passU 54 rfl rfl rfl rfl sb_33_13_80 (fun x hx => hx) rfl ?_
              refine d_passU 55 rfl rfl rfl rfl sb_33_13_81 (fun x hx => hx) rfl ?_
              refine d_passU 56 rfl rfl rfl rfl sb_33_13_82 (fun x hx => hx) rfl ?_
              refine d_passU 57 rfl rfl rfl rfl sb_33_13_83 (fun x hx => hx) rfl ?_
              refine d_passU 58 rfl rfl rfl rfl sb_33_13_84 (fun x hx => hx) rfl ?_
              refine d_passU 59 rfl rfl rfl rfl sb_33_13_85 (fun x hx => hx) rfl ?_
              refine d_passU 60 rfl rfl rfl rfl sb_33_13_86 (fun x hx => hx) rfl ?_
              refine d_passU 61 rfl rfl rfl rfl sb_33_13_87 (fun x hx => hx) rfl ?_
              refine d_passU 62 rfl rfl rfl rfl sb_33_13_88 (fun x hx => hx) rfl ?_
              refine d_passU 63 rfl rfl rfl rfl sb_33_13_89 (fun x hx => hx) rfl ?_
              refine d_passU 64 rfl rfl rfl rfl sb_33_13_90 (fun x hx => hx) rfl ?_
              refine d_passU 65 rfl rfl rfl rfl sb_33_13_91 (fun x hx => hx) rfl ?_
              refine d_passU 66 rfl rfl rfl rfl sb_33_13_92 (fun x hx => hx) rfl ?_
              refine d_passU 67 rfl rfl rfl rfl sb_33_13_93 (fun x hx => hx) rfl ?_
              refine d_passU 68 rfl rfl rfl rfl sb_33_13_94 (fun x hx => hx) rfl ?_
              refine d_passU 69 rfl rfl rfl rfl sb_33_13_95 (fun x hx => hx) rfl ?_
              refine d_pass 70 rfl rfl rfl rfl rfl sb_33_13_96 (fun x hx => hx) rfl ?_
              refine d_T 71 rfl sb_33_13_97 rfl (y_pickT rfl rfl) rfl ?_
              first | exact absurd (b1.symm.trans h96_1) Bool.false_ne_true | exact absurd (b2.symm.trans h96_1) (fun z => nomatch z) | (exfalso; omega)
            · try simp only [decide_eq_true_eq, decide_eq_false_iff_not, Bool.not_eq_true', Bool.not_eq_false', Int.not_lt, Int.not_le, Decidable.not_not, beq_iff_eq, bne_iff_ne, ne_eq, beq_eq_false_iff_ne] at h96_1
              refine d_Tg 26 rfl rfl rfl rfl sb_33_13_52 rfl (y_move rfl) rfl ?_
              refine d_Tg 27 rfl rfl rfl rfl sb_33_13_53 rfl (y_nilck rfl) rfl ?_
              refine d_Tg 28 rfl rfl rfl rfl sb_33_13_54 rfl (y_fa fl_80_0 rfl) rfl ?_
              refine d_ldt 29 rfl rfl rfl rfl sb_33_13_55 one_78 rfl (fun x hx => hx) (ms m0) Nt.g0 rfl ?_
              refine d_Tg 30 rfl rfl rfl rfl sb_33_13_56 rfl (y_move rfl) rfl ?_
              refine d_Tg 31 rfl rfl rfl rfl sb_33_13_57 rfl (y_is sl_78 rfl rfl (by omega) (by omega)) rfl ?_
              refine d_Tg 32 rfl rfl rfl rfl sb_33_13_58 rfl (y_fa fl_83_10 rfl) rfl ?_
              refine d_ldt 33 rfl rfl rfl rfl sb_33_13_59 one_3 rfl (fun x hx => hx) (ms (ms m0)) (Ed.l_state hO k (by omega) (by omega)) rfl ?_
              refine d_Tg 34 rfl rfl rfl rfl sb_33_13_60 rfl (y_eql rfl rfl) rfl ?_
              refine d_Tg 35 rfl rfl rfl rfl sb_33_13_61 rfl (y_move rfl) rfl ?_
              refine d_split 135 rfl (fun h96_2 => ?_) (fun h96_2 => ?_)
              · try simp only [decide_eq_true_eq, decide_eq_false_iff_not, Bool.not_eq_true', Bool.not_eq_false', Int.not_lt, Int.not_le, Decidable.not_not, beq_iff_eq, bne_iff_ne, ne_eq, beq_eq_false_iff_ne] at h96_2
                refine d_Tg 36 rfl rfl rfl rfl sb_33_13_62 rfl (y_move rfl) rfl ?_
                refine d_Tg 37 rfl rfl rfl rfl sb_33_13_63 rfl (y_nilck rfl) rfl ?_
                refine d_Tg 38 rfl rfl rfl rfl sb_33_13_64 rfl (y_fa fl_80_0 rfl) rfl ?_
                refine d_ldt 39 rfl rfl rfl rfl sb_33_13_65 one_78 rfl (fun x hx => hx) (ms m0) Nt.g0 rfl ?_
                refine d_Tg 40 rfl rfl rfl rfl sb_33_13_66 rfl (y_move rfl) rfl ?_
                refine d_Tg 41 rfl rfl rfl rfl sb_33_13_67 rfl (y_is sl_78 rfl rfl (by omega) (by omega)) rfl ?_
                refine d_Tg 42 rfl rfl rfl rfl sb_33_13_68 rfl (y_fa fl_83_11 rfl) rfl ?_
                refine d_ldt 43 rfl rfl rfl rfl sb_33_13_69 one_70 rfl (fun x hx => hx) (ms (ms m0)) (Ed.l_why hO k (by omega) (by omega)) rfl ?_
                refine d_Tg 44 rfl rfl rfl rfl sb_33_13_70 rfl (y_fa fl_69_1 rfl) rfl ?_
                refine d_ldt 45 rfl rfl rfl rfl sb_33_13_71 one_67 rfl (fun x hx => hx) m0 Si.g8 rfl ?_
                refine d_Tg 46 rfl rfl rfl rfl sb_33_13_72 rfl (y_nilck rfl) rfl ?_
                refine d_Tg 47 rfl rfl rfl rfl sb_33_13_73 rfl (y_fa fl_95_1 rfl) rfl ?_
                refine d_ldt 48 rfl rfl rfl rfl sb_33_13_74 one_70 rfl (fun x hx => hx) (ms (ms (ms (ms m0)))) Ci.g1 rfl ?_
                refine d_Tg 49 rfl rfl rfl rfl sb_33_13_75 rfl (y_neq rfl rfl) rfl ?_
                refine d_Tg 50 rfl rfl rfl rfl sb_33_13_76 rfl (y_pickT rfl rfl) rfl ?_
                refine d_Tg 51 rfl rfl rfl rfl sb_33_13_77 rfl (y_move rfl) rfl ?_
                refine d_split 151 rfl (fun h96_3 => ?_) (fun h96_3 => ?_)
                · try simp only [decide_eq_true_eq, decide_eq_false_iff_not, Bool.not_eq_true', Bool.not_eq_false', Int.not_lt, Int.not_le, Decidable.not_not, beq_iff_eq, bne_iff_ne, ne_eq, beq_eq_false_iff_ne] at h96_3
                  refine d_Tg 52 rfl rfl rfl rfl sb_33_13_78 rfl (y_move rfl) rfl ?_
                  refine d_Tg 53 rfl rfl rfl rfl sb_33_13_79 rfl (y_nilck rfl) rfl ?_
                  refine d_Tg 54 rfl rfl rfl rfl sb_33_13_80 rfl (y_fa fl_80_0 rfl) rfl ?_
                  refine d_ldt 55 rfl rfl rfl rfl sb_33_13_81 one_78 rfl (fun x hx => hx) (ms m0) Nt.g0 rfl ?_
                  refine d_Tg 56 rfl rfl rfl rfl sb_33_13_82 rfl (y_move rfl) rfl ?_
                  refine d_Tg 57 rfl rfl rfl rfl sb_33_13_83 rfl (y_is sl_78 rfl rfl (by omega) (by omega)) rfl ?_
                  refine d_Tg 58 rfl rfl rfl rfl sb_33_13_84 rfl (y_fa fl_83_11 rfl) rfl ?_
                  refine d_ldt 59 rfl rfl rfl rfl sb_33_13_85 one_70 rfl (fun x hx => hx) (ms (ms m0)) (Ed.l_why hO k (by omega) (by omega)) rfl ?_
                  refine d_Tg 60 rfl rfl rfl rfl sb_33_13_86 rfl (y_eql rfl rfl) rfl ?_
                  refine d_Tg 61 rfl rfl rfl rfl sb_33_13_87 rfl (y_move rfl) rfl ?_
                  refine d_split 161 rfl (fun h96_4 => ?_) (fun h96_4 => ?_)
                  · try simp only [decide_eq_true_eq, decide_eq_false_iff_not, Bool.not_eq_true', Bool.not_eq_false', Int.not_lt, Int.not_le, Decidable.not_not, beq_iff_eq, bne_iff_ne, ne_eq, beq_eq_false_iff_ne] at h96_4
                    refine d_Tg 62 rfl rfl rfl rfl sb_33_13_88 rfl (y_fa fl_69_1 rfl) rfl ?_
                    refine d_ldt 63 rfl rfl rfl rfl sb_33_13_89 one_67 rfl (fun x hx => hx) m0 Si.g8 rfl ?_
                    refine d_Tg 64 rfl rfl rfl rfl sb_33_13_90 rfl (y_nilck rfl) rfl ?_
                    refine d_Tg 65 rfl rfl rfl rfl sb_33_13_91 rfl (y_fa fl_95_1 rfl) rfl ?_
                    refine d_ldt 66 rfl rfl rfl rfl sb_33_13_92 one_70 rfl (fun x hx => hx) (ms (ms (ms (ms m0)))) Ci.g1 rfl ?_
                    refine d_Tg 67 rfl rfl rfl rfl sb_33_13_93 rfl (y_eql rfl rfl) rfl ?_
                    refine d_Tg 68 rfl rfl rfl rfl sb_33_13_94 rfl (y_pickT rfl rfl) rfl ?_
                    refine d_Tg 69 rfl rfl rfl rfl sb_33_13_95 rfl (y_not rfl) rfl ?_
                    refine d_Tg 70 rfl rfl rfl rfl sb_33_13_96 rfl (y_pickT rfl rfl) rfl ?_
                    refine d_T 71 rfl sb_33_13_97 rfl (y_pickF rfl rfl) rfl ?_
                    refine d_split 171 rfl (fun h96_5 => ?_) (fun h96_5 => ?_)
                    · try simp only [decide_eq_true_eq, decide_eq_false_iff_not, Bool.not_eq_true', Bool.not_eq_false', Int.not_lt, Int.not_le, Decidable.not_not, beq_iff_eq, bne_iff_ne, ne_eq, beq_eq_false_iff_ne] at h96_5
                      first | exact absurd (b1.symm.trans h96_5) Bool.false_ne_true | exact absurd (b2.symm.trans h96_5) (fun z => nomatch z) | (exfalso; omega)
                    · try simp only [decide_eq_true_eq, decide_eq_false_iff_not, Bool.not_eq_true', Bool.not_eq_false', Int.not_lt, Int.not_le, Decidable.not_not, beq_iff_eq, bne_iff_ne, ne_eq, beq_eq_false_iff_ne] at h96_5
                      refine d_nil1 171 sb_33_13_99 rfl rfl ?_
                      refine ⟨(), trivial, ⟨by first | rfl | exact gteI rfl (by omega), trivial⟩, ⟨rfl, rfl⟩, _, ((s_take (s_take (s_take (s_take (s_take s_nil))))))⟩
                  · try simp only [decide_eq_true_eq, decide_eq_false_iff_not, Bool.not_eq_true', Bool.not_eq_false', Int.not_lt, Int.not_le, Decidable.not_not, beq_iff_eq, bne_iff_ne, ne_eq, beq_eq_false_iff_ne] at h96_4
                    refine d_pass 62 rfl rfl rfl rfl rfl sb_33_13_88 (fun x hx => hx) rfl ?_
                    refine d_pass 63 rfl rfl rfl rfl rfl sb_33_13_89 (fun x hx => hx) rfl ?_
                    refine d_pass 64 rfl rfl rfl rfl rfl sb_33_13_90 (fun x hx => hx) rfl ?_
                    refine d_pass 65 rfl rfl rfl rfl rfl sb_33_13_91 (fun x hx => hx) rfl ?_
                    refine d_pass 66 rfl rfl rfl rfl rfl sb_33_13_92 (fun x hx => hx) rfl ?_
                    refine d_pass 67 rfl rfl rfl rfl rfl sb_33_13_93 (fun x hx => hx) rfl ?_
                    refine d_Tg 68 rfl rfl rfl rfl sb_33_13_94 rfl (y_pickF rfl rfl) rfl ?_
                    refine d_Tg 69 rfl rfl rfl rfl sb_33_13_95 rfl (y_not rfl) rfl ?_
                    refine d_Tg 70 rfl rfl rfl rfl sb_33_13_96 rfl (y_pickT rfl rfl) rfl ?_
                    refine d_T 71 rfl sb_33_13_97 rfl (y_pickF rfl rfl) rfl ?_
                    first | exact absurd (b1.symm.trans h96_4) Bool.false_ne_true | exact absurd (b2.symm.trans h96_4) (fun z => nomatch z) | (exfalso; omega)
                · try simp only [decide_eq_true_eq, decide_eq_false_iff_not, Bool.not_eq_true', Bool.not_eq_false', Int.not_lt, Int.not_le, Decidable.not_not, beq_iff_eq, bne_iff_ne, ne_eq, beq_eq_false_iff_ne] at h96_3
                  refine d_pass 52 rfl rfl rfl rfl rfl sb_33_13_78 (fun x hx => hx) rfl ?_
                  refine d_pass 53 rfl rfl rfl rfl rfl sb_33_13_79 (fun x hx => hx) rfl ?_
                  refine d_pass 54 rfl rfl rfl rfl rfl sb_33_13_80 (fun x hx => hx) rfl ?_
                  refine d_pass 55 rfl rfl rfl rfl rfl sb_33_13_81 (fun x hx => hx) rfl ?_
                  refine d_pass 56 rfl rfl rfl rfl rfl sb_33_13_82 (fun x hx => hx) rfl ?_
                  refine d_pass 57 rfl rfl rfl rfl rfl sb_33_13_83 (fun x hx => hx) rfl ?_
                  refine d_pass 58 rfl rfl rfl rfl rfl sb_33_13_84 (fun x hx => hx) rfl ?_
                  refine d_pass 59 rfl rfl rfl rfl rfl sb_33_13_85 (fun x hx => hx) rfl ?_
                  refine d_pass 60 rfl rfl rfl rfl rfl sb_33_13_86 (fun x hx => hx) rfl ?_
                  refine d_pass 61 rfl rfl rfl rfl rfl sb_33_13_87 (fun x hx => hx) rfl ?_
                  refine d_passU 62 rfl rfl rfl rfl sb_33_13_88 (fun x hx => hx) rfl ?_
                  refine d_passU 63 rfl rfl rfl rfl sb_33_13_89 (fun x hx => hx) rfl ?_
                  refine d_passU 64 rfl rfl rfl rfl sb_33_13_90 (fun x hx => hx) rfl ?_
                  refine d_passU 65 rfl rfl rfl rfl sb_33_13_91 (fun x hx => hx) rfl ?_
                  refine d_passU 66 rfl rfl rfl rfl sb_33_13_92 (fun x hx => hx) rfl ?_
                  refine d_passU 67 rfl rfl rfl rfl sb_33_13_93 (fun x hx => hx) rfl ?_
                  refine d_pass 68 rfl rfl rfl rfl rfl sb_33_13_94 (fun x hx => hx) rfl ?_
                  refine d_pass 69 rfl rfl rfl rfl rfl sb_33_13_95 (fun x hx => hx) rfl ?_
                  refine d_Tg 70 rfl rfl rfl rfl sb_33_13_96 rfl (y_pickF rfl rfl) rfl ?_
                  refine d_T 71 rfl sb_33_13_97 rfl (y_pickF rfl rfl) rfl ?_
                  refine d_nil1 171 sb_33_13_99 rfl rfl ?_
                  refine ⟨(), trivial, ⟨by first | rfl | exact gteI rfl (by omega), trivial⟩, ⟨rfl, rfl⟩, _, ((s_take (s_take (s_take (s_take (s_take s_nil))))))⟩
              · try simp only [decide_eq_true_eq, decide_eq_false_iff_not, Bool.not_eq_true', Bool.not_eq_false', Int.not_lt, Int.not_le, Decidable.not_not, beq_iff_eq, bne_iff_ne, ne_eq, beq_eq_false_iff_ne] at h96_2
                refine d_pass 36 rfl rfl rfl rfl rfl sb_33_13_62 (fun x hx => hx) rfl ?_
                refine d_pass 37 rfl rfl rfl rfl rfl sb_33_13_63 (fun x hx => hx) rfl ?_
                refine d_pass 38 rfl rfl rfl rfl rfl sb_33_13_64 (fun x hx => hx) rfl ?_
                refine d_pass 39 rfl rfl rfl rfl rfl sb_33_13_65 (fun x hx => hx) rfl ?_
                refine d_pass 40 rfl rfl rfl rfl rfl sb_33_13_66 (fun x hx => hx) rfl ?_
                refine d_pass 41 rfl rfl rfl rfl rfl sb_33_13_67 (fun x hx => hx) rfl ?_
                refine d_pass 42 rfl rfl rfl rfl rfl sb_33_13_68 (fun x hx => hx) rfl ?_
                refine d_pass 43 rfl rfl rfl rfl rfl sb_33_13_69 (fun x hx => hx) rfl ?_
                refine d_pass 44 rfl rfl rfl rfl rfl sb_33_13_70 (fun x hx => hx) rfl ?_
                refine d_pass 45 rfl rfl rfl rfl rfl sb_33_13_71 (fun x hx => hx) rfl ?_
                refine d_pass 46 rfl rfl rfl rfl rfl sb_33_13_72 (fun x hx => hx) rfl ?_
                refine d_pass 47 rfl rfl rfl rfl rfl sb_33_13_73 (fun x hx => hx) rfl ?_
                refine d_pass 48 rfl rfl rfl rfl rfl sb_33_13_74 (fun x hx => hx) rfl ?_
                refine d_pass 49 rfl rfl rfl rfl rfl sb_33_13_75 (fun x hx => hx) rfl ?_
                refine d_Tg 50 rfl rfl rfl rfl sb_33_13_76 rfl (y_pickF rfl rfl) rfl ?_
                refine d_Tg 51 rfl rfl rfl rfl sb_33_13_77 rfl (y_move rfl) rfl ?_
                refine d_pass 52 rfl rfl rfl rfl rfl sb_33_13_78 (fun x hx => hx) rfl ?_
                refine d_pass 53 rfl rfl rfl rfl rfl sb_33_13_79 (fun x hx => hx) rfl ?_
                refine d_pass 54 rfl rfl rfl rfl rfl sb_33_13_80 (fun x hx => hx) rfl ?_
                refine d_pass 55 rfl rfl rfl rfl rfl sb_33_13_81 (fun x hx => hx) rfl ?_
                refine d_pass 56 rfl rfl rfl rfl rfl sb_33_13_82 (fun x hx => hx) rfl ?_
                refine d_pass 57 rfl rfl rfl rfl rfl sb_33_13_83 (fun x hx => hx) rfl ?_
                refine d_pass 58 rfl rfl rfl rfl rfl sb_33_13_84 (fun x hx => hx) rfl ?_
                refine d_pass 59 rfl rfl rfl rfl rfl sb_33_13_85 (fun x hx => hx) rfl ?_
                refine d_pass 60 rfl rfl rfl rfl rfl sb_33_13_86 (fun x hx => hx) rfl ?_
                refine d_pass 61 rfl rfl rfl rfl rfl sb_33_13_87 (fun x hx => hx) rfl ?_
                refine d_passU 62 rfl rfl rfl rfl sb_33_13_88 (fun x hx => hx) rfl ?_
                refine d_passU 63 rfl rfl rfl rfl sb_33_13_89 (fun x hx => hx) rfl ?_
                refine d_passU 64 rfl rfl rfl rfl sb_33_13_90 (fun x hx => hx) rfl ?_
                refine d_passU 65 rfl rfl rfl rfl sb_33_13_91 (fun x hx => hx) rfl ?_
                refine d_passU 66 rfl rfl rfl rfl sb_33_13_92 (fun x hx => hx) rfl ?_
                refine d_passU 67 rfl rfl rfl rfl sb_33_13_93 (fun x hx => hx) rfl ?_
                refine d_pass 68 rfl rfl rfl rfl rfl sb_33_13_94 (fun x hx => hx) rfl ?_
                refine d_pass 69 rfl rfl rfl rfl rfl sb_33_13_95 (fun x hx => hx) rfl ?_
                refine d_Tg 70 rfl rfl rfl rfl sb_33_13_96 rfl (y_pickF rfl rfl) rfl ?_
                refine d_T 71 rfl sb_33_13_97 rfl (y_pickF rfl rfl) rfl ?_
                refine d_nil1 171 sb_33_13_99 rfl rfl ?_
                refine ⟨(), trivial, ⟨by first | rfl | exact gteI rfl (by omega), trivial⟩, ⟨rfl, rfl⟩, _, ((s_take (s_take (s_take (s_take (s_take s_nil))))))⟩
        · rintro _ _
          try dsimp only at _
          refine c_condF rfl ?_
          refine c_skip ?_
          refine c_seq ?_
          refine c_seq ?_
          refine c_joinE (ι := Unit) (fun i => [(188, .bool (decide (¬ (l[k]).state = 3 ∧ ci.state = 3)))]) (fun i => True) (fun _ _ h => h) ?_ ?_
          · skip
            refine c_region ?_
            refine o_T (y_move rfl) rfl ?_
            refine o_T (y_nilck rfl) rfl ?_
            refine o_T (y_fa fl_80_0 rfl) rfl ?_
            refine o_ld one_78 rfl (ms m0) Nt.g0 rfl ?_
            refine o_T (y_move rfl) rfl ?_
            refine o_T (y_is sl_78 rfl rfl (by omega) (by omega)) rfl ?_
            refine o_T (y_fa fl_83_10 rfl) rfl ?_
            refine o_ld one_3 rfl (ms (ms m0)) (Ed.l_state hO k (by omega) (by omega)) rfl ?_
            refine o_T (y_neq rfl rfl) rfl ?_
            refine o_T (y_move rfl) rfl ?_
            refine o_split 181 rfl (fun h99 => ?_) (fun h99 => ?_)
            · try simp only [decide_eq_true_eq, decide_eq_false_iff_not, Bool.not_eq_true', Bool.not_eq_false', Int.not_lt, Int.not_le, Decidable.not_not, beq_iff_eq, bne_iff_ne, ne_eq, beq_eq_false_iff_ne] at h99
              refine o_take rfl rfl rfl ?_
              refine o_T (y_fa fl_69_1 rfl) rfl ?_
              refine o_take rfl rfl rfl ?_
              refine o_ld one_67 rfl m0 Si.g8 rfl ?_
              refine o_take rfl rfl rfl ?_
              refine o_T (y_nilck rfl) rfl ?_
              refine o_take rfl rfl rfl ?_
              refine o_T (y_fa fl_95_0 rfl) rfl ?_
              refine o_take rfl rfl rfl ?_
              refine o_ld one_3 rfl (ms (ms (ms (ms m0)))) Ci.g0 rfl ?_
              refine o_take rfl rfl rfl ?_
              refine o_T (y_eql rfl rfl) rfl ?_
              refine o_T (y_pickT rfl rfl) rfl ?_
              refine o_nil1 188 rfl rfl ?_
              refine ⟨(), trivial, ⟨gte rfl (congrArg Value.bool (by rw [Bool.eq_iff_iff]; simp [*])), trivial⟩, ⟨rfl, rfl⟩, _, ((s_take (s_take (s_take (s_take (s_take s_nil))))))⟩
            · try simp only [decide_eq_true_eq, decide_eq_false_iff_not, Bool.not_eq_true', Bool.not_eq_false', Int.not_lt, Int.not_le, Decidable.not_not, beq_iff_eq, bne_iff_ne, ne_eq, beq_eq_false_iff_ne] at h99
              refine o_pass rfl rfl rfl rfl rfl ?_
              refine o_pass rfl rfl rfl rfl rfl ?_
              refine o_pass rfl rfl rfl rfl rfl ?_
              refine o_pass rfl rfl rfl rfl rfl ?_
              refine o_pass rfl rfl rfl rfl rfl ?_
              refine o_pass rfl rfl rfl rfl rfl ?_
              refine o_T (y_pickF rfl rfl) rfl ?_
              refine o_nil1 188 rfl rfl ?_
              refine ⟨(), trivial, ⟨gte rfl (congrArg Value.bool (by rw [Bool.eq_iff_iff]; simp [*])), trivial⟩, ⟨rfl, rfl⟩, _, ((s_take (s_take (s_take (s_take (s_take s_nil))))))⟩
          · rintro _ _
            try dsimp only at _
            refine c_front (s_get (ks k0) (s_get (ks k0) (s_get k0 (s_get k0 (s_get k0 s_nil))))) ?_
            refine c_joinD 2 (ι := Array Value) (fun i => []) (fun i => [[(b, .cells (Nt.mk (.slice (some ⟨bw, 0, none⟩) l.length cw) dl).enc 80 (0, 0))], [(bw, .cells i 83 (0, 0))]]) (fun i => EdO bw cw i l1 gd) (fun _ _ h => h) ?_ ?_
            · skip
              refine c_cond rfl (fun h99 => ?_) (fun h99 => ?_)
              · try simp only [decide_eq_true_eq, decide_eq_false_iff_not, Bool.not_eq_true', Bool.not_eq_false', Int.not_lt, Int.not_le, Decidable.not_not, beq_iff_eq, bne_iff_ne, ne_eq, beq_eq_false_iff_ne] at h99
                refine c_seq ?_
                refine c_seq ?_
                obtain ⟨d1, d2, d3⟩ := B.op h99.1 h99.2
                refine c_region ?_
                refine o_T (y_move rfl) rfl ?_
                refine o_T (y_move rfl) rfl ?_
                refine o_T (y_nilck rfl) rfl ?_
                refine o_T (y_fa fl_80_1 rfl) rfl ?_
                refine o_T (y_ia ar_45 rfl rfl (by omega) (by omega)) rfl ?_
                refine o_ld one_3 rfl m0 (Nt.gr_delivered _ (by omega) rfl) rfl ?_
                refine o_T (y_eql rfl rfl) rfl ?_
                refine o_nil1 195 rfl rfl ?_
                refine c_cond rfl (fun h100 => ?_) (fun h100 => ?_)
                · try simp only [decide_eq_true_eq, decide_eq_false_iff_not, Bool.not_eq_true', Bool.not_eq_false', Int.not_lt, Int.not_le, Decidable.not_not, beq_iff_eq, bne_iff_ne, ne_eq, beq_eq_false_iff_ne] at h100
                  first | exact absurd h100 a3 | exact absurd a4 h100 | exact absurd h100 a5 | exact absurd (a6.symm.trans h100) Bool.false_ne_true | exact absurd h100 d1 | exact absurd d5 h100 | (exfalso; omega)
                · try simp only [decide_eq_true_eq, decide_eq_false_iff_not, Bool.not_eq_true', Bool.not_eq_false', Int.not_lt, Int.not_le, Decidable.not_not, beq_iff_eq, bne_iff_ne, ne_eq, beq_eq_false_iff_ne] at h100
                  refine c_skip ?_
                  refine c_seq ?_
                  refine c_region ?_
                  refine o_T (y_move rfl) rfl ?_
                  refine o_T (y_nilck rfl) rfl ?_
                  refine o_T (y_fa fl_80_0 rfl) rfl ?_
                  refine o_ld one_78 rfl m0 Nt.g0 rfl ?_
                  refine o_T (y_move rfl) rfl ?_
                  refine o_T (y_is sl_78 rfl rfl (by omega) (by omega)) rfl ?_
                  refine o_T (y_fa fl_83_5 rfl) rfl ?_
                  refine o_ld one_4 rfl (ms m0) (Ed.l_client hO k (by omega) (by omega)) rfl ?_
                  refine o_nil1 203 rfl rfl ?_
                  refine c_cond rfl (fun h103 => ?_) (fun h103 => ?_)
                  · try simp only [decide_eq_true_eq, decide_eq_false_iff_not, Bool.not_eq_true', Bool.not_eq_false', Int.not_lt, Int.not_le, Decidable.not_not, beq_iff_eq, bne_iff_ne, ne_eq, beq_eq_false_iff_ne] at h103
                    refine c_seq ?_
                    obtain ⟨p, hp, d4, d5, hpe⟩ := d2 h103
                    refine c_draw #[true, true, true, true, true, true, true, true, true, true, true, true, true, true, true, true, true, true, true, true, true, true, true, true, true, true, true, true, true, true] rfl (n := 30) rfl ?_
                    refine d_T 0 rfl sb_33_19_100 rfl (y_move rfl) rfl ?_
                    refine d_T 1 rfl sb_33_19_101 rfl (y_move rfl) rfl ?_
                    refine d_T 2 rfl sb_33_19_102 rfl (y_nilck rfl) rfl ?_
                    refine d_T 3 rfl sb_33_19_103 rfl (y_fa fl_80_0 rfl) rfl ?_
                    refine d_ld 4 rfl sb_33_19_104 one_78 rfl (fun x hx => hx) m0 Nt.g0 rfl ?_
                    refine d_T 5 rfl sb_33_19_105 rfl (y_move rfl) rfl ?_
                    refine d_T 6 rfl sb_33_19_106 rfl (y_is sl_78 rfl rfl (by omega) (by omega)) rfl ?_
                    refine d_T 7 rfl sb_33_19_107 rfl (y_fa fl_83_3 rfl) rfl ?_
                    refine d_ld 8 rfl sb_33_19_108 one_3 rfl (fun x hx => hx) (ms m0) (Ed.l_rHost hO k (by omega) (by omega)) rfl ?_
                    refine d_T 9 rfl sb_33_19_109 rfl (y_sub rfl rfl (w64 (by omega))) rfl ?_
                    refine d_T 10 rfl sb_33_19_110 rfl (y_move rfl) rfl ?_
                    refine d_T 11 rfl sb_33_19_111 rfl (y_nilck rfl) rfl ?_
                    refine d_T 12 rfl sb_33_19_112 rfl (y_fa fl_80_0 rfl) rfl ?_
                    refine d_ld 13 rfl sb_33_19_113 one_78 rfl (fun x hx => hx) m0 Nt.g0 rfl ?_
                    refine d_T 14 rfl sb_33_19_114 rfl (y_move rfl) rfl ?_
                    refine d_T 15 rfl sb_33_19_115 rfl (y_is sl_78 rfl rfl (by omega) (by omega)) rfl ?_
                    refine d_T 16 rfl sb_33_19_116 rfl (y_fa fl_83_4 rfl) rfl ?_
                    refine d_ld 17 rfl sb_33_19_117 one_3 rfl (fun x hx => hx) (ms m0) (Ed.l_rPort hO k (by omega) (by omega)) rfl ?_
                    refine d_T 18 rfl sb_33_19_118 rfl (y_move rfl) rfl ?_
                    refine d_T 19 rfl sb_33_19_119 rfl (y_add rfl rfl (w64 (by omega))) rfl ?_
                    refine d_T 20 rfl sb_33_19_120 rfl (y_move rfl) rfl ?_
                    refine d_T 21 rfl sb_33_19_121 rfl (y_nilck rfl) rfl ?_
                    refine d_T 22 rfl sb_33_19_122 rfl (y_fa fl_80_0 rfl) rfl ?_
                    refine d_ld 23 rfl sb_33_19_123 one_78 rfl (fun x hx => hx) m0 Nt.g0 rfl ?_
                    refine d_T 24 rfl sb_33_19_124 rfl (y_move rfl) rfl ?_
                    refine d_T 25 rfl sb_33_19_125 rfl (y_is sl_78 rfl rfl (by omega) (by omega)) rfl ?_
                    refine d_T 26 rfl sb_33_19_126 rfl (y_fa fl_83_2 rfl) rfl ?_
                    refine d_ld 27 rfl sb_33_19_127 one_3 rfl (fun x hx => hx) (ms m0) (Ed.l_lPort hO k (by omega) (by omega)) rfl ?_
                    refine d_hard 28 rfl sb_33_19_128 ?_
                    refine o_callrv en_71 rfl (t71 _ _ _ _ _ _ _ _ _ _ _ (by assumption)) (s_take (s_take s_nil)) rfl ?_
                    refine o_stop (fun _ => (fun x hx => hx)) ?_
                    refine d_L 29 rfl sb_33_19_129 rfl (y_assign rfl) rfl rfl ?_
                    refine d_nil0 sb_33_19_130 rfl ?_
                    refine c_seq ?_
                    refine c_seq ?_
                    rw [d4]
                    refine c_region ?_
                    refine o_T (y_move rfl) rfl ?_
                    refine o_T (y_lss rfl rfl) rfl ?_
                    refine o_T (y_move rfl) rfl ?_
                    refine o_split 235 rfl (fun h105 => ?_) (fun h105 => ?_)
                    · try simp only [decide_eq_true_eq, decide_eq_false_iff_not, Bool.not_eq_true', Bool.not_eq_false', Int.not_lt, Int.not_le, Decidable.not_not, beq_iff_eq, bne_iff_ne, ne_eq, beq_eq_false_iff_ne] at h105
                      first | exact absurd h105 a3 | exact absurd a4 h105 | exact absurd h105 a5 | exact absurd (a6.symm.trans h105) Bool.false_ne_true | exact absurd h105 d1 | exact absurd d5 h105 | (exfalso; omega)
                    · try simp only [decide_eq_true_eq, decide_eq_false_iff_not, Bool.not_eq_true', Bool.not_eq_false', Int.not_lt, Int.not_le, Decidable.not_not, beq_iff_eq, bne_iff_ne, ne_eq, beq_eq_false_iff_ne] at h105
                      refine o_take rfl rfl rfl ?_
                      refine o_T (y_move rfl) rfl ?_
                      refine o_take rfl rfl rfl ?_
                      refine o_T (y_nilck rfl) rfl ?_
                      refine o_take rfl rfl rfl ?_
                      refine o_T (y_fa fl_80_0 rfl) rfl ?_
                      refine o_take rfl rfl rfl ?_
                      refine o_ld one_78 rfl m0 Nt.g0 rfl ?_
                      refine o_take rfl rfl rfl ?_
                      refine o_T (y_move rfl) rfl ?_
                      refine o_take rfl rfl rfl ?_
                      refine o_T (y_is sl_78 rfl rfl (by omega) (by omega)) rfl ?_
                      refine o_take rfl rfl rfl ?_
                      refine o_T (y_fa fl_83_6 rfl) rfl ?_
                      refine o_take rfl rfl rfl ?_
                      refine o_ld one_3 rfl (ms m0) (Ed.l_peer hO p (by omega) (by omega)) rfl ?_
                      refine o_take rfl rfl rfl ?_
                      refine o_T (y_move rfl) rfl ?_
                      refine o_take rfl rfl rfl ?_
                      refine o_T (y_neq rfl rfl) rfl ?_
                      refine o_T (y_pickF rfl rfl) rfl ?_
                      refine o_nil1 246 rfl rfl ?_
                      refine c_cond rfl (fun h105_1 => ?_) (fun h105_1 => ?_)
                      · try simp only [decide_eq_true_eq, decide_eq_false_iff_not, Bool.not_eq_true', Bool.not_eq_false', Int.not_lt, Int.not_le, Decidable.not_not, beq_iff_eq, bne_iff_ne, ne_eq, beq_eq_false_iff_ne] at h105_1
                        first | exact absurd h105_1 a3 | exact absurd a4 h105_1 | exact absurd h105_1 a5 | exact absurd (a6.symm.trans h105_1) Bool.false_ne_true | exact absurd h105_1 d1 | exact absurd d5 h105_1 | (exfalso; omega)
                      · try simp only [decide_eq_true_eq, decide_eq_false_iff_not, Bool.not_eq_true', Bool.not_eq_false', Int.not_lt, Int.not_le, Decidable.not_not, beq_iff_eq, bne_iff_ne, ne_eq, beq_eq_false_iff_ne] at h105_1
                        refine c_skip ?_
                        refine c_region ?_
                        refine o_T (y_move rfl) rfl ?_
                        refine o_T (y_nilck rfl) rfl ?_
                        refine o_T (y_fa fl_80_0 rfl) rfl ?_
                        refine o_ld one_78 rfl m0 Nt.g0 rfl ?_
                        refine o_T (y_move rfl) rfl ?_
                        refine o_T (y_move rfl) rfl ?_
                        refine o_T (y_is sl_78 rfl rfl (by omega) (by omega)) rfl ?_
                        refine o_T (y_fa fl_83_6 rfl) rfl ?_
                        refine o_st one_3 rfl rfl rfl (rs r0) (set_at (o' := 0 + k * 16 + 6) (by omega)) (Ed.bnd hO k (by omega) 6 (by omega) (by omega)) ?_
                        have hS_1 := Ed.w_peer hO k (by omega) (o := 0 + k * 16 + 6) rfl (p : Int)
                        rw [(show l.set k { l[k] with peer := (p : Int) } = l1 by rw [← hpe]; exact B.e1)] at hS_1
                        refine o_nil0 rfl ?_
                        refine ⟨_, hS_1, trivial, ⟨rfl, rfl⟩, _, ((s_take (s_take (s_take (s_take (s_take s_nil))))))⟩
                  · try simp only [decide_eq_true_eq, decide_eq_false_iff_not, Bool.not_eq_true', Bool.not_eq_false', Int.not_lt, Int.not_le, Decidable.not_not, beq_iff_eq, bne_iff_ne, ne_eq, beq_eq_false_iff_ne] at h103
                    refine c_seq ?_
                    obtain ⟨p, hp, d4, d5, d6, d7⟩ := d3 h103
                    refine c_draw #[true, true, true, true, true, true, true, true, true, true, true, true, true, true, true, true, true] rfl (n := 17) rfl ?_
                    refine d_T 0 rfl sb_33_23_131 rfl (y_move rfl) rfl ?_
                    refine d_T 1 rfl sb_33_23_132 rfl (y_nilck rfl) rfl ?_
                    refine d_T 2 rfl sb_33_23_133 rfl (y_fa fl_80_0 rfl) rfl ?_
                    refine d_ld 3 rfl sb_33_23_134 one_78 rfl (fun x hx => hx) m0 Nt.g0 rfl ?_
                    refine d_T 4 rfl sb_33_23_135 rfl (y_move rfl) rfl ?_
                    refine d_T 5 rfl sb_33_23_136 rfl (y_nilck rfl) rfl ?_
                    refine d_T 6 rfl sb_33_23_137 rfl (y_fa fl_80_0 rfl) rfl ?_
                    refine d_ld 7 rfl sb_33_23_138 one_78 rfl (fun x hx => hx) m0 Nt.g0 rfl ?_
                    refine d_T 8 rfl sb_33_23_139 rfl (y_move rfl) rfl ?_
                    refine d_T 9 rfl sb_33_23_140 rfl (y_is sl_78 rfl rfl (by omega) (by omega)) rfl ?_
                    refine d_T 10 rfl sb_33_23_141 rfl (y_fa fl_83_6 rfl) rfl ?_
                    refine d_ld 11 rfl sb_33_23_142 one_3 rfl (fun x hx => hx) (ms m0) ((Ed.l_peer hO k (by omega) (by omega)).trans (congrArg (fun z => some (Value.int .i64 z)) d4)) rfl ?_
                    refine d_T 12 rfl sb_33_23_143 rfl (y_is sl_78 rfl rfl (by omega) (by omega)) rfl ?_
                    refine d_T 13 rfl sb_33_23_144 rfl (y_fa fl_83_6 rfl) rfl ?_
                    refine d_ld 14 rfl sb_33_23_145 one_3 rfl (fun x hx => hx) (ms m0) (Ed.l_peer hO p (by omega) (by omega)) rfl ?_
                    refine d_T 15 rfl sb_33_23_146 rfl (y_move rfl) rfl ?_
                    refine d_T 16 rfl sb_33_23_147 rfl (y_neq rfl rfl) rfl ?_
                    refine d_nil1 271 sb_33_23_148 rfl rfl ?_
                    refine c_cond rfl (fun h109 => ?_) (fun h109 => ?_)
                    · try simp only [decide_eq_true_eq, decide_eq_false_iff_not, Bool.not_eq_true', Bool.not_eq_false', Int.not_lt, Int.not_le, Decidable.not_not, beq_iff_eq, bne_iff_ne, ne_eq, beq_eq_false_iff_ne] at h109
                      first | exact absurd h109 a3 | exact absurd a4 h109 | exact absurd h109 a5 | exact absurd (a6.symm.trans h109) Bool.false_ne_true | exact absurd h109 d1 | exact absurd d5 h109 | (exfalso; omega)
                    · try simp only [decide_eq_true_eq, decide_eq_false_iff_not, Bool.not_eq_true', Bool.not_eq_false', Int.not_lt, Int.not_le, Decidable.not_not, beq_iff_eq, bne_iff_ne, ne_eq, beq_eq_false_iff_ne] at h109
                      refine c_skip ?_
                      refine ⟨_, (by rw [← d7]; exact hO), trivial, ⟨rfl, rfl⟩, _, ((s_take (s_take (s_take (s_take (s_take s_nil))))))⟩
              · try simp only [decide_eq_true_eq, decide_eq_false_iff_not, Bool.not_eq_true', Bool.not_eq_false', Int.not_lt, Int.not_le, Decidable.not_not, beq_iff_eq, bne_iff_ne, ne_eq, beq_eq_false_iff_ne] at h99
                refine c_skip ?_
                refine ⟨_, (by rw [← B.nop (by omega)]; exact hO), trivial, ⟨rfl, rfl⟩, _, ((s_take (s_take (s_take (s_take (s_take s_nil))))))⟩
            · rintro cur1 hO1
              try dsimp only at hO1
              refine c_seq ?_
              refine c_draw #[true, true, true, true, true, true, true, true, true, true, true, true, true, true, true, true, true, true, true, true, true, true, false, true, true, false] rfl (n := 26) rfl ?_
              refine d_T 0 rfl sb_33_25_149 rfl (y_move rfl) rfl ?_
              refine d_T 1 rfl sb_33_25_150 rfl (y_nilck rfl) rfl ?_
              refine d_T 2 rfl sb_33_25_151 rfl (y_fa fl_80_0 rfl) rfl ?_
              refine d_ld 3 rfl sb_33_25_152 one_78 rfl (fun x hx => hx) m0 Nt.g0 rfl ?_
              refine d_T 4 rfl sb_33_25_153 rfl (y_move rfl) rfl ?_
              refine d_T 5 rfl sb_33_25_154 rfl (y_move rfl) rfl ?_
              refine d_T 6 rfl sb_33_25_155 rfl (y_nilck rfl) rfl ?_
              refine d_T 7 rfl sb_33_25_156 rfl (y_fa fl_80_0 rfl) rfl ?_
              refine d_ld 8 rfl sb_33_25_157 one_78 rfl (fun x hx => hx) m0 Nt.g0 rfl ?_
              refine d_T 9 rfl sb_33_25_158 rfl (y_move rfl) rfl ?_
              refine d_T 10 rfl sb_33_25_159 rfl (y_fa fl_69_1 rfl) rfl ?_
              refine d_ld 11 rfl sb_33_25_160 one_67 rfl (fun x hx => hx) (ms (ms m0)) Si.g8 rfl ?_
              refine d_T 12 rfl sb_33_25_161 rfl (y_nilck rfl) rfl ?_
              refine d_T 13 rfl sb_33_25_162 rfl (y_fa fl_95_0 rfl) rfl ?_
              refine d_ld 14 rfl sb_33_25_163 one_3 rfl (fun x hx => hx) (ms (ms (ms (ms m0)))) Ci.g0 rfl ?_
              refine d_T 15 rfl sb_33_25_164 rfl (y_fa fl_69_1 rfl) rfl ?_
              refine d_ld 16 rfl sb_33_25_165 one_67 rfl (fun x hx => hx) (ms (ms m0)) Si.g8 rfl ?_
              refine d_T 17 rfl sb_33_25_166 rfl (y_nilck rfl) rfl ?_
              refine d_T 18 rfl sb_33_25_167 rfl (y_fa fl_95_1 rfl) rfl ?_
              refine d_ld 19 rfl sb_33_25_168 one_70 rfl (fun x hx => hx) (ms (ms (ms (ms m0)))) Ci.g1 rfl ?_
              refine d_T 20 rfl sb_33_25_169 rfl (y_is sl_78 rfl rfl (by omega) (by omega)) rfl ?_
              refine d_T 21 rfl sb_33_25_170 rfl (y_fa fl_83_10 rfl) rfl ?_
              refine d_hard 22 rfl sb_33_25_171 ?_
              refine o_st one_3 rfl rfl rfl (rs r0) (set_at (o' := 0 + k * 16 + 10) (by omega)) (Ed.bnd hO1 k (by omega) 10 (by omega) (by omega)) ?_
              have hS_2 := Ed.w_state hO1 k (by omega) (o := 0 + k * 16 + 10) rfl ci.state
              rw [B.e2 (by omega)] at hS_2
              refine o_stop (fun h => nomatch h) ?_
              refine d_T 23 rfl sb_33_25_172 rfl (y_is sl_78 rfl rfl (by omega) (by omega)) rfl ?_
              refine d_T 24 rfl sb_33_25_173 rfl (y_fa fl_83_11 rfl) rfl ?_
              refine d_hard 25 rfl sb_33_25_174 ?_
              refine o_st one_70 rfl rfl rfl (rs r0) (set_at (o' := 0 + k * 16 + 11) (by omega)) (Ed.bnd hS_2 k (by omega) 11 (by omega) (by omega)) ?_
              have hS_3 := Ed.w_why hS_2 k (by omega) (o := 0 + k * 16 + 11) rfl ci.why
              rw [B.e3 (by omega)] at hS_3
              refine o_stop (fun h => nomatch h) ?_
              refine d_nil0 sb_33_25_175 rfl ?_
              refine c_seq ?_
              refine c_seq ?_
              refine c_region ?_
              refine o_T (y_move rfl) rfl ?_
              refine o_T (y_nilck rfl) rfl ?_
              refine o_T (y_fa fl_80_0 rfl) rfl ?_
              refine o_ld one_78 rfl m0 Nt.g0 rfl ?_
              refine o_T (y_move rfl) rfl ?_
              refine o_T (y_is sl_78 rfl rfl (by omega) (by omega)) rfl ?_
              refine o_T (y_fa fl_83_10 rfl) rfl ?_
              refine o_ld one_3 rfl (ms m0) (Ed.l_state hS_3 k (by omega) (by omega)) rfl ?_
              refine o_T (y_eql rfl rfl) rfl ?_
              refine o_nil1 304 rfl rfl ?_
              refine c_joinD 2 (ι := Array Value) (fun i => []) (fun i => [[(b, .cells (Nt.mk (.slice (some ⟨bw, 0, none⟩) l.length cw) dl).enc 80 (0, 0))], [(bw, .cells i 83 (0, 0))]]) (fun i => EdO bw cw i l4 gd) (fun _ _ h => h) ?_ ?_
              · skip
                refine c_cond rfl (fun h114 => ?_) (fun h114 => ?_)
                · try simp only [decide_eq_true_eq, decide_eq_false_iff_not, Bool.not_eq_true', Bool.not_eq_false', Int.not_lt, Int.not_le, Decidable.not_not, beq_iff_eq, bne_iff_ne, ne_eq, beq_eq_false_iff_ne] at h114
                  refine c_region ?_
                  refine o_T (y_move rfl) rfl ?_
                  refine o_T (y_nilck rfl) rfl ?_
                  refine o_T (y_fa fl_80_0 rfl) rfl ?_
                  refine o_ld one_78 rfl m0 Nt.g0 rfl ?_
                  refine o_T (y_move rfl) rfl ?_
                  refine o_T (y_is sl_78 rfl rfl (by omega) (by omega)) rfl ?_
                  refine o_T (y_fa fl_83_14 rfl) rfl ?_
                  refine o_st one_4 rfl rfl rfl (rs r0) (set_at (o' := 0 + k * 16 + 14) (by omega)) (Ed.bnd hS_3 k (by omega) 14 (by omega) (by omega)) ?_
                  have hS_4 := Ed.w_wasOpen hS_3 k (by omega) (o := 0 + k * 16 + 14) rfl true
                  rw [B.wo ((B.st (by omega)).symm.trans h114) (by omega)] at hS_4
                  refine o_nil0 rfl ?_
                  refine ⟨_, hS_4, trivial, ⟨rfl, rfl⟩, _, ((s_take (s_take (s_take (s_take (s_take s_nil))))))⟩
                · try simp only [decide_eq_true_eq, decide_eq_false_iff_not, Bool.not_eq_true', Bool.not_eq_false', Int.not_lt, Int.not_le, Decidable.not_not, beq_iff_eq, bne_iff_ne, ne_eq, beq_eq_false_iff_ne] at h114
                  refine c_skip ?_
                  refine ⟨_, (by rw [← B.nwo (fun z => h114 ((B.st (by omega)).trans z))]; exact hS_3), trivial, ⟨rfl, rfl⟩, _, ((s_take (s_take (s_take (s_take (s_take s_nil))))))⟩
              · rintro cur4 hO4
                try dsimp only at hO4
                refine c_seq ?_
                refine c_seq ?_
                refine c_joinE (ι := Unit) (fun i => [(329, .bool false)]) (fun i => True) (fun _ _ h => h) ?_ ?_
                · skip
                  refine c_draw #[true, true, true, true, true, true, true, true, true, true, true, true, true, true, true, true, true, true] rfl (n := 18) rfl ?_
                  refine d_T 0 rfl sb_33_28_176 rfl (y_fa fl_69_0 rfl) rfl ?_
                  refine d_T 1 rfl sb_33_28_177 rfl (y_fa fl_66_6 rfl) rfl ?_
                  refine d_ld 2 rfl sb_33_28_178 one_3 rfl (fun x hx => hx) (ms (ms m0)) Si.g6 rfl ?_
                  refine d_T 3 rfl sb_33_28_179 rfl (y_neq rfl rfl) rfl ?_
                  refine d_T 4 rfl sb_33_28_180 rfl (y_move rfl) rfl ?_
                  refine d_split 316 rfl (fun h117 => ?_) (fun h117 => ?_)
                  · try simp only [decide_eq_true_eq, decide_eq_false_iff_not, Bool.not_eq_true', Bool.not_eq_false', Int.not_lt, Int.not_le, Decidable.not_not, beq_iff_eq, bne_iff_ne, ne_eq, beq_eq_false_iff_ne] at h117
                    refine d_Tg 5 rfl rfl rfl rfl sb_33_28_181 rfl (y_fa fl_69_0 rfl) rfl ?_
                    refine d_Tg 6 rfl rfl rfl rfl sb_33_28_182 rfl (y_fa fl_66_7 rfl) rfl ?_
                    refine d_ldt 7 rfl rfl rfl rfl sb_33_28_183 one_4 rfl (fun x hx => hx) (ms (ms m0)) Si.g7 rfl ?_
                    refine d_Tg 8 rfl rfl rfl rfl sb_33_28_184 rfl (y_move rfl) rfl ?_
                    refine d_Tg 9 rfl rfl rfl rfl sb_33_28_185 rfl (y_nilck rfl) rfl ?_
                    refine d_Tg 10 rfl rfl rfl rfl sb_33_28_186 rfl (y_fa fl_80_0 rfl) rfl ?_
                    refine d_ldt 11 rfl rfl rfl rfl sb_33_28_187 one_78 rfl (fun x hx => hx) m0 Nt.g0 rfl ?_
                    refine d_Tg 12 rfl rfl rfl rfl sb_33_28_188 rfl (y_move rfl) rfl ?_
                    refine d_Tg 13 rfl rfl rfl rfl sb_33_28_189 rfl (y_is sl_78 rfl rfl (by omega) (by omega)) rfl ?_
                    refine d_Tg 14 rfl rfl rfl rfl sb_33_28_190 rfl (y_fa fl_83_14 rfl) rfl ?_
                    refine d_ldt 15 rfl rfl rfl rfl sb_33_28_191 one_4 rfl (fun x hx => hx) (ms m0) (Ed.l_wasOpen hO4 k (by omega) (by omega)) rfl ?_
                    refine d_Tg 16 rfl rfl rfl rfl sb_33_28_192 rfl (y_bne Tryz.underlying4 rfl rfl) rfl ?_
                    refine d_T 17 rfl sb_33_28_193 rfl (y_pickT rfl rfl) rfl ?_
                    refine d_split 329 rfl (fun h117_1 => ?_) (fun h117_1 => ?_)
                    · try simp only [decide_eq_true_eq, decide_eq_false_iff_not, Bool.not_eq_true', Bool.not_eq_false', Int.not_lt, Int.not_le, Decidable.not_not, beq_iff_eq, bne_iff_ne, ne_eq, beq_eq_false_iff_ne] at h117_1
                      exact absurd (B.par h117 (by omega)) h117_1
                    · try simp only [decide_eq_true_eq, decide_eq_false_iff_not, Bool.not_eq_true', Bool.not_eq_false', Int.not_lt, Int.not_le, Decidable.not_not, beq_iff_eq, bne_iff_ne, ne_eq, beq_eq_false_iff_ne] at h117_1
                      refine d_nil1 329 sb_33_28_194 rfl rfl ?_
                      refine ⟨(), trivial, ⟨by first | rfl | exact gteI rfl (by omega), trivial⟩, ⟨rfl, rfl⟩, _, ((s_take (s_take (s_take (s_take (s_take s_nil))))))⟩
                  · try simp only [decide_eq_true_eq, decide_eq_false_iff_not, Bool.not_eq_true', Bool.not_eq_false', Int.not_lt, Int.not_le, Decidable.not_not, beq_iff_eq, bne_iff_ne, ne_eq, beq_eq_false_iff_ne] at h117
                    refine d_pass 5 rfl rfl rfl rfl rfl sb_33_28_181 (fun x hx => hx) rfl ?_
                    refine d_pass 6 rfl rfl rfl rfl rfl sb_33_28_182 (fun x hx => hx) rfl ?_
                    refine d_pass 7 rfl rfl rfl rfl rfl sb_33_28_183 (fun x hx => hx) rfl ?_
                    refine d_pass 8 rfl rfl rfl rfl rfl sb_33_28_184 (fun x hx => hx) rfl ?_
                    refine d_pass 9 rfl rfl rfl rfl rfl sb_33_28_185 (fun x hx => hx) rfl ?_
                    refine d_pass 10 rfl rfl rfl rfl rfl sb_33_28_186 (fun x hx => hx) rfl ?_
                    refine d_pass 11 rfl rfl rfl rfl rfl sb_33_28_187 (fun x hx => hx) rfl ?_
                    refine d_pass 12 rfl rfl rfl rfl rfl sb_33_28_188 (fun x hx => hx) rfl ?_
                    refine d_pass 13 rfl rfl rfl rfl rfl sb_33_28_189 (fun x hx => hx) rfl ?_
                    refine d_pass 14 rfl rfl rfl rfl rfl sb_33_28_190 (fun x hx => hx) rfl ?_
                    refine d_pass 15 rfl rfl rfl rfl rfl sb_33_28_191 (fun x hx => hx) rfl ?_
                    refine d_pass 16 rfl rfl rfl rfl rfl sb_33_28_192 (fun x hx => hx) rfl ?_
                    refine d_T 17 rfl sb_33_28_193 rfl (y_pickF rfl rfl) rfl ?_
                    refine d_nil1 329 sb_33_28_194 rfl rfl ?_
                    refine ⟨(), trivial, ⟨by first | rfl | exact gteI rfl (by omega), trivial⟩, ⟨rfl, rfl⟩, _, ((s_take (s_take (s_take (s_take (s_take s_nil))))))⟩
                · rintro _ _
                  try dsimp only at _
                  refine c_condF rfl ?_
                  refine c_skip ?_
                  refine c_seq ?_
                  refine c_seq ?_
                  obtain ⟨pr4, cr4, hv4⟩ := Ed.v_rcvd hO4 k (by omega)
                  refine c_draw #[true, true, true, true, true, true, true, true, true, true, true, true, true, true, true, true, true, true, true, true, true, true, true, true] rfl (n := 24) rfl ?_
                  refine d_T 0 rfl sb_33_30_195 rfl (y_move rfl) rfl ?_
                  refine d_T 1 rfl sb_33_30_196 rfl (y_nilck rfl) rfl ?_
                  refine d_T 2 rfl sb_33_30_197 rfl (y_fa fl_80_0 rfl) rfl ?_
                  refine d_ld 3 rfl sb_33_30_198 one_78 rfl (fun x hx => hx) m0 Nt.g0 rfl ?_
                  refine d_T 4 rfl sb_33_30_199 rfl (y_move rfl) rfl ?_
                  refine d_T 5 rfl sb_33_30_200 rfl (y_is sl_78 rfl rfl (by omega) (by omega)) rfl ?_
                  refine d_T 6 rfl sb_33_30_201 rfl (y_fa fl_83_8 rfl) rfl ?_
                  refine d_ld 7 rfl sb_33_30_202 one_81 rfl (fun x hx => hx) (ms m0) (hv4 _ (by omega)) rfl ?_
                  refine d_T 8 rfl sb_33_30_203 rfl (y_len Tryz.underlying81 rfl) rfl ?_
                  refine d_T 9 rfl sb_33_30_204 rfl (y_fa fl_69_1 rfl) rfl ?_
                  refine d_ld 10 rfl sb_33_30_205 one_67 rfl (fun x hx => hx) (ms (ms m0)) Si.g8 rfl ?_
                  refine d_T 11 rfl sb_33_30_206 rfl (y_nilck rfl) rfl ?_
                  refine d_T 12 rfl sb_33_30_207 rfl (y_fa fl_95_11 rfl) rfl ?_
                  refine d_ld 13 rfl sb_33_30_208 one_3 rfl (fun x hx => hx) (ms (ms (ms (ms m0)))) Ci.g11 rfl ?_
                  refine d_T 14 rfl sb_33_30_209 rfl (y_add rfl rfl (w64 (by omega))) rfl ?_
                  refine d_T 15 rfl sb_33_30_210 rfl (y_move rfl) rfl ?_
                  refine d_T 16 rfl sb_33_30_211 rfl (y_nilck rfl) rfl ?_
                  refine d_T 17 rfl sb_33_30_212 rfl (y_fa fl_80_0 rfl) rfl ?_
                  refine d_ld 18 rfl sb_33_30_213 one_78 rfl (fun x hx => hx) m0 Nt.g0 rfl ?_
                  refine d_T 19 rfl sb_33_30_214 rfl (y_move rfl) rfl ?_
                  refine d_T 20 rfl sb_33_30_215 rfl (y_is sl_78 rfl rfl (by omega) (by omega)) rfl ?_
                  refine d_T 21 rfl sb_33_30_216 rfl (y_fa fl_83_9 rfl) rfl ?_
                  refine d_ld 22 rfl sb_33_30_217 one_3 rfl (fun x hx => hx) (ms m0) (Ed.l_offered hO4 k (by omega) (by omega)) rfl ?_
                  refine d_T 23 rfl sb_33_30_218 rfl (y_gtr rfl rfl) rfl ?_
                  refine d_nil1 353 sb_33_30_219 rfl rfl ?_
                  refine c_joinD 2 (ι := Array Value) (fun i => []) (fun i => [[(b, .cells (Nt.mk (.slice (some ⟨bw, 0, none⟩) l.length cw) dl).enc 80 (0, 0))], [(bw, .cells i 83 (0, 0))]]) (fun i => EdO bw cw i l5 gd) (fun _ _ h => h) ?_ ?_
                  · skip
                    refine c_cond rfl (fun h120 => ?_) (fun h120 => ?_)
                    · try simp only [decide_eq_true_eq, decide_eq_false_iff_not, Bool.not_eq_true', Bool.not_eq_false', Int.not_lt, Int.not_le, Decidable.not_not, beq_iff_eq, bne_iff_ne, ne_eq, beq_eq_false_iff_ne] at h120
                      obtain ⟨pr5, cr5, hv5⟩ := Ed.v_rcvd hO4 k (by omega)
                      refine c_draw #[true, true, true, true, true, true, true, true, true, true, true, true, true, true, true, true, true, true, true, true, true, true, false] rfl (n := 23) rfl ?_
                      refine d_T 0 rfl sb_33_31_220 rfl (y_move rfl) rfl ?_
                      refine d_T 1 rfl sb_33_31_221 rfl (y_nilck rfl) rfl ?_
                      refine d_T 2 rfl sb_33_31_222 rfl (y_fa fl_80_0 rfl) rfl ?_
                      refine d_ld 3 rfl sb_33_31_223 one_78 rfl (fun x hx => hx) m0 Nt.g0 rfl ?_
                      refine d_T 4 rfl sb_33_31_224 rfl (y_move rfl) rfl ?_
                      refine d_T 5 rfl sb_33_31_225 rfl (y_move rfl) rfl ?_
                      refine d_T 6 rfl sb_33_31_226 rfl (y_nilck rfl) rfl ?_
                      refine d_T 7 rfl sb_33_31_227 rfl (y_fa fl_80_0 rfl) rfl ?_
                      refine d_ld 8 rfl sb_33_31_228 one_78 rfl (fun x hx => hx) m0 Nt.g0 rfl ?_
                      refine d_T 9 rfl sb_33_31_229 rfl (y_move rfl) rfl ?_
                      refine d_T 10 rfl sb_33_31_230 rfl (y_is sl_78 rfl rfl (by omega) (by omega)) rfl ?_
                      refine d_T 11 rfl sb_33_31_231 rfl (y_fa fl_83_8 rfl) rfl ?_
                      refine d_ld 12 rfl sb_33_31_232 one_81 rfl (fun x hx => hx) (ms m0) (hv5 _ (by omega)) rfl ?_
                      refine d_T 13 rfl sb_33_31_233 rfl (y_len Tryz.underlying81 rfl) rfl ?_
                      refine d_T 14 rfl sb_33_31_234 rfl (y_fa fl_69_1 rfl) rfl ?_
                      refine d_ld 15 rfl sb_33_31_235 one_67 rfl (fun x hx => hx) (ms (ms m0)) Si.g8 rfl ?_
                      refine d_T 16 rfl sb_33_31_236 rfl (y_nilck rfl) rfl ?_
                      refine d_T 17 rfl sb_33_31_237 rfl (y_fa fl_95_11 rfl) rfl ?_
                      refine d_ld 18 rfl sb_33_31_238 one_3 rfl (fun x hx => hx) (ms (ms (ms (ms m0)))) Ci.g11 rfl ?_
                      refine d_T 19 rfl sb_33_31_239 rfl (y_add rfl rfl (w64 (by omega))) rfl ?_
                      refine d_T 20 rfl sb_33_31_240 rfl (y_is sl_78 rfl rfl (by omega) (by omega)) rfl ?_
                      refine d_T 21 rfl sb_33_31_241 rfl (y_fa fl_83_9 rfl) rfl ?_
                      refine d_hard 22 rfl sb_33_31_242 ?_
                      refine o_st one_3 rfl rfl rfl (rs r0) (set_at (o' := 0 + k * 16 + 9) (by omega)) (Ed.bnd hO4 k (by omega) 9 (by omega) (by omega)) ?_
                      have hS_5 := Ed.w_offered hO4 k (by omega) (o := 0 + k * 16 + 9) rfl (((l4[k]'(by omega)).rcvd.length : Int) + ci.avail)
                      rw [B.off (by omega) (by omega)] at hS_5
                      refine o_stop (fun h => nomatch h) ?_
                      refine d_nil0 sb_33_31_243 rfl ?_
                      refine ⟨_, hS_5, trivial, ⟨rfl, rfl⟩, _, ((s_take (s_take (s_take (s_take (s_take s_nil))))))⟩
                    · try simp only [decide_eq_true_eq, decide_eq_false_iff_not, Bool.not_eq_true', Bool.not_eq_false', Int.not_lt, Int.not_le, Decidable.not_not, beq_iff_eq, bne_iff_ne, ne_eq, beq_eq_false_iff_ne] at h120
                      refine c_skip ?_
                      refine ⟨_, (by rw [← B.noff (by omega) (by omega)]; exact hO4), trivial, ⟨rfl, rfl⟩, _, ((s_take (s_take (s_take (s_take (s_take s_nil))))))⟩
                  · rintro cur5 hO5
                    try dsimp only at hO5
                    refine c_seq ?_
                    refine c_seq ?_
                    refine c_joinE (ι := Unit) (fun i => [(422, .bool false)]) (fun i => True) (fun _ _ h => h) ?_ ?_
                    · skip
                      refine c_draw #[true, true, true, true, true, true, true, true, true, true, true, true, true, true, true, true, true, true, true, true, true, true, true, true, true, true, true, true, true, true, true, true, true, true, true, true, true, true, true, true, true, true, true, true, true, true, true] rfl (n := 47) rfl ?_
                      refine d_T 0 rfl sb_33_32_244 rfl (y_move rfl) rfl ?_
                      refine d_T 1 rfl sb_33_32_245 rfl (y_nilck rfl) rfl ?_
                      refine d_T 2 rfl sb_33_32_246 rfl (y_fa fl_80_0 rfl) rfl ?_
                      refine d_ld 3 rfl sb_33_32_247 one_78 rfl (fun x hx => hx) m0 Nt.g0 rfl ?_
                      refine d_T 4 rfl sb_33_32_248 rfl (y_move rfl) rfl ?_
                      refine d_T 5 rfl sb_33_32_249 rfl (y_is sl_78 rfl rfl (by omega) (by omega)) rfl ?_
                      refine d_T 6 rfl sb_33_32_250 rfl (y_fa fl_83_9 rfl) rfl ?_
                      refine d_ld 7 rfl sb_33_32_251 one_3 rfl (fun x hx => hx) (ms m0) (Ed.l_offered hO5 k (by omega) (by omega)) rfl ?_
                      refine d_T 8 rfl sb_33_32_252 rfl (y_gtr rfl rfl) rfl ?_
                      refine d_T 9 rfl sb_33_32_253 rfl (y_move rfl) rfl ?_
                      refine d_split 385 rfl (fun h123 => ?_) (fun h123 => ?_)
                      · try simp only [decide_eq_true_eq, decide_eq_false_iff_not, Bool.not_eq_true', Bool.not_eq_false', Int.not_lt, Int.not_le, Decidable.not_not, beq_iff_eq, bne_iff_ne, ne_eq, beq_eq_false_iff_ne] at h123
                        obtain ⟨p, hp5, hpk, hple⟩ := B.chk (by omega) (by omega)
                        obtain ⟨ps5, cs5, hv5⟩ := Ed.v_sent hO5 p (by omega)
                        refine d_Tg 10 rfl rfl rfl rfl sb_33_32_254 rfl (y_move rfl) rfl ?_
                        refine d_Tg 11 rfl rfl rfl rfl sb_33_32_255 rfl (y_nilck rfl) rfl ?_
                        refine d_Tg 12 rfl rfl rfl rfl sb_33_32_256 rfl (y_fa fl_80_0 rfl) rfl ?_
                        refine d_ldt 13 rfl rfl rfl rfl sb_33_32_257 one_78 rfl (fun x hx => hx) m0 Nt.g0 rfl ?_
                        refine d_Tg 14 rfl rfl rfl rfl sb_33_32_258 rfl (y_move rfl) rfl ?_
                        refine d_Tg 15 rfl rfl rfl rfl sb_33_32_259 rfl (y_is sl_78 rfl rfl (by omega) (by omega)) rfl ?_
                        refine d_Tg 16 rfl rfl rfl rfl sb_33_32_260 rfl (y_fa fl_83_6 rfl) rfl ?_
                        refine d_ldt 17 rfl rfl rfl rfl sb_33_32_261 one_3 rfl (fun x hx => hx) (ms m0) ((Ed.l_peer hO5 k (by omega) (by omega)).trans (congrArg (fun z => some (Value.int .i64 z)) hpk)) rfl ?_
                        refine d_Tg 18 rfl rfl rfl rfl sb_33_32_262 rfl (y_lss rfl rfl) rfl ?_
                        refine d_Tg 19 rfl rfl rfl rfl sb_33_32_263 rfl (y_move rfl) rfl ?_
                        refine d_split 395 rfl (fun h123_1 => ?_) (fun h123_1 => ?_)
                        · try simp only [decide_eq_true_eq, decide_eq_false_iff_not, Bool.not_eq_true', Bool.not_eq_false', Int.not_lt, Int.not_le, Decidable.not_not, beq_iff_eq, bne_iff_ne, ne_eq, beq_eq_false_iff_ne] at h123_1
                          refine d_pass 20 rfl rfl rfl rfl rfl sb_33_32_264 (fun x hx => hx) rfl ?_
                          refine d_pass 21 rfl rfl rfl rfl rfl sb_33_32_265 (fun x hx => hx) rfl ?_
                          refine d_pass 22 rfl rfl rfl rfl rfl sb_33_32_266 (fun x hx => hx) rfl ?_
                          refine d_pass 23 rfl rfl rfl rfl rfl sb_33_32_267 (fun x hx => hx) rfl ?_
                          refine d_pass 24 rfl rfl rfl rfl rfl sb_33_32_268 (fun x hx => hx) rfl ?_
                          refine d_pass 25 rfl rfl rfl rfl rfl sb_33_32_269 (fun x hx => hx) rfl ?_
                          refine d_pass 26 rfl rfl rfl rfl rfl sb_33_32_270 (fun x hx => hx) rfl ?_
                          refine d_pass 27 rfl rfl rfl rfl rfl sb_33_32_271 (fun x hx => hx) rfl ?_
                          refine d_pass 28 rfl rfl rfl rfl rfl sb_33_32_272 (fun x hx => hx) rfl ?_
                          refine d_pass 29 rfl rfl rfl rfl rfl sb_33_32_273 (fun x hx => hx) rfl ?_
                          refine d_pass 30 rfl rfl rfl rfl rfl sb_33_32_274 (fun x hx => hx) rfl ?_
                          refine d_pass 31 rfl rfl rfl rfl rfl sb_33_32_275 (fun x hx => hx) rfl ?_
                          refine d_pass 32 rfl rfl rfl rfl rfl sb_33_32_276 (fun x hx => hx) rfl ?_
                          refine d_pass 33 rfl rfl rfl rfl rfl sb_33_32_277 (fun x hx => hx) rfl ?_
                          refine d_pass 34 rfl rfl rfl rfl rfl sb_33_32_278 (fun x hx => hx) rfl ?_
                          refine d_pass 35 rfl rfl rfl rfl rfl sb_33_32_279 (fun x hx => hx) rfl ?_
                          refine d_pass 36 rfl rfl rfl rfl rfl sb_33_32_280 (fun x hx => hx) rfl ?_
                          refine d_pass 37 rfl rfl rfl rfl rfl sb_33_32_281 (fun x hx => hx) rfl ?_
                          refine d_pass 38 rfl rfl rfl rfl rfl sb_33_32_282 (fun x hx => hx) rfl ?_
                          refine d_pass 39 rfl rfl rfl rfl rfl sb_33_32_283 (fun x hx => hx) rfl ?_
                          refine d_pass 40 rfl rfl rfl rfl rfl sb_33_32_284 (fun x hx => hx) rfl ?_
                          refine d_pass 41 rfl rfl rfl rfl rfl sb_33_32_285 (fun x hx => hx) rfl ?_
                          refine d_pass 42 rfl rfl rfl rfl rfl sb_33_32_286 (fun x hx => hx) rfl ?_
                          refine d_pass 43 rfl rfl rfl rfl rfl sb_33_32_287 (fun x hx => hx) rfl ?_
                          refine d_pass 44 rfl rfl rfl rfl rfl sb_33_32_288 (fun x hx => hx) rfl ?_
                          refine d_Tg 45 rfl rfl rfl rfl sb_33_32_289 rfl (y_pickT rfl rfl) rfl ?_
                          refine d_T 46 rfl sb_33_32_290 rfl (y_pickT rfl rfl) rfl ?_
                          first | exact absurd (hpc.symm.trans h123_1) (fun z => nomatch z) | (exfalso; omega)
                        · try simp only [decide_eq_true_eq, decide_eq_false_iff_not, Bool.not_eq_true', Bool.not_eq_false', Int.not_lt, Int.not_le, Decidable.not_not, beq_iff_eq, bne_iff_ne, ne_eq, beq_eq_false_iff_ne] at h123_1
                          refine d_Tg 20 rfl rfl rfl rfl sb_33_32_264 rfl (y_move rfl) rfl ?_
                          refine d_Tg 21 rfl rfl rfl rfl sb_33_32_265 rfl (y_nilck rfl) rfl ?_
                          refine d_Tg 22 rfl rfl rfl rfl sb_33_32_266 rfl (y_fa fl_80_0 rfl) rfl ?_
                          refine d_ldt 23 rfl rfl rfl rfl sb_33_32_267 one_78 rfl (fun x hx => hx) m0 Nt.g0 rfl ?_
                          refine d_Tg 24 rfl rfl rfl rfl sb_33_32_268 rfl (y_move rfl) rfl ?_
                          refine d_Tg 25 rfl rfl rfl rfl sb_33_32_269 rfl (y_is sl_78 rfl rfl (by omega) (by omega)) rfl ?_
                          refine d_Tg 26 rfl rfl rfl rfl sb_33_32_270 rfl (y_fa fl_83_9 rfl) rfl ?_
                          refine d_ldt 27 rfl rfl rfl rfl sb_33_32_271 one_3 rfl (fun x hx => hx) (ms m0) (Ed.l_offered hO5 k (by omega) (by omega)) rfl ?_
                          refine d_Tg 28 rfl rfl rfl rfl sb_33_32_272 rfl (y_move rfl) rfl ?_
                          refine d_Tg 29 rfl rfl rfl rfl sb_33_32_273 rfl (y_nilck rfl) rfl ?_
                          refine d_Tg 30 rfl rfl rfl rfl sb_33_32_274 rfl (y_fa fl_80_0 rfl) rfl ?_
                          refine d_ldt 31 rfl rfl rfl rfl sb_33_32_275 one_78 rfl (fun x hx => hx) m0 Nt.g0 rfl ?_
                          refine d_Tg 32 rfl rfl rfl rfl sb_33_32_276 rfl (y_move rfl) rfl ?_
                          refine d_Tg 33 rfl rfl rfl rfl sb_33_32_277 rfl (y_nilck rfl) rfl ?_
                          refine d_Tg 34 rfl rfl rfl rfl sb_33_32_278 rfl (y_fa fl_80_0 rfl) rfl ?_
                          refine d_ldt 35 rfl rfl rfl rfl sb_33_32_279 one_78 rfl (fun x hx => hx) m0 Nt.g0 rfl ?_
                          refine d_Tg 36 rfl rfl rfl rfl sb_33_32_280 rfl (y_move rfl) rfl ?_
                          refine d_Tg 37 rfl rfl rfl rfl sb_33_32_281 rfl (y_is sl_78 rfl rfl (by omega) (by omega)) rfl ?_
                          refine d_Tg 38 rfl rfl rfl rfl sb_33_32_282 rfl (y_fa fl_83_6 rfl) rfl ?_
                          refine d_ldt 39 rfl rfl rfl rfl sb_33_32_283 one_3 rfl (fun x hx => hx) (ms m0) ((Ed.l_peer hO5 k (by omega) (by omega)).trans (congrArg (fun z => some (Value.int .i64 z)) hpk)) rfl ?_
                          refine d_Tg 40 rfl rfl rfl rfl sb_33_32_284 rfl (y_is sl_78 rfl rfl (by omega) (by omega)) rfl ?_
                          refine d_Tg 41 rfl rfl rfl rfl sb_33_32_285 rfl (y_fa fl_83_7 rfl) rfl ?_
                          refine d_ldt 42 rfl rfl rfl rfl sb_33_32_286 one_81 rfl (fun x hx => hx) (ms m0) (hv5 _ (by omega)) rfl ?_
                          refine d_Tg 43 rfl rfl rfl rfl sb_33_32_287 rfl (y_len Tryz.underlying81 rfl) rfl ?_
                          refine d_Tg 44 rfl rfl rfl rfl sb_33_32_288 rfl (y_gtr rfl rfl) rfl ?_
                          refine d_Tg 45 rfl rfl rfl rfl sb_33_32_289 rfl (y_pickF rfl rfl) rfl ?_
                          refine d_T 46 rfl sb_33_32_290 rfl (y_pickT rfl rfl) rfl ?_
                          refine d_split 422 rfl (fun h123_2 => ?_) (fun h123_2 => ?_)
                          · try simp only [decide_eq_true_eq, decide_eq_false_iff_not, Bool.not_eq_true', Bool.not_eq_false', Int.not_lt, Int.not_le, Decidable.not_not, beq_iff_eq, bne_iff_ne, ne_eq, beq_eq_false_iff_ne] at h123_2
                            first | exact absurd (hpc.symm.trans h123_2) (fun z => nomatch z) | (exfalso; omega)
                          · try simp only [decide_eq_true_eq, decide_eq_false_iff_not, Bool.not_eq_true', Bool.not_eq_false', Int.not_lt, Int.not_le, Decidable.not_not, beq_iff_eq, bne_iff_ne, ne_eq, beq_eq_false_iff_ne] at h123_2
                            refine d_nil1 422 sb_33_32_291 rfl rfl ?_
                            refine ⟨(), trivial, ⟨by first | rfl | exact gteI rfl (by omega), trivial⟩, ⟨rfl, rfl⟩, _, ((s_take (s_take (s_take (s_take (s_take s_nil))))))⟩
                      · try simp only [decide_eq_true_eq, decide_eq_false_iff_not, Bool.not_eq_true', Bool.not_eq_false', Int.not_lt, Int.not_le, Decidable.not_not, beq_iff_eq, bne_iff_ne, ne_eq, beq_eq_false_iff_ne] at h123
                        refine d_pass 10 rfl rfl rfl rfl rfl sb_33_32_254 (fun x hx => hx) rfl ?_
                        refine d_pass 11 rfl rfl rfl rfl rfl sb_33_32_255 (fun x hx => hx) rfl ?_
                        refine d_pass 12 rfl rfl rfl rfl rfl sb_33_32_256 (fun x hx => hx) rfl ?_
                        refine d_pass 13 rfl rfl rfl rfl rfl sb_33_32_257 (fun x hx => hx) rfl ?_
                        refine d_pass 14 rfl rfl rfl rfl rfl sb_33_32_258 (fun x hx => hx) rfl ?_
                        refine d_pass 15 rfl rfl rfl rfl rfl sb_33_32_259 (fun x hx => hx) rfl ?_
                        refine d_pass 16 rfl rfl rfl rfl rfl sb_33_32_260 (fun x hx => hx) rfl ?_
                        refine d_pass 17 rfl rfl rfl rfl rfl sb_33_32_261 (fun x hx => hx) rfl ?_
                        refine d_pass 18 rfl rfl rfl rfl rfl sb_33_32_262 (fun x hx => hx) rfl ?_
                        refine d_pass 19 rfl rfl rfl rfl rfl sb_33_32_263 (fun x hx => hx) rfl ?_
                        refine d_passU 20 rfl rfl rfl rfl sb_33_32_264 (fun x hx => hx) rfl ?_
                        refine d_passU 21 rfl rfl rfl rfl sb_33_32_265 (fun x hx => hx) rfl ?_
                        refine d_passU 22 rfl rfl rfl rfl sb_33_32_266 (fun x hx => hx) rfl ?_
                        refine d_passU 23 rfl rfl rfl rfl sb_33_32_267 (fun x hx => hx) rfl ?_
                        refine d_passU 24 rfl rfl rfl rfl sb_33_32_268 (fun x hx => hx) rfl ?_
                        refine d_passU 25 rfl rfl rfl rfl sb_33_32_269 (fun x hx => hx) rfl ?_
                        refine d_passU 26 rfl rfl rfl rfl sb_33_32_270 (fun x hx => hx) rfl ?_
                        refine d_passU 27 rfl rfl rfl rfl sb_33_32_271 (fun x hx => hx) rfl ?_
                        refine d_passU 28 rfl rfl rfl rfl sb_33_32_272 (fun x hx => hx) rfl ?_
                        refine d_passU 29 rfl rfl rfl rfl sb_33_32_273 (fun x hx => hx) rfl ?_
                        refine d_passU 30 rfl rfl rfl rfl sb_33_32_274 (fun x hx => hx) rfl ?_
                        refine d_passU 31 rfl rfl rfl rfl sb_33_32_275 (fun x hx => hx) rfl ?_
                        refine d_passU 32 rfl rfl rfl rfl sb_33_32_276 (fun x hx => hx) rfl ?_
                        refine d_passU 33 rfl rfl rfl rfl sb_33_32_277 (fun x hx => hx) rfl ?_
                        refine d_passU 34 rfl rfl rfl rfl sb_33_32_278 (fun x hx => hx) rfl ?_
                        refine d_passU 35 rfl rfl rfl rfl sb_33_32_279 (fun x hx => hx) rfl ?_
                        refine d_passU 36 rfl rfl rfl rfl sb_33_32_280 (fun x hx => hx) rfl ?_
                        refine d_passU 37 rfl rfl rfl rfl sb_33_32_281 (fun x hx => hx) rfl ?_
                        refine d_passU 38 rfl rfl rfl rfl sb_33_32_282 (fun x hx => hx) rfl ?_
                        refine d_passU 39 rfl rfl rfl rfl sb_33_32_283 (fun x hx => hx) rfl ?_
                        refine d_passU 40 rfl rfl rfl rfl sb_33_32_284 (fun x hx => hx) rfl ?_
                        refine d_passU 41 rfl rfl rfl rfl sb_33_32_285 (fun x hx => hx) rfl ?_
                        refine d_passU 42 rfl rfl rfl rfl sb_33_32_286 (fun x hx => hx) rfl ?_
                        refine d_passU 43 rfl rfl rfl rfl sb_33_32_287 (fun x hx => hx) rfl ?_
                        refine d_passU 44 rfl rfl rfl rfl sb_33_32_288 (fun x hx => hx) rfl ?_
                        refine d_pass 45 rfl rfl rfl rfl rfl sb_33_32_289 (fun x hx => hx) rfl ?_
                        refine d_T 46 rfl sb_33_32_290 rfl (y_pickF rfl rfl) rfl ?_
                        refine d_nil1 422 sb_33_32_291 rfl rfl ?_
                        refine ⟨(), trivial, ⟨by first | rfl | exact gteI rfl (by omega), trivial⟩, ⟨rfl, rfl⟩, _, ((s_take (s_take (s_take (s_take (s_take s_nil))))))⟩
                    · rintro _ _
                      try dsimp only at _
                      refine c_condF rfl ?_
                      refine c_skip ?_
                      refine c_seq ?_
                      refine c_seq ?_
                      refine c_region ?_
                      refine o_T (y_fa fl_69_1 rfl) rfl ?_
                      refine o_ld one_67 rfl (ms (ms m0)) Si.g8 rfl ?_
                      refine o_T (y_nilck rfl) rfl ?_
                      refine o_T (y_fa fl_95_5 rfl) rfl ?_
                      refine o_ld one_4 rfl (ms (ms (ms (ms m0)))) Ci.g5 rfl ?_
                      refine o_T (y_move rfl) rfl ?_
                      refine o_split 428 rfl (fun h126 => ?_) (fun h126 => ?_)
                      · try simp only [decide_eq_true_eq, decide_eq_false_iff_not, Bool.not_eq_true', Bool.not_eq_false', Int.not_lt, Int.not_le, Decidable.not_not, beq_iff_eq, bne_iff_ne, ne_eq, beq_eq_false_iff_ne] at h126
                        refine o_take rfl rfl rfl ?_
                        refine o_T (y_move rfl) rfl ?_
                        refine o_take rfl rfl rfl ?_
                        refine o_T (y_nilck rfl) rfl ?_
                        refine o_take rfl rfl rfl ?_
                        refine o_T (y_fa fl_80_0 rfl) rfl ?_
                        refine o_take rfl rfl rfl ?_
                        refine o_ld one_78 rfl m0 Nt.g0 rfl ?_
                        refine o_take rfl rfl rfl ?_
                        refine o_T (y_move rfl) rfl ?_
                        refine o_take rfl rfl rfl ?_
                        refine o_T (y_is sl_78 rfl rfl (by omega) (by omega)) rfl ?_
                        refine o_take rfl rfl rfl ?_
                        refine o_T (y_fa fl_83_13 rfl) rfl ?_
                        refine o_take rfl rfl rfl ?_
                        refine o_ld one_4 rfl (ms m0) (Ed.l_peerFin hO5 k (by omega) (by omega)) rfl ?_
                        refine o_take rfl rfl rfl ?_
                        refine o_T (y_not rfl) rfl ?_
                        refine o_T (y_pickT rfl rfl) rfl ?_
                        refine o_nil1 438 rfl rfl ?_
                        refine c_cond rfl (fun h126_1 => ?_) (fun h126_1 => ?_)
                        · try simp only [decide_eq_true_eq, decide_eq_false_iff_not, Bool.not_eq_true', Bool.not_eq_false', Int.not_lt, Int.not_le, Decidable.not_not, beq_iff_eq, bne_iff_ne, ne_eq, beq_eq_false_iff_ne] at h126_1
                          refine c_seq ?_
                          refine c_seq ?_
                          obtain ⟨⟨p, hp5, hpk, hpc, hpo⟩, e6⟩ := B.fin (by omega) h126 h126_1
                          obtain ⟨ps6, cs6, hv6⟩ := Ed.v_sent hO5 p (by omega)
                          refine c_draw #[true, true, true, true, true, true, true, true, true, true, true, true, true, true, true, true, true, true, true, true, true, true, true, true, true, true, true, true, true, true, true, true, true, true, true, true, true, true, true, true, true, true, true, true, true, true, true, true, true, true, true, true, true, true] rfl (n := 54) rfl ?_
                          refine d_T 0 rfl sb_33_35_292 rfl (y_move rfl) rfl ?_
                          refine d_T 1 rfl sb_33_35_293 rfl (y_nilck rfl) rfl ?_
                          refine d_T 2 rfl sb_33_35_294 rfl (y_fa fl_80_0 rfl) rfl ?_
                          refine d_ld 3 rfl sb_33_35_295 one_78 rfl (fun x hx => hx) m0 Nt.g0 rfl ?_
                          refine d_T 4 rfl sb_33_35_296 rfl (y_move rfl) rfl ?_
                          refine d_T 5 rfl sb_33_35_297 rfl (y_is sl_78 rfl rfl (by omega) (by omega)) rfl ?_
                          refine d_T 6 rfl sb_33_35_298 rfl (y_fa fl_83_6 rfl) rfl ?_
                          refine d_ld 7 rfl sb_33_35_299 one_3 rfl (fun x hx => hx) (ms m0) ((Ed.l_peer hO5 k (by omega) (by omega)).trans (congrArg (fun z => some (Value.int .i64 z)) hpk)) rfl ?_
                          refine d_T 8 rfl sb_33_35_300 rfl (y_lss rfl rfl) rfl ?_
                          refine d_T 9 rfl sb_33_35_301 rfl (y_move rfl) rfl ?_
                          refine d_split 448 rfl (fun h127 => ?_) (fun h127 => ?_)
                          · try simp only [decide_eq_true_eq, decide_eq_false_iff_not, Bool.not_eq_true', Bool.not_eq_false', Int.not_lt, Int.not_le, Decidable.not_not, beq_iff_eq, bne_iff_ne, ne_eq, beq_eq_false_iff_ne] at h127
                            refine d_pass 10 rfl rfl rfl rfl rfl sb_33_35_302 (fun x hx => hx) rfl ?_
                            refine d_pass 11 rfl rfl rfl rfl rfl sb_33_35_303 (fun x hx => hx) rfl ?_
                            refine d_pass 12 rfl rfl rfl rfl rfl sb_33_35_304 (fun x hx => hx) rfl ?_
                            refine d_pass 13 rfl rfl rfl rfl rfl sb_33_35_305 (fun x hx => hx) rfl ?_
                            refine d_pass 14 rfl rfl rfl rfl rfl sb_33_35_306 (fun x hx => hx) rfl ?_
                            refine d_pass 15 rfl rfl rfl rfl rfl sb_33_35_307 (fun x hx => hx) rfl ?_
                            refine d_pass 16 rfl rfl rfl rfl rfl sb_33_35_308 (fun x hx => hx) rfl ?_
                            refine d_pass 17 rfl rfl rfl rfl rfl sb_33_35_309 (fun x hx => hx) rfl ?_
                            refine d_pass 18 rfl rfl rfl rfl rfl sb_33_35_310 (fun x hx => hx) rfl ?_
                            refine d_pass 19 rfl rfl rfl rfl rfl sb_33_35_311 (fun x hx => hx) rfl ?_
                            refine d_pass 20 rfl rfl rfl rfl rfl sb_33_35_312 (fun x hx => hx) rfl ?_
                            refine d_pass 21 rfl rfl rfl rfl rfl sb_33_35_313 (fun x hx => hx) rfl ?_
                            refine d_pass 22 rfl rfl rfl rfl rfl sb_33_35_314 (fun x hx => hx) rfl ?_
                            refine d_pass 23 rfl rfl rfl rfl rfl sb_33_35_315 (fun x hx => hx) rfl ?_
                            refine d_pass 24 rfl rfl rfl rfl rfl sb_33_35_316 (fun x hx => hx) rfl ?_
                            refine d_pass 25 rfl rfl rfl rfl rfl sb_33_35_317 (fun x hx => hx) rfl ?_
                            refine d_T 26 rfl sb_33_35_318 rfl (y_pickT rfl rfl) rfl ?_
                            refine d_T 27 rfl sb_33_35_319 rfl (y_move rfl) rfl ?_
                            refine d_pass 28 rfl rfl rfl rfl rfl sb_33_35_320 (fun x hx => hx) rfl ?_
                            refine d_pass 29 rfl rfl rfl rfl rfl sb_33_35_321 (fun x hx => hx) rfl ?_
                            refine d_pass 30 rfl rfl rfl rfl rfl sb_33_35_322 (fun x hx => hx) rfl ?_
                            refine d_pass 31 rfl rfl rfl rfl rfl sb_33_35_323 (fun x hx => hx) rfl ?_
                            refine d_pass 32 rfl rfl rfl rfl rfl sb_33_35_324 (fun x hx => hx) rfl ?_
                            refine d_pass 33 rfl rfl rfl rfl rfl sb_33_35_325 (fun x hx => hx) rfl ?_
                            refine d_pass 34 rfl rfl rfl rfl rfl sb_33_35_326 (fun x hx => hx) rfl ?_
                            refine d_pass 35 rfl rfl rfl rfl rfl sb_33_35_327 (fun x hx => hx) rfl ?_
                            refine d_pass 36 rfl rfl rfl rfl rfl sb_33_35_328 (fun x hx => hx) rfl ?_
                            refine d_pass 37 rfl rfl rfl rfl rfl sb_33_35_329 (fun x hx => hx) rfl ?_
                            refine d_pass 38 rfl rfl rfl rfl rfl sb_33_35_330 (fun x hx => hx) rfl ?_
                            refine d_pass 39 rfl rfl rfl rfl rfl sb_33_35_331 (fun x hx => hx) rfl ?_
                            refine d_pass 40 rfl rfl rfl rfl rfl sb_33_35_332 (fun x hx => hx) rfl ?_
                            refine d_pass 41 rfl rfl rfl rfl rfl sb_33_35_333 (fun x hx => hx) rfl ?_
                            refine d_pass 42 rfl rfl rfl rfl rfl sb_33_35_334 (fun x hx => hx) rfl ?_
                            refine d_pass 43 rfl rfl rfl rfl rfl sb_33_35_335 (fun x hx => hx) rfl ?_
                            refine d_pass 44 rfl rfl rfl rfl rfl sb_33_35_336 (fun x hx => hx) rfl ?_
                            refine d_pass 45 rfl rfl rfl rfl rfl sb_33_35_337 (fun x hx => hx) rfl ?_
                            refine d_pass 46 rfl rfl rfl rfl rfl sb_33_35_338 (fun x hx => hx) rfl ?_
                            refine d_pass 47 rfl rfl rfl rfl rfl sb_33_35_339 (fun x hx => hx) rfl ?_
                            refine d_pass 48 rfl rfl rfl rfl rfl sb_33_35_340 (fun x hx => hx) rfl ?_
                            refine d_pass 49 rfl rfl rfl rfl rfl sb_33_35_341 (fun x hx => hx) rfl ?_
                            refine d_pass 50 rfl rfl rfl rfl rfl sb_33_35_342 (fun x hx => hx) rfl ?_
                            refine d_pass 51 rfl rfl rfl rfl rfl sb_33_35_343 (fun x hx => hx) rfl ?_
                            refine d_pass 52 rfl rfl rfl rfl rfl sb_33_35_344 (fun x hx => hx) rfl ?_
                            refine d_T 53 rfl sb_33_35_345 rfl (y_pickT rfl rfl) rfl ?_
                            first | exact absurd (hpc.symm.trans h127) (fun z => nomatch z) | (exfalso; omega)
                          · try simp only [decide_eq_true_eq, decide_eq_false_iff_not, Bool.not_eq_true', Bool.not_eq_false', Int.not_lt, Int.not_le, Decidable.not_not, beq_iff_eq, bne_iff_ne, ne_eq, beq_eq_false_iff_ne] at h127
                            refine d_Tg 10 rfl rfl rfl rfl sb_33_35_302 rfl (y_move rfl) rfl ?_
                            refine d_Tg 11 rfl rfl rfl rfl sb_33_35_303 rfl (y_nilck rfl) rfl ?_
                            refine d_Tg 12 rfl rfl rfl rfl sb_33_35_304 rfl (y_fa fl_80_0 rfl) rfl ?_
                            refine d_ldt 13 rfl rfl rfl rfl sb_33_35_305 one_78 rfl (fun x hx => hx) m0 Nt.g0 rfl ?_
                            refine d_Tg 14 rfl rfl rfl rfl sb_33_35_306 rfl (y_move rfl) rfl ?_
                            refine d_Tg 15 rfl rfl rfl rfl sb_33_35_307 rfl (y_nilck rfl) rfl ?_
                            refine d_Tg 16 rfl rfl rfl rfl sb_33_35_308 rfl (y_fa fl_80_0 rfl) rfl ?_
                            refine d_ldt 17 rfl rfl rfl rfl sb_33_35_309 one_78 rfl (fun x hx => hx) m0 Nt.g0 rfl ?_
                            refine d_Tg 18 rfl rfl rfl rfl sb_33_35_310 rfl (y_move rfl) rfl ?_
                            refine d_Tg 19 rfl rfl rfl rfl sb_33_35_311 rfl (y_is sl_78 rfl rfl (by omega) (by omega)) rfl ?_
                            refine d_Tg 20 rfl rfl rfl rfl sb_33_35_312 rfl (y_fa fl_83_6 rfl) rfl ?_
                            refine d_ldt 21 rfl rfl rfl rfl sb_33_35_313 one_3 rfl (fun x hx => hx) (ms m0) ((Ed.l_peer hO5 k (by omega) (by omega)).trans (congrArg (fun z => some (Value.int .i64 z)) hpk)) rfl ?_
                            refine d_Tg 22 rfl rfl rfl rfl sb_33_35_314 rfl (y_is sl_78 rfl rfl (by omega) (by omega)) rfl ?_
                            refine d_Tg 23 rfl rfl rfl rfl sb_33_35_315 rfl (y_fa fl_83_12 rfl) rfl ?_
                            refine d_ldt 24 rfl rfl rfl rfl sb_33_35_316 one_4 rfl (fun x hx => hx) (ms m0) (Ed.l_closed hO5 p (by omega) (by omega)) rfl ?_
                            refine d_Tg 25 rfl rfl rfl rfl sb_33_35_317 rfl (y_not rfl) rfl ?_
                            refine d_T 26 rfl sb_33_35_318 rfl (y_pickF rfl rfl) rfl ?_
                            refine d_T 27 rfl sb_33_35_319 rfl (y_move rfl) rfl ?_
                            refine d_split 466 rfl (fun h127_1 => ?_) (fun h127_1 => ?_)
                            · try simp only [decide_eq_true_eq, decide_eq_false_iff_not, Bool.not_eq_true', Bool.not_eq_false', Int.not_lt, Int.not_le, Decidable.not_not, beq_iff_eq, bne_iff_ne, ne_eq, beq_eq_false_iff_ne] at h127_1
                              refine d_pass 28 rfl rfl rfl rfl rfl sb_33_35_320 (fun x hx => hx) rfl ?_
                              refine d_pass 29 rfl rfl rfl rfl rfl sb_33_35_321 (fun x hx => hx) rfl ?_
                              refine d_pass 30 rfl rfl rfl rfl rfl sb_33_35_322 (fun x hx => hx) rfl ?_
                              refine d_pass 31 rfl rfl rfl rfl rfl sb_33_35_323 (fun x hx => hx) rfl ?_
                              refine d_pass 32 rfl rfl rfl rfl rfl sb_33_35_324 (fun x hx => hx) rfl ?_
                              refine d_pass 33 rfl rfl rfl rfl rfl sb_33_35_325 (fun x hx => hx) rfl ?_
                              refine d_pass 34 rfl rfl rfl rfl rfl sb_33_35_326 (fun x hx => hx) rfl ?_
                              refine d_pass 35 rfl rfl rfl rfl rfl sb_33_35_327 (fun x hx => hx) rfl ?_
                              refine d_pass 36 rfl rfl rfl rfl rfl sb_33_35_328 (fun x hx => hx) rfl ?_
                              refine d_pass 37 rfl rfl rfl rfl rfl sb_33_35_329 (fun x hx => hx) rfl ?_
                              refine d_pass 38 rfl rfl rfl rfl rfl sb_33_35_330 (fun x hx => hx) rfl ?_
                              refine d_pass 39 rfl rfl rfl rfl rfl sb_33_35_331 (fun x hx => hx) rfl ?_
                              refine d_pass 40 rfl rfl rfl rfl rfl sb_33_35_332 (fun x hx => hx) rfl ?_
                              refine d_pass 41 rfl rfl rfl rfl rfl sb_33_35_333 (fun x hx => hx) rfl ?_
                              refine d_pass 42 rfl rfl rfl rfl rfl sb_33_35_334 (fun x hx => hx) rfl ?_
                              refine d_pass 43 rfl rfl rfl rfl rfl sb_33_35_335 (fun x hx => hx) rfl ?_
                              refine d_pass 44 rfl rfl rfl rfl rfl sb_33_35_336 (fun x hx => hx) rfl ?_
                              refine d_pass 45 rfl rfl rfl rfl rfl sb_33_35_337 (fun x hx => hx) rfl ?_
                              refine d_pass 46 rfl rfl rfl rfl rfl sb_33_35_338 (fun x hx => hx) rfl ?_
                              refine d_pass 47 rfl rfl rfl rfl rfl sb_33_35_339 (fun x hx => hx) rfl ?_
                              refine d_pass 48 rfl rfl rfl rfl rfl sb_33_35_340 (fun x hx => hx) rfl ?_
                              refine d_pass 49 rfl rfl rfl rfl rfl sb_33_35_341 (fun x hx => hx) rfl ?_
                              refine d_pass 50 rfl rfl rfl rfl rfl sb_33_35_342 (fun x hx => hx) rfl ?_
                              refine d_pass 51 rfl rfl rfl rfl rfl sb_33_35_343 (fun x hx => hx) rfl ?_
                              refine d_pass 52 rfl rfl rfl rfl rfl sb_33_35_344 (fun x hx => hx) rfl ?_
                              refine d_T 53 rfl sb_33_35_345 rfl (y_pickT rfl rfl) rfl ?_
                              first | exact absurd (hpc.symm.trans h127_1) (fun z => nomatch z) | (exfalso; omega)
                            · try simp only [decide_eq_true_eq, decide_eq_false_iff_not, Bool.not_eq_true', Bool.not_eq_false', Int.not_lt, Int.not_le, Decidable.not_not, beq_iff_eq, bne_iff_ne, ne_eq, beq_eq_false_iff_ne] at h127_1
                              refine d_Tg 28 rfl rfl rfl rfl sb_33_35_320 rfl (y_move rfl) rfl ?_
                              refine d_Tg 29 rfl rfl rfl rfl sb_33_35_321 rfl (y_nilck rfl) rfl ?_
                              refine d_Tg 30 rfl rfl rfl rfl sb_33_35_322 rfl (y_fa fl_80_0 rfl) rfl ?_
                              refine d_ldt 31 rfl rfl rfl rfl sb_33_35_323 one_78 rfl (fun x hx => hx) m0 Nt.g0 rfl ?_
                              refine d_Tg 32 rfl rfl rfl rfl sb_33_35_324 rfl (y_move rfl) rfl ?_
                              refine d_Tg 33 rfl rfl rfl rfl sb_33_35_325 rfl (y_is sl_78 rfl rfl (by omega) (by omega)) rfl ?_
                              refine d_Tg 34 rfl rfl rfl rfl sb_33_35_326 rfl (y_fa fl_83_9 rfl) rfl ?_
                              refine d_ldt 35 rfl rfl rfl rfl sb_33_35_327 one_3 rfl (fun x hx => hx) (ms m0) (Ed.l_offered hO5 k (by omega) (by omega)) rfl ?_
                              refine d_Tg 36 rfl rfl rfl rfl sb_33_35_328 rfl (y_move rfl) rfl ?_
                              refine d_Tg 37 rfl rfl rfl rfl sb_33_35_329 rfl (y_nilck rfl) rfl ?_
                              refine d_Tg 38 rfl rfl rfl rfl sb_33_35_330 rfl (y_fa fl_80_0 rfl) rfl ?_
                              refine d_ldt 39 rfl rfl rfl rfl sb_33_35_331 one_78 rfl (fun x hx => hx) m0 Nt.g0 rfl ?_
                              refine d_Tg 40 rfl rfl rfl rfl sb_33_35_332 rfl (y_move rfl) rfl ?_
                              refine d_Tg 41 rfl rfl rfl rfl sb_33_35_333 rfl (y_nilck rfl) rfl ?_
                              refine d_Tg 42 rfl rfl rfl rfl sb_33_35_334 rfl (y_fa fl_80_0 rfl) rfl ?_
                              refine d_ldt 43 rfl rfl rfl rfl sb_33_35_335 one_78 rfl (fun x hx => hx) m0 Nt.g0 rfl ?_
                              refine d_Tg 44 rfl rfl rfl rfl sb_33_35_336 rfl (y_move rfl) rfl ?_
                              refine d_Tg 45 rfl rfl rfl rfl sb_33_35_337 rfl (y_is sl_78 rfl rfl (by omega) (by omega)) rfl ?_
                              refine d_Tg 46 rfl rfl rfl rfl sb_33_35_338 rfl (y_fa fl_83_6 rfl) rfl ?_
                              refine d_ldt 47 rfl rfl rfl rfl sb_33_35_339 one_3 rfl (fun x hx => hx) (ms m0) ((Ed.l_peer hO5 k (by omega) (by omega)).trans (congrArg (fun z => some (Value.int .i64 z)) hpk)) rfl ?_
                              refine d_Tg 48 rfl rfl rfl rfl sb_33_35_340 rfl (y_is sl_78 rfl rfl (by omega) (by omega)) rfl ?_
                              refine d_Tg 49 rfl rfl rfl rfl sb_33_35_341 rfl (y_fa fl_83_7 rfl) rfl ?_
                              refine d_ldt 50 rfl rfl rfl rfl sb_33_35_342 one_81 rfl (fun x hx => hx) (ms m0) (hv6 _ (by omega)) rfl ?_
                              refine d_Tg 51 rfl rfl rfl rfl sb_33_35_343 rfl (y_len Tryz.underlying81 rfl) rfl ?_
                              refine d_Tg 52 rfl rfl rfl rfl sb_33_35_344 rfl (y_neq rfl rfl) rfl ?_
                              refine d_T 53 rfl sb_33_35_345 rfl (y_pickF rfl rfl) rfl ?_
                              refine d_split 492 rfl (fun h127_2 => ?_) (fun h127_2 => ?_)
                              · try simp only [decide_eq_true_eq, decide_eq_false_iff_not, Bool.not_eq_true', Bool.not_eq_false', Int.not_lt, Int.not_le, Decidable.not_not, beq_iff_eq, bne_iff_ne, ne_eq, beq_eq_false_iff_ne] at h127_2
                                first | exact absurd (hpc.symm.trans h127_2) (fun z => nomatch z) | (exfalso; omega)
                              · try simp only [decide_eq_true_eq, decide_eq_false_iff_not, Bool.not_eq_true', Bool.not_eq_false', Int.not_lt, Int.not_le, Decidable.not_not, beq_iff_eq, bne_iff_ne, ne_eq, beq_eq_false_iff_ne] at h127_2
                                refine d_nil1 492 sb_33_35_346 rfl rfl ?_
                                refine c_condF rfl ?_
                                refine c_skip ?_
                                refine c_region ?_
                                refine o_T (y_move rfl) rfl ?_
                                refine o_T (y_nilck rfl) rfl ?_
                                refine o_T (y_fa fl_80_0 rfl) rfl ?_
                                refine o_ld one_78 rfl m0 Nt.g0 rfl ?_
                                refine o_T (y_move rfl) rfl ?_
                                refine o_T (y_is sl_78 rfl rfl (by omega) (by omega)) rfl ?_
                                refine o_T (y_fa fl_83_13 rfl) rfl ?_
                                refine o_st one_4 rfl rfl rfl (rs r0) (set_at (o' := 0 + k * 16 + 13) (by omega)) (Ed.bnd hO5 k (by omega) 13 (by omega) (by omega)) ?_
                                have hS_6 := Ed.w_peerFin hO5 k (by omega) (o := 0 + k * 16 + 13) rfl true
                                rw [e6] at hS_6
                                refine o_nil0 rfl ?_
                                refine c_seq ?_
                                refine c_region ?_
                                refine o_L (y_assign rfl) rfl rfl ?_
                                refine o_nil0 rfl ?_
                                refine c_ret ?_
                                refine fun aX wX heX hsX => ret1 Tryz.results33 heX rfl (s_take (s_take (s_skip (s_take (s_take s_nil))))) ?_
                                have n6 := congrArg List.length e6
                                rw [List.length_set] at n6
                                exact ⟨_, _, _, rfl, lstE_of_open hS_6 (by omega), rfl⟩
                        · try simp only [decide_eq_true_eq, decide_eq_false_iff_not, Bool.not_eq_true', Bool.not_eq_false', Int.not_lt, Int.not_le, Decidable.not_not, beq_iff_eq, bne_iff_ne, ne_eq, beq_eq_false_iff_ne] at h126_1
                          refine c_skip ?_
                          refine c_seq ?_
                          refine c_region ?_
                          refine o_L (y_assign rfl) rfl rfl ?_
                          refine o_nil0 rfl ?_
                          refine c_ret ?_
                          refine fun aX wX heX hsX => ret1 Tryz.results33 heX rfl (s_take (s_take (s_skip (s_take (s_take s_nil))))) ?_
                          rw [B.nfin (by omega) (by rintro ⟨z1, z2⟩; first | exact Bool.noConfusion (h126_1.symm.trans z1) | exact Bool.noConfusion (h126_1.symm.trans z2))] at hO5 n5
                          exact ⟨_, _, _, rfl, lstE_of_open hO5 (by omega), rfl⟩
                      · try simp only [decide_eq_true_eq, decide_eq_false_iff_not, Bool.not_eq_true', Bool.not_eq_false', Int.not_lt, Int.not_le, Decidable.not_not, beq_iff_eq, bne_iff_ne, ne_eq, beq_eq_false_iff_ne] at h126
                        refine o_pass rfl rfl rfl rfl rfl ?_
                        refine o_pass rfl rfl rfl rfl rfl ?_
                        refine o_pass rfl rfl rfl rfl rfl ?_
                        refine o_pass rfl rfl rfl rfl rfl ?_
                        refine o_pass rfl rfl rfl rfl rfl ?_
                        refine o_pass rfl rfl rfl rfl rfl ?_
                        refine o_pass rfl rfl rfl rfl rfl ?_
                        refine o_pass rfl rfl rfl rfl rfl ?_
                        refine o_pass rfl rfl rfl rfl rfl ?_
                        refine o_T (y_pickF rfl rfl) rfl ?_
                        refine o_nil1 438 rfl rfl ?_
                        refine c_condF rfl ?_
                        refine c_skip ?_
                        refine c_seq ?_
                        refine c_region ?_
                        refine o_L (y_assign rfl) rfl rfl ?_
                        refine o_nil0 rfl ?_
                        refine c_ret ?_
                        refine fun aX wX heX hsX => ret1 Tryz.results33 heX rfl (s_take (s_take (s_skip (s_take (s_take s_nil))))) ?_
                        rw [B.nfin (by omega) (by rintro ⟨z1, z2⟩; first | exact Bool.noConfusion (h126.symm.trans z1) | exact Bool.noConfusion (h126.symm.trans z2))] at hO5 n5
                        exact ⟨_, _, _, rfl, lstE_of_open hO5 (by omega), rfl⟩

end Go.Proofs.Qxb6500351aGreat
