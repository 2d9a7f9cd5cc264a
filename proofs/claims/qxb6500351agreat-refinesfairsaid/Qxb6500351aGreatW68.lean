/- MADE BY PROGRAM (tools/gen.py over tools/specsw.py): walks. -/
import Derived.Test.Qxb6500351aGreatW68a
import Derived.Test.Qxb6500351aGreatW68b
import Derived.Test.Qxb6500351aGreatW68c
import Derived.Test.Qxb6500351aGreatW68d
import Derived.Test.Qxb6500351aGreatFacts
import Derived.Test.Qxb6500351aGreatMd19
import Derived.Test.Qxb6500351aGreatW66
set_option linter.unusedVariables false
set_option linter.unusedSimpArgs false
namespace Go.Proofs.Qxb6500351aGreat
open Go.Eng
set_option maxRecDepth 20000
set_option maxHeartbeats 4000000
/-- e2e/towerlaw.SameConn -/
theorem t75 (b1 b2 : Nat) (ci : Ci) : Trip Tryz.prog 75 #[.pointer (some ⟨b1, 0, none⟩), .pointer (some ⟨b2, 0, none⟩)] [[(b1, .cells ci.enc 95 (0, 0))], [(b2, .cells ci.enc 95 (0, 0))]] (fun u S' => u = .bool true ∧ S' = [[(b1, .cells ci.enc 95 (0, 0))], [(b2, .cells ci.enc 95 (0, 0))]]) := by
  refine fn_entry (args := [.pointer (some ⟨b1, 0, none⟩), .pointer (some ⟨b2, 0, none⟩)]) Tryz.func75 rfl Tryz.ntmps75 rfl (fun w0 => ?_)
  refine c_seq ?_
  refine c_region ?_
  refine o_L (y_assign rfl) rfl rfl ?_
  refine o_nil0 rfl ?_
  refine c_seq ?_
  refine c_seq ?_
  refine c_region ?_
  refine o_T (y_move rfl) rfl ?_
  refine o_T (y_ptr_nil Tryz.underlying67 rfl rfl) rfl ?_
  refine o_T (y_move rfl) rfl ?_
  refine o_split 7 rfl (fun h130 => ?_) (fun h130 => ?_)
  · try simp only [decide_eq_true_eq, decide_eq_false_iff_not, Bool.not_eq_true', Bool.not_eq_false', Int.not_lt, Int.not_le, Decidable.not_not, beq_iff_eq, bne_iff_ne, ne_eq, beq_eq_false_iff_ne, WA.wd] at h130
    first | exact absurd h130 (by decide) | exact absurd (h130 : false = true) Bool.false_ne_true | (simp at h130; done)
  · try simp only [decide_eq_true_eq, decide_eq_false_iff_not, Bool.not_eq_true', Bool.not_eq_false', Int.not_lt, Int.not_le, Decidable.not_not, beq_iff_eq, bne_iff_ne, ne_eq, beq_eq_false_iff_ne, WA.wd] at h130
    refine o_take rfl rfl rfl ?_
    refine o_T (y_move rfl) rfl ?_
    refine o_take rfl rfl rfl ?_
    refine o_T (y_ptr_nil Tryz.underlying67 rfl rfl) rfl ?_
    refine o_T (y_pickF rfl rfl) rfl ?_
    refine o_nil1 10 rfl rfl ?_
    refine c_cond rfl (fun h130_1 => ?_) (fun h130_1 => ?_)
    · try simp only [decide_eq_true_eq, decide_eq_false_iff_not, Bool.not_eq_true', Bool.not_eq_false', Int.not_lt, Int.not_le, Decidable.not_not, beq_iff_eq, bne_iff_ne, ne_eq, beq_eq_false_iff_ne, WA.wd] at h130_1
      first | exact absurd h130_1 (by decide) | exact absurd (h130_1 : false = true) Bool.false_ne_true | (simp at h130_1; done)
    · try simp only [decide_eq_true_eq, decide_eq_false_iff_not, Bool.not_eq_true', Bool.not_eq_false', Int.not_lt, Int.not_le, Decidable.not_not, beq_iff_eq, bne_iff_ne, ne_eq, beq_eq_false_iff_ne, WA.wd] at h130_1
      refine c_skip ?_
      refine c_seq ?_
      refine c_seq ?_
      refine c_draw #[true, true, true, true, true, true, true, true, true, true, true, true, true, true, true, true, true, true, true, true, true, true, true, true, true, true, true, true, true, true, true, true, true, true, true, true, true, true, true, true, true, true, true, true, true, true, true, true, true, true, true, true, true, true, true, true, true, true, true, true, true, true, true, true] rfl (n := 64) rfl ?_
      refine d_T 0 rfl sb_75_3_0 rfl (y_move rfl) rfl ?_
      refine d_T 1 rfl sb_75_3_1 rfl (y_nilck rfl) rfl ?_
      refine d_T 2 rfl sb_75_3_2 rfl (y_fa fl_95_0 rfl) rfl ?_
      refine d_ld 3 rfl sb_75_3_3 one_3 rfl (fun x hx => hx) m0 Ci.g0 rfl ?_
      refine d_T 4 rfl sb_75_3_4 rfl (y_move rfl) rfl ?_
      refine d_T 5 rfl sb_75_3_5 rfl (y_nilck rfl) rfl ?_
      refine d_T 6 rfl sb_75_3_6 rfl (y_fa fl_95_0 rfl) rfl ?_
      refine d_ld 7 rfl sb_75_3_7 one_3 rfl (fun x hx => hx) (ms m0) Ci.g0 rfl ?_
      refine d_T 8 rfl sb_75_3_8 rfl (y_neq rfl rfl) rfl ?_
      refine d_T 9 rfl sb_75_3_9 rfl (y_move rfl) rfl ?_
      refine d_split 26 rfl (fun h133 => ?_) (fun h133 => ?_)
      · try simp only [decide_eq_true_eq, decide_eq_false_iff_not, Bool.not_eq_true', Bool.not_eq_false', Int.not_lt, Int.not_le, Decidable.not_not, beq_iff_eq, bne_iff_ne, ne_eq, beq_eq_false_iff_ne, WA.wd] at h133
        exact absurd h133 (by simp)
      · try simp only [decide_eq_true_eq, decide_eq_false_iff_not, Bool.not_eq_true', Bool.not_eq_false', Int.not_lt, Int.not_le, Decidable.not_not, beq_iff_eq, bne_iff_ne, ne_eq, beq_eq_false_iff_ne, WA.wd] at h133
        refine d_Tg 10 rfl rfl rfl rfl sb_75_3_10 rfl (y_move rfl) rfl ?_
        refine d_Tg 11 rfl rfl rfl rfl sb_75_3_11 rfl (y_nilck rfl) rfl ?_
        refine d_Tg 12 rfl rfl rfl rfl sb_75_3_12 rfl (y_fa fl_95_1 rfl) rfl ?_
        refine d_ldt 13 rfl rfl rfl rfl sb_75_3_13 one_70 rfl (fun x hx => hx) m0 Ci.g1 rfl ?_
        refine d_Tg 14 rfl rfl rfl rfl sb_75_3_14 rfl (y_move rfl) rfl ?_
        refine d_Tg 15 rfl rfl rfl rfl sb_75_3_15 rfl (y_nilck rfl) rfl ?_
        refine d_Tg 16 rfl rfl rfl rfl sb_75_3_16 rfl (y_fa fl_95_1 rfl) rfl ?_
        refine d_ldt 17 rfl rfl rfl rfl sb_75_3_17 one_70 rfl (fun x hx => hx) (ms m0) Ci.g1 rfl ?_
        refine d_Tg 18 rfl rfl rfl rfl sb_75_3_18 rfl (y_neq rfl rfl) rfl ?_
        refine d_T 19 rfl sb_75_3_19 rfl (y_pickF rfl rfl) rfl ?_
        refine d_T 20 rfl sb_75_3_20 rfl (y_move rfl) rfl ?_
        refine d_split 37 rfl (fun h133_1 => ?_) (fun h133_1 => ?_)
        · try simp only [decide_eq_true_eq, decide_eq_false_iff_not, Bool.not_eq_true', Bool.not_eq_false', Int.not_lt, Int.not_le, Decidable.not_not, beq_iff_eq, bne_iff_ne, ne_eq, beq_eq_false_iff_ne, WA.wd] at h133_1
          exact absurd h133_1 (by simp)
        · try simp only [decide_eq_true_eq, decide_eq_false_iff_not, Bool.not_eq_true', Bool.not_eq_false', Int.not_lt, Int.not_le, Decidable.not_not, beq_iff_eq, bne_iff_ne, ne_eq, beq_eq_false_iff_ne, WA.wd] at h133_1
          refine d_Tg 21 rfl rfl rfl rfl sb_75_3_21 rfl (y_move rfl) rfl ?_
          refine d_Tg 22 rfl rfl rfl rfl sb_75_3_22 rfl (y_nilck rfl) rfl ?_
          refine d_Tg 23 rfl rfl rfl rfl sb_75_3_23 rfl (y_fa fl_95_2 rfl) rfl ?_
          refine d_ldt 24 rfl rfl rfl rfl sb_75_3_24 one_4 rfl (fun x hx => hx) m0 Ci.g2 rfl ?_
          refine d_Tg 25 rfl rfl rfl rfl sb_75_3_25 rfl (y_move rfl) rfl ?_
          refine d_Tg 26 rfl rfl rfl rfl sb_75_3_26 rfl (y_nilck rfl) rfl ?_
          refine d_Tg 27 rfl rfl rfl rfl sb_75_3_27 rfl (y_fa fl_95_2 rfl) rfl ?_
          refine d_ldt 28 rfl rfl rfl rfl sb_75_3_28 one_4 rfl (fun x hx => hx) (ms m0) Ci.g2 rfl ?_
          refine d_Tg 29 rfl rfl rfl rfl sb_75_3_29 rfl (y_bne Tryz.underlying4 rfl rfl) rfl ?_
          refine d_T 30 rfl sb_75_3_30 rfl (y_pickF rfl rfl) rfl ?_
          refine d_T 31 rfl sb_75_3_31 rfl (y_move rfl) rfl ?_
          refine d_split 48 rfl (fun h133_2 => ?_) (fun h133_2 => ?_)
          · try simp only [decide_eq_true_eq, decide_eq_false_iff_not, Bool.not_eq_true', Bool.not_eq_false', Int.not_lt, Int.not_le, Decidable.not_not, beq_iff_eq, bne_iff_ne, ne_eq, beq_eq_false_iff_ne, WA.wd] at h133_2
            exact absurd h133_2 (by simp)
          · try simp only [decide_eq_true_eq, decide_eq_false_iff_not, Bool.not_eq_true', Bool.not_eq_false', Int.not_lt, Int.not_le, Decidable.not_not, beq_iff_eq, bne_iff_ne, ne_eq, beq_eq_false_iff_ne, WA.wd] at h133_2
            refine d_Tg 32 rfl rfl rfl rfl sb_75_3_32 rfl (y_move rfl) rfl ?_
            refine d_Tg 33 rfl rfl rfl rfl sb_75_3_33 rfl (y_nilck rfl) rfl ?_
            refine d_Tg 34 rfl rfl rfl rfl sb_75_3_34 rfl (y_fa fl_95_3 rfl) rfl ?_
            refine d_ldt 35 rfl rfl rfl rfl sb_75_3_35 one_4 rfl (fun x hx => hx) m0 Ci.g3 rfl ?_
            refine d_Tg 36 rfl rfl rfl rfl sb_75_3_36 rfl (y_move rfl) rfl ?_
            refine d_Tg 37 rfl rfl rfl rfl sb_75_3_37 rfl (y_nilck rfl) rfl ?_
            refine d_Tg 38 rfl rfl rfl rfl sb_75_3_38 rfl (y_fa fl_95_3 rfl) rfl ?_
            refine d_ldt 39 rfl rfl rfl rfl sb_75_3_39 one_4 rfl (fun x hx => hx) (ms m0) Ci.g3 rfl ?_
            refine d_Tg 40 rfl rfl rfl rfl sb_75_3_40 rfl (y_bne Tryz.underlying4 rfl rfl) rfl ?_
            refine d_T 41 rfl sb_75_3_41 rfl (y_pickF rfl rfl) rfl ?_
            refine d_T 42 rfl sb_75_3_42 rfl (y_move rfl) rfl ?_
            refine d_split 59 rfl (fun h133_3 => ?_) (fun h133_3 => ?_)
            · try simp only [decide_eq_true_eq, decide_eq_false_iff_not, Bool.not_eq_true', Bool.not_eq_false', Int.not_lt, Int.not_le, Decidable.not_not, beq_iff_eq, bne_iff_ne, ne_eq, beq_eq_false_iff_ne, WA.wd] at h133_3
              exact absurd h133_3 (by simp)
            · try simp only [decide_eq_true_eq, decide_eq_false_iff_not, Bool.not_eq_true', Bool.not_eq_false', Int.not_lt, Int.not_le, Decidable.not_not, beq_iff_eq, bne_iff_ne, ne_eq, beq_eq_false_iff_ne, WA.wd] at h133_3
              refine d_Tg 43 rfl rfl rfl rfl sb_75_3_43 rfl (y_move rfl) rfl ?_
              refine d_Tg 44 rfl rfl rfl rfl sb_75_3_44 rfl (y_nilck rfl) rfl ?_
              refine d_Tg 45 rfl rfl rfl rfl sb_75_3_45 rfl (y_fa fl_95_4 rfl) rfl ?_
              refine d_ldt 46 rfl rfl rfl rfl sb_75_3_46 one_4 rfl (fun x hx => hx) m0 Ci.g4 rfl ?_
              refine d_Tg 47 rfl rfl rfl rfl sb_75_3_47 rfl (y_move rfl) rfl ?_
              refine d_Tg 48 rfl rfl rfl rfl sb_75_3_48 rfl (y_nilck rfl) rfl ?_
              refine d_Tg 49 rfl rfl rfl rfl sb_75_3_49 rfl (y_fa fl_95_4 rfl) rfl ?_
              refine d_ldt 50 rfl rfl rfl rfl sb_75_3_50 one_4 rfl (fun x hx => hx) (ms m0) Ci.g4 rfl ?_
              refine d_Tg 51 rfl rfl rfl rfl sb_75_3_51 rfl (y_bne Tryz.underlying4 rfl rfl) rfl ?_
              refine d_T 52 rfl sb_75_3_52 rfl (y_pickF rfl rfl) rfl ?_
              refine d_T 53 rfl sb_75_3_53 rfl (y_move rfl) rfl ?_
              refine d_split 70 rfl (fun h133_4 => ?_) (fun h133_4 => ?_)
              · try simp only [decide_eq_true_eq, decide_eq_false_iff_not, Bool.not_eq_true', Bool.not_eq_false', Int.not_lt, Int.not_le, Decidable.not_not, beq_iff_eq, bne_iff_ne, ne_eq, beq_eq_false_iff_ne, WA.wd] at h133_4
                exact absurd h133_4 (by simp)
              · try simp only [decide_eq_true_eq, decide_eq_false_iff_not, Bool.not_eq_true', Bool.not_eq_false', Int.not_lt, Int.not_le, Decidable.not_not, beq_iff_eq, bne_iff_ne, ne_eq, beq_eq_false_iff_ne, WA.wd] at h133_4
                refine d_Tg 54 rfl rfl rfl rfl sb_75_3_54 rfl (y_move rfl) rfl ?_
                refine d_Tg 55 rfl rfl rfl rfl sb_75_3_55 rfl (y_nilck rfl) rfl ?_
                refine d_Tg 56 rfl rfl rfl rfl sb_75_3_56 rfl (y_fa fl_95_5 rfl) rfl ?_
                refine d_ldt 57 rfl rfl rfl rfl sb_75_3_57 one_4 rfl (fun x hx => hx) m0 Ci.g5 rfl ?_
                refine d_Tg 58 rfl rfl rfl rfl sb_75_3_58 rfl (y_move rfl) rfl ?_
                refine d_Tg 59 rfl rfl rfl rfl sb_75_3_59 rfl (y_nilck rfl) rfl ?_
                refine d_Tg 60 rfl rfl rfl rfl sb_75_3_60 rfl (y_fa fl_95_5 rfl) rfl ?_
                refine d_ldt 61 rfl rfl rfl rfl sb_75_3_61 one_4 rfl (fun x hx => hx) (ms m0) Ci.g5 rfl ?_
                refine d_Tg 62 rfl rfl rfl rfl sb_75_3_62 rfl (y_bne Tryz.underlying4 rfl rfl) rfl ?_
                refine d_T 63 rfl sb_75_3_63 rfl (y_pickF rfl rfl) rfl ?_
                refine d_nil1 80 sb_75_3_64 rfl rfl ?_
                refine c_cond rfl (fun h133_5 => ?_) (fun h133_5 => ?_)
                · try simp only [decide_eq_true_eq, decide_eq_false_iff_not, Bool.not_eq_true', Bool.not_eq_false', Int.not_lt, Int.not_le, Decidable.not_not, beq_iff_eq, bne_iff_ne, ne_eq, beq_eq_false_iff_ne, WA.wd] at h133_5
                  exact absurd h133_5 (by simp)
                · try simp only [decide_eq_true_eq, decide_eq_false_iff_not, Bool.not_eq_true', Bool.not_eq_false', Int.not_lt, Int.not_le, Decidable.not_not, beq_iff_eq, bne_iff_ne, ne_eq, beq_eq_false_iff_ne, WA.wd] at h133_5
                  refine c_skip ?_
                  refine c_seq ?_
                  refine c_seq ?_
                  refine c_draw #[true, true, true, true, true, true, true, true, true, true, true, true, true, true, true, true, true, true, true, true, true, true, true, true, true, true, true, true, true, true, true, true, true, true, true, true, true, true, true, true, true, true] rfl (n := 42) rfl ?_
                  refine d_T 0 rfl sb_75_5_65 rfl (y_move rfl) rfl ?_
                  refine d_T 1 rfl sb_75_5_66 rfl (y_nilck rfl) rfl ?_
                  refine d_T 2 rfl sb_75_5_67 rfl (y_fa fl_95_6 rfl) rfl ?_
                  refine d_ld 3 rfl sb_75_5_68 one_3 rfl (fun x hx => hx) m0 Ci.g6 rfl ?_
                  refine d_T 4 rfl sb_75_5_69 rfl (y_move rfl) rfl ?_
                  refine d_T 5 rfl sb_75_5_70 rfl (y_nilck rfl) rfl ?_
                  refine d_T 6 rfl sb_75_5_71 rfl (y_fa fl_95_6 rfl) rfl ?_
                  refine d_ld 7 rfl sb_75_5_72 one_3 rfl (fun x hx => hx) (ms m0) Ci.g6 rfl ?_
                  refine d_T 8 rfl sb_75_5_73 rfl (y_neq rfl rfl) rfl ?_
                  refine d_T 9 rfl sb_75_5_74 rfl (y_move rfl) rfl ?_
                  refine d_split 90 rfl (fun h136 => ?_) (fun h136 => ?_)
                  · try simp only [decide_eq_true_eq, decide_eq_false_iff_not, Bool.not_eq_true', Bool.not_eq_false', Int.not_lt, Int.not_le, Decidable.not_not, beq_iff_eq, bne_iff_ne, ne_eq, beq_eq_false_iff_ne, WA.wd] at h136
                    exact absurd h136 (by simp)
                  · try simp only [decide_eq_true_eq, decide_eq_false_iff_not, Bool.not_eq_true', Bool.not_eq_false', Int.not_lt, Int.not_le, Decidable.not_not, beq_iff_eq, bne_iff_ne, ne_eq, beq_eq_false_iff_ne, WA.wd] at h136
                    refine d_Tg 10 rfl rfl rfl rfl sb_75_5_75 rfl (y_move rfl) rfl ?_
                    refine d_Tg 11 rfl rfl rfl rfl sb_75_5_76 rfl (y_nilck rfl) rfl ?_
                    refine d_Tg 12 rfl rfl rfl rfl sb_75_5_77 rfl (y_fa fl_95_7 rfl) rfl ?_
                    refine d_ldt 13 rfl rfl rfl rfl sb_75_5_78 one_3 rfl (fun x hx => hx) m0 Ci.g7 rfl ?_
                    refine d_Tg 14 rfl rfl rfl rfl sb_75_5_79 rfl (y_move rfl) rfl ?_
                    refine d_Tg 15 rfl rfl rfl rfl sb_75_5_80 rfl (y_nilck rfl) rfl ?_
                    refine d_Tg 16 rfl rfl rfl rfl sb_75_5_81 rfl (y_fa fl_95_7 rfl) rfl ?_
                    refine d_ldt 17 rfl rfl rfl rfl sb_75_5_82 one_3 rfl (fun x hx => hx) (ms m0) Ci.g7 rfl ?_
                    refine d_Tg 18 rfl rfl rfl rfl sb_75_5_83 rfl (y_neq rfl rfl) rfl ?_
                    refine d_T 19 rfl sb_75_5_84 rfl (y_pickF rfl rfl) rfl ?_
                    refine d_T 20 rfl sb_75_5_85 rfl (y_move rfl) rfl ?_
                    refine d_split 101 rfl (fun h136_1 => ?_) (fun h136_1 => ?_)
                    · try simp only [decide_eq_true_eq, decide_eq_false_iff_not, Bool.not_eq_true', Bool.not_eq_false', Int.not_lt, Int.not_le, Decidable.not_not, beq_iff_eq, bne_iff_ne, ne_eq, beq_eq_false_iff_ne, WA.wd] at h136_1
                      exact absurd h136_1 (by simp)
                    · try simp only [decide_eq_true_eq, decide_eq_false_iff_not, Bool.not_eq_true', Bool.not_eq_false', Int.not_lt, Int.not_le, Decidable.not_not, beq_iff_eq, bne_iff_ne, ne_eq, beq_eq_false_iff_ne, WA.wd] at h136_1
                      refine d_Tg 21 rfl rfl rfl rfl sb_75_5_86 rfl (y_move rfl) rfl ?_
                      refine d_Tg 22 rfl rfl rfl rfl sb_75_5_87 rfl (y_nilck rfl) rfl ?_
                      refine d_Tg 23 rfl rfl rfl rfl sb_75_5_88 rfl (y_fa fl_95_8 rfl) rfl ?_
                      refine d_ldt 24 rfl rfl rfl rfl sb_75_5_89 one_3 rfl (fun x hx => hx) m0 Ci.g8 rfl ?_
                      refine d_Tg 25 rfl rfl rfl rfl sb_75_5_90 rfl (y_move rfl) rfl ?_
                      refine d_Tg 26 rfl rfl rfl rfl sb_75_5_91 rfl (y_nilck rfl) rfl ?_
                      refine d_Tg 27 rfl rfl rfl rfl sb_75_5_92 rfl (y_fa fl_95_8 rfl) rfl ?_
                      refine d_ldt 28 rfl rfl rfl rfl sb_75_5_93 one_3 rfl (fun x hx => hx) (ms m0) Ci.g8 rfl ?_
                      refine d_Tg 29 rfl rfl rfl rfl sb_75_5_94 rfl (y_neq rfl rfl) rfl ?_
                      refine d_T 30 rfl sb_75_5_95 rfl (y_pickF rfl rfl) rfl ?_
                      refine d_T 31 rfl sb_75_5_96 rfl (y_move rfl) rfl ?_
                      refine d_split 112 rfl (fun h136_2 => ?_) (fun h136_2 => ?_)
                      · try simp only [decide_eq_true_eq, decide_eq_false_iff_not, Bool.not_eq_true', Bool.not_eq_false', Int.not_lt, Int.not_le, Decidable.not_not, beq_iff_eq, bne_iff_ne, ne_eq, beq_eq_false_iff_ne, WA.wd] at h136_2
                        exact absurd h136_2 (by simp)
                      · try simp only [decide_eq_true_eq, decide_eq_false_iff_not, Bool.not_eq_true', Bool.not_eq_false', Int.not_lt, Int.not_le, Decidable.not_not, beq_iff_eq, bne_iff_ne, ne_eq, beq_eq_false_iff_ne, WA.wd] at h136_2
                        refine d_Tg 32 rfl rfl rfl rfl sb_75_5_97 rfl (y_move rfl) rfl ?_
                        refine d_Tg 33 rfl rfl rfl rfl sb_75_5_98 rfl (y_nilck rfl) rfl ?_
                        refine d_Tg 34 rfl rfl rfl rfl sb_75_5_99 rfl (y_fa fl_95_13 rfl) rfl ?_
                        refine d_ldt 35 rfl rfl rfl rfl sb_75_5_100 one_3 rfl (fun x hx => hx) m0 Ci.g13 rfl ?_
                        refine d_Tg 36 rfl rfl rfl rfl sb_75_5_101 rfl (y_move rfl) rfl ?_
                        refine d_Tg 37 rfl rfl rfl rfl sb_75_5_102 rfl (y_nilck rfl) rfl ?_
                        refine d_Tg 38 rfl rfl rfl rfl sb_75_5_103 rfl (y_fa fl_95_13 rfl) rfl ?_
                        refine d_ldt 39 rfl rfl rfl rfl sb_75_5_104 one_3 rfl (fun x hx => hx) (ms m0) Ci.g13 rfl ?_
                        refine d_Tg 40 rfl rfl rfl rfl sb_75_5_105 rfl (y_neq rfl rfl) rfl ?_
                        refine d_T 41 rfl sb_75_5_106 rfl (y_pickF rfl rfl) rfl ?_
                        refine d_nil1 122 sb_75_5_107 rfl rfl ?_
                        refine c_cond rfl (fun h136_3 => ?_) (fun h136_3 => ?_)
                        · try simp only [decide_eq_true_eq, decide_eq_false_iff_not, Bool.not_eq_true', Bool.not_eq_false', Int.not_lt, Int.not_le, Decidable.not_not, beq_iff_eq, bne_iff_ne, ne_eq, beq_eq_false_iff_ne, WA.wd] at h136_3
                          exact absurd h136_3 (by simp)
                        · try simp only [decide_eq_true_eq, decide_eq_false_iff_not, Bool.not_eq_true', Bool.not_eq_false', Int.not_lt, Int.not_le, Decidable.not_not, beq_iff_eq, bne_iff_ne, ne_eq, beq_eq_false_iff_ne, WA.wd] at h136_3
                          refine c_skip ?_
                          refine c_seq ?_
                          refine c_seq ?_
                          refine c_draw #[true, true, true, true, true, true, true, true, true, true, true, true, true, true, true, true, true, true, true, true, true, true, true, true, true, true, true, true, true, true, true, true, true, true, true, true, true, true, true, true, true, true] rfl (n := 42) rfl ?_
                          refine d_T 0 rfl sb_75_7_108 rfl (y_move rfl) rfl ?_
                          refine d_T 1 rfl sb_75_7_109 rfl (y_nilck rfl) rfl ?_
                          refine d_T 2 rfl sb_75_7_110 rfl (y_fa fl_95_9 rfl) rfl ?_
                          refine d_ld 3 rfl sb_75_7_111 one_3 rfl (fun x hx => hx) m0 Ci.g9 rfl ?_
                          refine d_T 4 rfl sb_75_7_112 rfl (y_move rfl) rfl ?_
                          refine d_T 5 rfl sb_75_7_113 rfl (y_nilck rfl) rfl ?_
                          refine d_T 6 rfl sb_75_7_114 rfl (y_fa fl_95_9 rfl) rfl ?_
                          refine d_ld 7 rfl sb_75_7_115 one_3 rfl (fun x hx => hx) (ms m0) Ci.g9 rfl ?_
                          refine d_T 8 rfl sb_75_7_116 rfl (y_neq rfl rfl) rfl ?_
                          refine d_T 9 rfl sb_75_7_117 rfl (y_move rfl) rfl ?_
                          refine d_split 132 rfl (fun h139 => ?_) (fun h139 => ?_)
                          · try simp only [decide_eq_true_eq, decide_eq_false_iff_not, Bool.not_eq_true', Bool.not_eq_false', Int.not_lt, Int.not_le, Decidable.not_not, beq_iff_eq, bne_iff_ne, ne_eq, beq_eq_false_iff_ne, WA.wd] at h139
                            exact absurd h139 (by simp)
                          · try simp only [decide_eq_true_eq, decide_eq_false_iff_not, Bool.not_eq_true', Bool.not_eq_false', Int.not_lt, Int.not_le, Decidable.not_not, beq_iff_eq, bne_iff_ne, ne_eq, beq_eq_false_iff_ne, WA.wd] at h139
                            refine d_Tg 10 rfl rfl rfl rfl sb_75_7_118 rfl (y_move rfl) rfl ?_
                            refine d_Tg 11 rfl rfl rfl rfl sb_75_7_119 rfl (y_nilck rfl) rfl ?_
                            refine d_Tg 12 rfl rfl rfl rfl sb_75_7_120 rfl (y_fa fl_95_10 rfl) rfl ?_
                            refine d_ldt 13 rfl rfl rfl rfl sb_75_7_121 one_3 rfl (fun x hx => hx) m0 Ci.g10 rfl ?_
                            refine d_Tg 14 rfl rfl rfl rfl sb_75_7_122 rfl (y_move rfl) rfl ?_
                            refine d_Tg 15 rfl rfl rfl rfl sb_75_7_123 rfl (y_nilck rfl) rfl ?_
                            refine d_Tg 16 rfl rfl rfl rfl sb_75_7_124 rfl (y_fa fl_95_10 rfl) rfl ?_
                            refine d_ldt 17 rfl rfl rfl rfl sb_75_7_125 one_3 rfl (fun x hx => hx) (ms m0) Ci.g10 rfl ?_
                            refine d_Tg 18 rfl rfl rfl rfl sb_75_7_126 rfl (y_neq rfl rfl) rfl ?_
                            refine d_T 19 rfl sb_75_7_127 rfl (y_pickF rfl rfl) rfl ?_
                            refine d_T 20 rfl sb_75_7_128 rfl (y_move rfl) rfl ?_
                            refine d_split 143 rfl (fun h139_1 => ?_) (fun h139_1 => ?_)
                            · try simp only [decide_eq_true_eq, decide_eq_false_iff_not, Bool.not_eq_true', Bool.not_eq_false', Int.not_lt, Int.not_le, Decidable.not_not, beq_iff_eq, bne_iff_ne, ne_eq, beq_eq_false_iff_ne, WA.wd] at h139_1
                              exact absurd h139_1 (by simp)
                            · try simp only [decide_eq_true_eq, decide_eq_false_iff_not, Bool.not_eq_true', Bool.not_eq_false', Int.not_lt, Int.not_le, Decidable.not_not, beq_iff_eq, bne_iff_ne, ne_eq, beq_eq_false_iff_ne, WA.wd] at h139_1
                              refine d_Tg 21 rfl rfl rfl rfl sb_75_7_129 rfl (y_move rfl) rfl ?_
                              refine d_Tg 22 rfl rfl rfl rfl sb_75_7_130 rfl (y_nilck rfl) rfl ?_
                              refine d_Tg 23 rfl rfl rfl rfl sb_75_7_131 rfl (y_fa fl_95_11 rfl) rfl ?_
                              refine d_ldt 24 rfl rfl rfl rfl sb_75_7_132 one_3 rfl (fun x hx => hx) m0 Ci.g11 rfl ?_
                              refine d_Tg 25 rfl rfl rfl rfl sb_75_7_133 rfl (y_move rfl) rfl ?_
                              refine d_Tg 26 rfl rfl rfl rfl sb_75_7_134 rfl (y_nilck rfl) rfl ?_
                              refine d_Tg 27 rfl rfl rfl rfl sb_75_7_135 rfl (y_fa fl_95_11 rfl) rfl ?_
                              refine d_ldt 28 rfl rfl rfl rfl sb_75_7_136 one_3 rfl (fun x hx => hx) (ms m0) Ci.g11 rfl ?_
                              refine d_Tg 29 rfl rfl rfl rfl sb_75_7_137 rfl (y_neq rfl rfl) rfl ?_
                              refine d_T 30 rfl sb_75_7_138 rfl (y_pickF rfl rfl) rfl ?_
                              refine d_T 31 rfl sb_75_7_139 rfl (y_move rfl) rfl ?_
                              refine d_split 154 rfl (fun h139_2 => ?_) (fun h139_2 => ?_)
                              · try simp only [decide_eq_true_eq, decide_eq_false_iff_not, Bool.not_eq_true', Bool.not_eq_false', Int.not_lt, Int.not_le, Decidable.not_not, beq_iff_eq, bne_iff_ne, ne_eq, beq_eq_false_iff_ne, WA.wd] at h139_2
                                exact absurd h139_2 (by simp)
                              · try simp only [decide_eq_true_eq, decide_eq_false_iff_not, Bool.not_eq_true', Bool.not_eq_false', Int.not_lt, Int.not_le, Decidable.not_not, beq_iff_eq, bne_iff_ne, ne_eq, beq_eq_false_iff_ne, WA.wd] at h139_2
                                refine d_Tg 32 rfl rfl rfl rfl sb_75_7_140 rfl (y_move rfl) rfl ?_
                                refine d_Tg 33 rfl rfl rfl rfl sb_75_7_141 rfl (y_nilck rfl) rfl ?_
                                refine d_Tg 34 rfl rfl rfl rfl sb_75_7_142 rfl (y_fa fl_95_12 rfl) rfl ?_
                                refine d_ldt 35 rfl rfl rfl rfl sb_75_7_143 one_3 rfl (fun x hx => hx) m0 Ci.g12 rfl ?_
                                refine d_Tg 36 rfl rfl rfl rfl sb_75_7_144 rfl (y_move rfl) rfl ?_
                                refine d_Tg 37 rfl rfl rfl rfl sb_75_7_145 rfl (y_nilck rfl) rfl ?_
                                refine d_Tg 38 rfl rfl rfl rfl sb_75_7_146 rfl (y_fa fl_95_12 rfl) rfl ?_
                                refine d_ldt 39 rfl rfl rfl rfl sb_75_7_147 one_3 rfl (fun x hx => hx) (ms m0) Ci.g12 rfl ?_
                                refine d_Tg 40 rfl rfl rfl rfl sb_75_7_148 rfl (y_neq rfl rfl) rfl ?_
                                refine d_T 41 rfl sb_75_7_149 rfl (y_pickF rfl rfl) rfl ?_
                                refine d_nil1 164 sb_75_7_150 rfl rfl ?_
                                refine c_cond rfl (fun h139_3 => ?_) (fun h139_3 => ?_)
                                · try simp only [decide_eq_true_eq, decide_eq_false_iff_not, Bool.not_eq_true', Bool.not_eq_false', Int.not_lt, Int.not_le, Decidable.not_not, beq_iff_eq, bne_iff_ne, ne_eq, beq_eq_false_iff_ne, WA.wd] at h139_3
                                  exact absurd h139_3 (by simp)
                                · try simp only [decide_eq_true_eq, decide_eq_false_iff_not, Bool.not_eq_true', Bool.not_eq_false', Int.not_lt, Int.not_le, Decidable.not_not, beq_iff_eq, bne_iff_ne, ne_eq, beq_eq_false_iff_ne, WA.wd] at h139_3
                                  refine c_skip ?_
                                  refine c_seq ?_
                                  refine c_draw #[true, true, true, true, true, true, true, true, true, true, true, true, true, true, true, true, true, true, true, true, true, true, true, true, true, true, true, true, true, true, true, true, true, true, true, true, true, true, true, true, true, true, true] rfl (n := 43) rfl ?_
                                  refine d_T 0 rfl sb_75_9_151 rfl (y_move rfl) rfl ?_
                                  refine d_T 1 rfl sb_75_9_152 rfl (y_nilck rfl) rfl ?_
                                  refine d_T 2 rfl sb_75_9_153 rfl (y_fa fl_95_14 rfl) rfl ?_
                                  refine d_ld 3 rfl sb_75_9_154 one_3 rfl (fun x hx => hx) m0 Ci.g14 rfl ?_
                                  refine d_T 4 rfl sb_75_9_155 rfl (y_move rfl) rfl ?_
                                  refine d_T 5 rfl sb_75_9_156 rfl (y_nilck rfl) rfl ?_
                                  refine d_T 6 rfl sb_75_9_157 rfl (y_fa fl_95_14 rfl) rfl ?_
                                  refine d_ld 7 rfl sb_75_9_158 one_3 rfl (fun x hx => hx) (ms m0) Ci.g14 rfl ?_
                                  refine d_T 8 rfl sb_75_9_159 rfl (y_eql rfl rfl) rfl ?_
                                  refine d_T 9 rfl sb_75_9_160 rfl (y_move rfl) rfl ?_
                                  refine d_split 174 rfl (fun h142 => ?_) (fun h142 => ?_)
                                  · try simp only [decide_eq_true_eq, decide_eq_false_iff_not, Bool.not_eq_true', Bool.not_eq_false', Int.not_lt, Int.not_le, Decidable.not_not, beq_iff_eq, bne_iff_ne, ne_eq, beq_eq_false_iff_ne, WA.wd] at h142
                                    refine d_Tg 10 rfl rfl rfl rfl sb_75_9_161 rfl (y_move rfl) rfl ?_
                                    refine d_Tg 11 rfl rfl rfl rfl sb_75_9_162 rfl (y_nilck rfl) rfl ?_
                                    refine d_Tg 12 rfl rfl rfl rfl sb_75_9_163 rfl (y_fa fl_95_15 rfl) rfl ?_
                                    refine d_ldt 13 rfl rfl rfl rfl sb_75_9_164 one_3 rfl (fun x hx => hx) m0 Ci.g15 rfl ?_
                                    refine d_Tg 14 rfl rfl rfl rfl sb_75_9_165 rfl (y_move rfl) rfl ?_
                                    refine d_Tg 15 rfl rfl rfl rfl sb_75_9_166 rfl (y_nilck rfl) rfl ?_
                                    refine d_Tg 16 rfl rfl rfl rfl sb_75_9_167 rfl (y_fa fl_95_15 rfl) rfl ?_
                                    refine d_ldt 17 rfl rfl rfl rfl sb_75_9_168 one_3 rfl (fun x hx => hx) (ms m0) Ci.g15 rfl ?_
                                    refine d_Tg 18 rfl rfl rfl rfl sb_75_9_169 rfl (y_eql rfl rfl) rfl ?_
                                    refine d_T 19 rfl sb_75_9_170 rfl (y_pickT rfl rfl) rfl ?_
                                    refine d_T 20 rfl sb_75_9_171 rfl (y_move rfl) rfl ?_
                                    refine d_split 185 rfl (fun h142_1 => ?_) (fun h142_1 => ?_)
                                    · try simp only [decide_eq_true_eq, decide_eq_false_iff_not, Bool.not_eq_true', Bool.not_eq_false', Int.not_lt, Int.not_le, Decidable.not_not, beq_iff_eq, bne_iff_ne, ne_eq, beq_eq_false_iff_ne, WA.wd] at h142_1
                                      refine d_Tg 21 rfl rfl rfl rfl sb_75_9_172 rfl (y_move rfl) rfl ?_
                                      refine d_Tg 22 rfl rfl rfl rfl sb_75_9_173 rfl (y_nilck rfl) rfl ?_
                                      refine d_Tg 23 rfl rfl rfl rfl sb_75_9_174 rfl (y_fa fl_95_16 rfl) rfl ?_
                                      refine d_ldt 24 rfl rfl rfl rfl sb_75_9_175 one_3 rfl (fun x hx => hx) m0 Ci.g16 rfl ?_
                                      refine d_Tg 25 rfl rfl rfl rfl sb_75_9_176 rfl (y_move rfl) rfl ?_
                                      refine d_Tg 26 rfl rfl rfl rfl sb_75_9_177 rfl (y_nilck rfl) rfl ?_
                                      refine d_Tg 27 rfl rfl rfl rfl sb_75_9_178 rfl (y_fa fl_95_16 rfl) rfl ?_
                                      refine d_ldt 28 rfl rfl rfl rfl sb_75_9_179 one_3 rfl (fun x hx => hx) (ms m0) Ci.g16 rfl ?_
                                      refine d_Tg 29 rfl rfl rfl rfl sb_75_9_180 rfl (y_eql rfl rfl) rfl ?_
                                      refine d_T 30 rfl sb_75_9_181 rfl (y_pickT rfl rfl) rfl ?_
                                      refine d_T 31 rfl sb_75_9_182 rfl (y_move rfl) rfl ?_
                                      refine d_split 196 rfl (fun h142_2 => ?_) (fun h142_2 => ?_)
                                      · try simp only [decide_eq_true_eq, decide_eq_false_iff_not, Bool.not_eq_true', Bool.not_eq_false', Int.not_lt, Int.not_le, Decidable.not_not, beq_iff_eq, bne_iff_ne, ne_eq, beq_eq_false_iff_ne, WA.wd] at h142_2
                                        refine d_Tg 32 rfl rfl rfl rfl sb_75_9_183 rfl (y_move rfl) rfl ?_
                                        refine d_Tg 33 rfl rfl rfl rfl sb_75_9_184 rfl (y_nilck rfl) rfl ?_
                                        refine d_Tg 34 rfl rfl rfl rfl sb_75_9_185 rfl (y_fa fl_95_17 rfl) rfl ?_
                                        refine d_ldt 35 rfl rfl rfl rfl sb_75_9_186 one_3 rfl (fun x hx => hx) m0 Ci.g17 rfl ?_
                                        refine d_Tg 36 rfl rfl rfl rfl sb_75_9_187 rfl (y_move rfl) rfl ?_
                                        refine d_Tg 37 rfl rfl rfl rfl sb_75_9_188 rfl (y_nilck rfl) rfl ?_
                                        refine d_Tg 38 rfl rfl rfl rfl sb_75_9_189 rfl (y_fa fl_95_17 rfl) rfl ?_
                                        refine d_ldt 39 rfl rfl rfl rfl sb_75_9_190 one_3 rfl (fun x hx => hx) (ms m0) Ci.g17 rfl ?_
                                        refine d_Tg 40 rfl rfl rfl rfl sb_75_9_191 rfl (y_eql rfl rfl) rfl ?_
                                        refine d_T 41 rfl sb_75_9_192 rfl (y_pickT rfl rfl) rfl ?_
                                        refine d_L 42 rfl sb_75_9_193 rfl (y_assign rfl) rfl rfl ?_
                                        refine d_nil0 sb_75_9_194 rfl ?_
                                        refine c_ret ?_
                                        refine fun aX wX heX hsX => ret1 Tryz.results75 heX rfl (s_take (s_take s_nil)) ?_
                                        exact ⟨by simp, rfl⟩
                                      · try simp only [decide_eq_true_eq, decide_eq_false_iff_not, Bool.not_eq_true', Bool.not_eq_false', Int.not_lt, Int.not_le, Decidable.not_not, beq_iff_eq, bne_iff_ne, ne_eq, beq_eq_false_iff_ne, WA.wd] at h142_2
                                        exact absurd h142_2 (by simp)
                                    · try simp only [decide_eq_true_eq, decide_eq_false_iff_not, Bool.not_eq_true', Bool.not_eq_false', Int.not_lt, Int.not_le, Decidable.not_not, beq_iff_eq, bne_iff_ne, ne_eq, beq_eq_false_iff_ne, WA.wd] at h142_1
                                      exact absurd h142_1 (by simp)
                                  · try simp only [decide_eq_true_eq, decide_eq_false_iff_not, Bool.not_eq_true', Bool.not_eq_false', Int.not_lt, Int.not_le, Decidable.not_not, beq_iff_eq, bne_iff_ne, ne_eq, beq_eq_false_iff_ne, WA.wd] at h142
                                    exact absurd h142 (by simp)

end Go.Proofs.Qxb6500351aGreat
