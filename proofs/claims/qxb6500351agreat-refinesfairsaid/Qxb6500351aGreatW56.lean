/- MADE BY PROGRAM (tools/gen.py over tools/specs351.py): walks. -/
import Derived.Test.Qxb6500351aGreatFacts
import Derived.Test.Qxb6500351aGreatRp3
set_option linter.unusedVariables false
set_option linter.unusedSimpArgs false
namespace Go.Proofs.Qxb6500351aGreat
open Go.Eng
set_option maxRecDepth 20000
set_option maxHeartbeats 4000000
/-- (*e2e/hostm.Net).Connected -/
theorem t91 (b : Nat) (v : Value) (l : List Ned) (gv gd : List Chunk) (dl : Nat → Int) (hs : Int) (en : En) (bc : Nat) (ci : Ci) (hn : LstN 83 16 edR v l gv gd) (h64 : l.length ≤ 60000000000) : Trip Tryz.prog 91 #[.pointer (some ⟨b, 0, none⟩), .int .i64 hs, .agg (Si.mk en (.pointer (some ⟨bc, 0, none⟩))).enc] [[(b, .cells (Nt.mk v dl).enc 80 (0, 0))], gv, gd, [(bc, .cells ci.enc 95 (0, 0))]] (fun u S' => ∃ (v' : Value) (gv' gd' : List Chunk), u = .bool (nCan l hs en ci) ∧ LstN 83 16 edR v' (nConn l hs en ci) gv' gd' ∧ S' = [[(b, .cells (Nt.mk v' dl).enc 80 (0, 0))], gv', gd', [(bc, .cells ci.enc 95 (0, 0))]]) := by
  have hln := lstN_bnd hn
  obtain ⟨pw, cw, hvw⟩ := hn.slice
  subst hvw
  refine fn_entry (args := [.pointer (some ⟨b, 0, none⟩), .int .i64 hs, .agg (Si.mk en (.pointer (some ⟨bc, 0, none⟩))).enc]) Tryz.func91 rfl Tryz.ntmps91 rfl (fun w0 => ?_)
  refine c_seq ?_
  refine c_region ?_
  refine o_box rfl rfl rfl rfl (fun b_1 => ?_)
  refine o_L (y_assign rfl) rfl rfl ?_
  refine o_nil0 rfl ?_
  refine c_seq ?_
  refine c_seq ?_
  refine c_region ?_
  refine o_T (y_move rfl) rfl ?_
  refine o_T (y_move rfl) rfl ?_
  refine o_T (y_fa fl_69_0 rfl) rfl ?_
  refine o_T (y_fa fl_66_0 rfl) rfl ?_
  refine o_ld one_3 rfl m0 Si.g0 rfl ?_
  refine o_callrv en_70 rfl (t70 _ _ _ _ _ _ _ _ (by assumption)) (s_skip (s_take (s_take s_nil))) rfl ?_
  refine o_T (y_geq rfl rfl) rfl ?_
  refine o_T (y_move rfl) rfl ?_
  refine o_split 14 rfl (fun h71 => ?_) (fun h71 => ?_)
  · try simp only [decide_eq_true_eq, decide_eq_false_iff_not, Bool.not_eq_true', Bool.not_eq_false', Int.not_lt, Int.not_le, Decidable.not_not, beq_iff_eq, bne_iff_ne, ne_eq, beq_eq_false_iff_ne] at h71
    refine o_pass rfl rfl rfl rfl rfl ?_
    refine o_pass rfl rfl rfl rfl rfl ?_
    refine o_pass rfl rfl rfl rfl rfl ?_
    refine o_pass rfl rfl rfl rfl rfl ?_
    refine o_pass rfl rfl rfl rfl rfl ?_
    refine o_pass rfl rfl rfl rfl rfl ?_
    refine o_T (y_pickT rfl rfl) rfl ?_
    refine o_nil1 21 rfl rfl ?_
    refine c_condT rfl ?_
    refine c_seq ?_
    refine c_region ?_
    refine o_L (y_assign rfl) rfl rfl ?_
    refine o_nil0 rfl ?_
    refine c_ret ?_
    refine fun aX wX heX hsX => ret1 Tryz.results91 heX rfl (s_skip (s_take (s_take (s_take (s_take s_nil))))) ?_
    have e0 : nCan l hs en ci = false := by unfold nCan; rw [Bool.and_eq_false_iff]; simp only [decide_eq_false_iff_not]; omega
    have e1 : nConn l hs en ci = l := by unfold nConn; rw [e0]; rfl
    rw [e0, e1]
    exact ⟨_, _, _, rfl, hn, rfl⟩
  · try simp only [decide_eq_true_eq, decide_eq_false_iff_not, Bool.not_eq_true', Bool.not_eq_false', Int.not_lt, Int.not_le, Decidable.not_not, beq_iff_eq, bne_iff_ne, ne_eq, beq_eq_false_iff_ne] at h71
    refine o_take rfl rfl rfl ?_
    refine o_T (y_fa fl_69_1 rfl) rfl ?_
    refine o_take rfl rfl rfl ?_
    refine o_ld one_67 rfl m0 Si.g8 rfl ?_
    refine o_take rfl rfl rfl ?_
    refine o_T (y_nilck rfl) rfl ?_
    refine o_take rfl rfl rfl ?_
    refine o_T (y_fa fl_95_0 rfl) rfl ?_
    refine o_take rfl rfl rfl ?_
    refine o_ld one_3 rfl (ms (ms (ms (ms m0)))) Ci.g0 rfl ?_
    refine o_take rfl rfl rfl ?_
    refine o_T (y_neq rfl rfl) rfl ?_
    refine o_T (y_pickF rfl rfl) rfl ?_
    refine o_nil1 21 rfl rfl ?_
    refine c_cond rfl (fun h71_1 => ?_) (fun h71_1 => ?_)
    · try simp only [decide_eq_true_eq, decide_eq_false_iff_not, Bool.not_eq_true', Bool.not_eq_false', Int.not_lt, Int.not_le, Decidable.not_not, beq_iff_eq, bne_iff_ne, ne_eq, beq_eq_false_iff_ne] at h71_1
      refine c_seq ?_
      refine c_region ?_
      refine o_L (y_assign rfl) rfl rfl ?_
      refine o_nil0 rfl ?_
      refine c_ret ?_
      refine fun aX wX heX hsX => ret1 Tryz.results91 heX rfl (s_skip (s_take (s_take (s_take (s_take s_nil))))) ?_
      have e0 : nCan l hs en ci = false := by unfold nCan; rw [Bool.and_eq_false_iff]; simp only [decide_eq_false_iff_not]; omega
      have e1 : nConn l hs en ci = l := by unfold nConn; rw [e0]; rfl
      rw [e0, e1]
      exact ⟨_, _, _, rfl, hn, rfl⟩
    · try simp only [decide_eq_true_eq, decide_eq_false_iff_not, Bool.not_eq_true', Bool.not_eq_false', Int.not_lt, Int.not_le, Decidable.not_not, beq_iff_eq, bne_iff_ne, ne_eq, beq_eq_false_iff_ne] at h71_1
      refine c_skip ?_
      refine c_seq ?_
      refine c_draw #[true, true, true, true, true, true, true, true, true, true, true, true, true, true, true, true, true, true, true, true, false, true, true, false] rfl (n := 24) rfl ?_
      refine d_T 0 rfl (by kernel_rfl) rfl (y_move rfl) rfl ?_
      refine d_T 1 rfl (by kernel_rfl) rfl (y_move rfl) rfl ?_
      refine d_T 2 rfl (by kernel_rfl) rfl (y_nilck rfl) rfl ?_
      refine d_T 3 rfl (by kernel_rfl) rfl (y_fa fl_80_0 rfl) rfl ?_
      refine d_ld 4 rfl (by kernel_rfl) one_78 rfl (fun x hx => hx) (ms m0) Nt.g0 rfl ?_
      refine d_T 5 rfl (by kernel_rfl) rfl (y_move rfl) rfl ?_
      refine d_T 6 rfl (by kernel_rfl) rfl (y_fa fl_69_0 rfl) rfl ?_
      refine d_T 7 rfl (by kernel_rfl) rfl (y_fa fl_66_0 rfl) rfl ?_
      refine d_ld 8 rfl (by kernel_rfl) one_3 rfl (fun x hx => hx) m0 Si.g0 rfl ?_
      refine d_T 9 rfl (by kernel_rfl) rfl (y_fa fl_69_0 rfl) rfl ?_
      refine d_T 10 rfl (by kernel_rfl) rfl (y_fa fl_66_2 rfl) rfl ?_
      refine d_ld 11 rfl (by kernel_rfl) one_3 rfl (fun x hx => hx) m0 Si.g2 rfl ?_
      refine d_T 12 rfl (by kernel_rfl) rfl (y_fa fl_69_0 rfl) rfl ?_
      refine d_T 13 rfl (by kernel_rfl) rfl (y_fa fl_66_3 rfl) rfl ?_
      refine d_ld 14 rfl (by kernel_rfl) one_3 rfl (fun x hx => hx) m0 Si.g3 rfl ?_
      refine d_T 15 rfl (by kernel_rfl) rfl (y_fa fl_69_0 rfl) rfl ?_
      refine d_T 16 rfl (by kernel_rfl) rfl (y_fa fl_66_4 rfl) rfl ?_
      refine d_ld 17 rfl (by kernel_rfl) one_3 rfl (fun x hx => hx) m0 Si.g4 rfl ?_
      refine d_T 18 rfl (by kernel_rfl) rfl (y_build st_83 rfl (fb rfl rfl rfl Ed.s0 (fb rfl rfl rfl Ed.s1 (fb rfl rfl rfl Ed.s2 (fb rfl rfl rfl Ed.s3 (fb rfl rfl rfl Ed.s4 (fb rfl rfl rfl Ed.s5 (fb rfl rfl rfl Ed.s6 (fb rfl rfl rfl Ed.s10 fb0))))))))) rfl ?_
      refine d_hard 19 rfl (by kernel_rfl) ?_
      refine o_bs1 sz_78 rfl rfl rfl rfl rfl rfl (fun b_2 => ?_)
      refine o_stop (fun _ => (fun x hx => (ms hx))) ?_
      refine d_hard 20 rfl (by kernel_rfl) ?_
      refine o_lapp0 (R := edR) (u := Ned.conn hs en) sz_78 rfl rfl rfl hn rfl rfl ⟨.slice none 0 0, .slice none 0 0, [], [], rfl, rfl, GB.nil, GB.nil⟩ (s_get (ks (ks (ks k0))) (s_get (ks (ks (ks k0))) (s_get k0 s_nil))) (by omega) (by omega) rfl (fun v_9 gv_9 hl_9 => ?_)
      obtain ⟨bq, cq, hvq⟩ := hl_9.slice
      subst hvq
      refine o_stop (fun h => nomatch h) ?_
      refine d_T 21 rfl (by kernel_rfl) rfl (y_nilck rfl) rfl ?_
      refine d_T 22 rfl (by kernel_rfl) rfl (y_fa fl_80_0 rfl) rfl ?_
      refine d_hard 23 rfl (by kernel_rfl) ?_
      refine o_st one_78 rfl rfl rfl (rs (rs (rs r0))) Nt.s0 (of_blt rfl) ?_
      refine o_stop (fun h => nomatch h) ?_
      refine d_nil0 (by kernel_rfl) rfl ?_
      refine c_seq ?_
      refine c_region ?_
      refine o_L (y_assign rfl) rfl rfl ?_
      refine o_nil0 rfl ?_
      refine c_ret ?_
      refine fun aX wX heX hsX => ret1 Tryz.results91 heX rfl (s_get (ks (ks (ks k0))) (s_get k0 (s_get k0 (s_get (ks k0) s_nil)))) ?_
      have e0 : nCan l hs en ci = true := by unfold nCan; rw [Bool.and_eq_true]; simp only [decide_eq_true_eq]; omega
      have e1 : nConn l hs en ci = l ++ [Ned.conn hs en] := by unfold nConn; rw [e0, if_pos rfl]
      rw [e0, e1]
      exact ⟨_, _, _, rfl, .of hl_9, rfl⟩

end Go.Proofs.Qxb6500351aGreat
