/- MADE BY PROGRAM (tools/gen.py over tools/specs351.py): walks. -/
import Derived.Test.Qxb6500351aGreatFacts
import Derived.Test.Qxb6500351aGreatW48
set_option linter.unusedVariables false
set_option linter.unusedSimpArgs false
namespace Go.Proofs.Qxb6500351aGreat
open Go.Eng
set_option maxRecDepth 20000
set_option maxHeartbeats 4000000
/-- (*e2e/wirem.Wire).Double -/
theorem t42 (b : Nat) (v : Value) (l : List Flt) (gv gd : List Chunk) (i : Int) (hw : LstN 130 3 flR v l gv gd) (h64 : l.length ≤ 64) : Trip Tryz.prog 42 #[.pointer (some ⟨b, 0, none⟩), .int .i64 i] [[(b, .cells (Wr.mk v).enc 98 (0, 0))], gv, gd] (fun u S' => ∃ (v' : Value) (gv' gd' : List Chunk), u = .bool (wHas l i && decide (l.length < 64)) ∧ LstN 130 3 flR v' (wDouble l i) gv' gd' ∧ S' = [[(b, .cells (Wr.mk v').enc 98 (0, 0))], gv', gd']) := by
  obtain ⟨pw, cw, hvw⟩ := hw.slice
  subst hvw
  refine fn_entry (args := [.pointer (some ⟨b, 0, none⟩), .int .i64 i]) Tryz.func42 rfl Tryz.ntmps42 rfl (fun w0 => ?_)
  refine c_seq ?_
  refine c_region ?_
  refine o_L (y_assign rfl) rfl rfl ?_
  refine o_nil0 rfl ?_
  refine c_seq ?_
  refine c_seq ?_
  refine c_region ?_
  refine o_T (y_move rfl) rfl ?_
  refine o_T (y_lss rfl rfl) rfl ?_
  refine o_T (y_move rfl) rfl ?_
  refine o_split 7 rfl (fun h69 => ?_) (fun h69 => ?_)
  · try simp only [decide_eq_true_eq, decide_eq_false_iff_not, Bool.not_eq_true', Bool.not_eq_false', Int.not_lt, Int.not_le, Decidable.not_not, beq_iff_eq, bne_iff_ne, ne_eq, beq_eq_false_iff_ne] at h69
    refine o_pass rfl rfl rfl rfl rfl ?_
    refine o_pass rfl rfl rfl rfl rfl ?_
    refine o_pass rfl rfl rfl rfl rfl ?_
    refine o_pass rfl rfl rfl rfl rfl ?_
    refine o_pass rfl rfl rfl rfl rfl ?_
    refine o_pass rfl rfl rfl rfl rfl ?_
    refine o_pass rfl rfl rfl rfl rfl ?_
    refine o_T (y_pickT rfl rfl) rfl ?_
    refine o_T (y_move rfl) rfl ?_
    refine o_pass rfl rfl rfl rfl rfl ?_
    refine o_pass rfl rfl rfl rfl rfl ?_
    refine o_pass rfl rfl rfl rfl rfl ?_
    refine o_pass rfl rfl rfl rfl rfl ?_
    refine o_pass rfl rfl rfl rfl rfl ?_
    refine o_pass rfl rfl rfl rfl rfl ?_
    refine o_T (y_pickT rfl rfl) rfl ?_
    refine o_nil1 23 rfl rfl ?_
    refine c_condT rfl ?_
    refine c_seq ?_
    refine c_region ?_
    refine o_L (y_assign rfl) rfl rfl ?_
    refine o_nil0 rfl ?_
    refine c_ret ?_
    refine fun aX wX heX hsX => ret1 Tryz.results42 heX rfl (s_take (s_take (s_take s_nil))) ?_
    have e0 : (wHas l i && decide (l.length < 64)) = false := by unfold wHas; rw [Bool.and_eq_false_iff]; simp only [decide_eq_false_iff_not]; omega
    have e1 : wDouble l i = l := by unfold wDouble; rw [if_neg]; rintro ⟨q1, q2⟩; rw [q1, decide_eq_true q2] at e0; exact Bool.noConfusion e0
    rw [e0, e1]
    exact ⟨_, _, _, rfl, hw, rfl⟩
  · try simp only [decide_eq_true_eq, decide_eq_false_iff_not, Bool.not_eq_true', Bool.not_eq_false', Int.not_lt, Int.not_le, Decidable.not_not, beq_iff_eq, bne_iff_ne, ne_eq, beq_eq_false_iff_ne] at h69
    refine o_take rfl rfl rfl ?_
    refine o_T (y_move rfl) rfl ?_
    refine o_take rfl rfl rfl ?_
    refine o_T (y_move rfl) rfl ?_
    refine o_take rfl rfl rfl ?_
    refine o_T (y_nilck rfl) rfl ?_
    refine o_take rfl rfl rfl ?_
    refine o_T (y_fa fl_98_0 rfl) rfl ?_
    refine o_take rfl rfl rfl ?_
    refine o_ld one_96 rfl m0 Wr.g0 rfl ?_
    refine o_take rfl rfl rfl ?_
    refine o_T (y_len Tryz.underlying96 rfl) rfl ?_
    refine o_take rfl rfl rfl ?_
    refine o_T (y_geq rfl rfl) rfl ?_
    refine o_T (y_pickF rfl rfl) rfl ?_
    refine o_T (y_move rfl) rfl ?_
    refine o_split 16 rfl (fun h69_1 => ?_) (fun h69_1 => ?_)
    · try simp only [decide_eq_true_eq, decide_eq_false_iff_not, Bool.not_eq_true', Bool.not_eq_false', Int.not_lt, Int.not_le, Decidable.not_not, beq_iff_eq, bne_iff_ne, ne_eq, beq_eq_false_iff_ne] at h69_1
      refine o_pass rfl rfl rfl rfl rfl ?_
      refine o_pass rfl rfl rfl rfl rfl ?_
      refine o_pass rfl rfl rfl rfl rfl ?_
      refine o_pass rfl rfl rfl rfl rfl ?_
      refine o_pass rfl rfl rfl rfl rfl ?_
      refine o_pass rfl rfl rfl rfl rfl ?_
      refine o_T (y_pickT rfl rfl) rfl ?_
      refine o_nil1 23 rfl rfl ?_
      refine c_condT rfl ?_
      refine c_seq ?_
      refine c_region ?_
      refine o_L (y_assign rfl) rfl rfl ?_
      refine o_nil0 rfl ?_
      refine c_ret ?_
      refine fun aX wX heX hsX => ret1 Tryz.results42 heX rfl (s_take (s_take (s_take s_nil))) ?_
      have e0 : (wHas l i && decide (l.length < 64)) = false := by unfold wHas; rw [Bool.and_eq_false_iff]; simp only [decide_eq_false_iff_not]; omega
      have e1 : wDouble l i = l := by unfold wDouble; rw [if_neg]; rintro ⟨q1, q2⟩; rw [q1, decide_eq_true q2] at e0; exact Bool.noConfusion e0
      rw [e0, e1]
      exact ⟨_, _, _, rfl, hw, rfl⟩
    · try simp only [decide_eq_true_eq, decide_eq_false_iff_not, Bool.not_eq_true', Bool.not_eq_false', Int.not_lt, Int.not_le, Decidable.not_not, beq_iff_eq, bne_iff_ne, ne_eq, beq_eq_false_iff_ne] at h69_1
      refine o_take rfl rfl rfl ?_
      refine o_T (y_move rfl) rfl ?_
      refine o_take rfl rfl rfl ?_
      refine o_T (y_nilck rfl) rfl ?_
      refine o_take rfl rfl rfl ?_
      refine o_T (y_fa fl_98_0 rfl) rfl ?_
      refine o_take rfl rfl rfl ?_
      refine o_ld one_96 rfl m0 Wr.g0 rfl ?_
      refine o_take rfl rfl rfl ?_
      refine o_T (y_len Tryz.underlying96 rfl) rfl ?_
      refine o_take rfl rfl rfl ?_
      refine o_T (y_geq rfl rfl) rfl ?_
      refine o_T (y_pickF rfl rfl) rfl ?_
      refine o_nil1 23 rfl rfl ?_
      refine c_cond rfl (fun h69_2 => ?_) (fun h69_2 => ?_)
      · try simp only [decide_eq_true_eq, decide_eq_false_iff_not, Bool.not_eq_true', Bool.not_eq_false', Int.not_lt, Int.not_le, Decidable.not_not, beq_iff_eq, bne_iff_ne, ne_eq, beq_eq_false_iff_ne] at h69_2
        refine c_seq ?_
        refine c_region ?_
        refine o_L (y_assign rfl) rfl rfl ?_
        refine o_nil0 rfl ?_
        refine c_ret ?_
        refine fun aX wX heX hsX => ret1 Tryz.results42 heX rfl (s_take (s_take (s_take s_nil))) ?_
        have e0 : (wHas l i && decide (l.length < 64)) = false := by unfold wHas; rw [Bool.and_eq_false_iff]; simp only [decide_eq_false_iff_not]; omega
        have e1 : wDouble l i = l := by unfold wDouble; rw [if_neg]; rintro ⟨q1, q2⟩; rw [q1, decide_eq_true q2] at e0; exact Bool.noConfusion e0
        rw [e0, e1]
        exact ⟨_, _, _, rfl, hw, rfl⟩
      · try simp only [decide_eq_true_eq, decide_eq_false_iff_not, Bool.not_eq_true', Bool.not_eq_false', Int.not_lt, Int.not_le, Decidable.not_not, beq_iff_eq, bne_iff_ne, ne_eq, beq_eq_false_iff_ne] at h69_2
        refine c_skip ?_
        refine c_seq ?_
        obtain ⟨k, hik⟩ : ∃ k : Nat, i = (k : Int) := ⟨i.toNat, by omega⟩
        subst hik
        have hk : k < l.length := by omega
        obtain ⟨bw, cpw, cur, hv2, hg2, hO⟩ := (hw.lst (by omega)).open
        injection hv2 with e1 e2 e3
        subst e1 e3 hg2
        obtain ⟨br, ga, gb, pa, x, pb, hgd, hok, hagg, hvec, hx2, hx3, hpl, hgo⟩ := Fl.gone hO k hk
        obtain ⟨br, ga, gb, hgd, hok, hagg, hraw, hrel, _⟩ := Fl.cut hO k hk
        have hbL := hok.len
        refine c_front (s_get (ks (ks k0)) (s_get k0 (s_get k0 s_nil))) ?_
        refine c_split3 hgd ?_
        refine c_draw #[true, true, true, true, true, true, true, true, true, true, true, true, true, true, true, true, true, true, true, true, true, true, true, true, true, true, true, true, true, true, true, true, false, true, true, false] rfl (n := 36) rfl ?_
        refine d_T 0 rfl (by kernel_rfl) rfl (y_move rfl) rfl ?_
        refine d_T 1 rfl (by kernel_rfl) rfl (y_move rfl) rfl ?_
        refine d_T 2 rfl (by kernel_rfl) rfl (y_nilck rfl) rfl ?_
        refine d_T 3 rfl (by kernel_rfl) rfl (y_fa fl_98_0 rfl) rfl ?_
        refine d_ld 4 rfl (by kernel_rfl) one_96 rfl (fun x hx => hx) (ms (ms m0)) Wr.g0 rfl ?_
        refine d_T 5 rfl (by kernel_rfl) rfl (y_move rfl) rfl ?_
        refine d_T 6 rfl (by kernel_rfl) rfl (y_nilck rfl) rfl ?_
        refine d_T 7 rfl (by kernel_rfl) rfl (y_fa fl_98_0 rfl) rfl ?_
        refine d_ld 8 rfl (by kernel_rfl) one_96 rfl (fun x hx => hx) (ms (ms m0)) Wr.g0 rfl ?_
        refine d_T 9 rfl (by kernel_rfl) rfl (y_move rfl) rfl ?_
        refine d_T 10 rfl (by kernel_rfl) rfl (y_is sl_96 rfl rfl (by omega) (by omega)) rfl ?_
        refine d_T 11 rfl (by kernel_rfl) rfl (y_fa fl_130_0 rfl) rfl ?_
        refine d_ld 12 rfl (by kernel_rfl) one_81 rfl (fun x hx => hx) (ms (ms (ms m0))) (hraw _ (by omega)) rfl ?_
        refine d_T 14 rfl (by kernel_rfl) rfl (y_move rfl) rfl ?_
        refine d_T 15 rfl (by kernel_rfl) rfl (y_nilck rfl) rfl ?_
        refine d_T 16 rfl (by kernel_rfl) rfl (y_fa fl_98_0 rfl) rfl ?_
        refine d_ld 17 rfl (by kernel_rfl) one_96 rfl (fun x hx => hx) (ms (ms m0)) Wr.g0 rfl ?_
        refine d_T 18 rfl (by kernel_rfl) rfl (y_move rfl) rfl ?_
        refine d_T 19 rfl (by kernel_rfl) rfl (y_is sl_96 rfl rfl (by omega) (by omega)) rfl ?_
        refine d_T 20 rfl (by kernel_rfl) rfl (y_fa fl_130_1 rfl) rfl ?_
        refine d_ld 21 rfl (by kernel_rfl) one_3 rfl (fun x hx => hx) (ms (ms (ms m0))) (Fl.l_age hO k hk (by omega)) rfl ?_
        refine d_T 22 rfl (by kernel_rfl) rfl (y_move rfl) rfl ?_
        refine d_T 23 rfl (by kernel_rfl) rfl (y_nilck rfl) rfl ?_
        refine d_T 24 rfl (by kernel_rfl) rfl (y_fa fl_98_0 rfl) rfl ?_
        refine d_ld 25 rfl (by kernel_rfl) one_96 rfl (fun x hx => hx) (ms (ms m0)) Wr.g0 rfl ?_
        refine d_T 26 rfl (by kernel_rfl) rfl (y_move rfl) rfl ?_
        refine d_T 27 rfl (by kernel_rfl) rfl (y_is sl_96 rfl rfl (by omega) (by omega)) rfl ?_
        refine d_T 28 rfl (by kernel_rfl) rfl (y_fa fl_130_2 rfl) rfl ?_
        refine d_ld 29 rfl (by kernel_rfl) one_4 rfl (fun x hx => hx) (ms (ms (ms m0))) (Fl.l_fl hO k hk (by omega)) rfl ?_
        refine d_hard 13 rfl (by kernel_rfl) ?_
        refine o_call en_78 rfl (t78 _ _ _ _ _ _ _ (BytAt.full hok.b (by omega))) (s_take s_nil) rfl ?_
        rintro v S' ⟨b_1, rfl, rfl⟩
        refine o_front (s_get (ks k0) (s_get k0 (s_get k0 (s_get k0 (s_get k0 s_nil))))) ?_
        refine o_stop (fun _ => (fun x hx => (ms hx))) ?_
        refine d_T 30 rfl (by kernel_rfl) rfl (y_build st_130 rfl (fb rfl rfl rfl Fl.s0 (fb rfl rfl rfl Fl.s1 (fb rfl rfl rfl Fl.s2 fb0)))) rfl ?_
        refine d_hard 31 rfl (by kernel_rfl) ?_
        refine o_bs1 sz_96 rfl rfl rfl rfl rfl rfl (fun b_2 => ?_)
        refine o_stop (fun _ => (fun x hx => (ms (ms hx)))) ?_
        refine d_hard 32 rfl (by kernel_rfl) ?_
        refine o_front (s_get (ks (ks k0)) (s_get (ks (ks k0)) (s_get k0 (s_get k0 (s_get k0 (s_get k0 s_nil)))))) ?_
        refine o_join3 hgd ?_
        refine o_lappN sz_96 rfl rfl rfl (lstN_of_open hO rfl) rfl rfl (flR.mk (x := l[k]) hok) (s_get (ks (ks (ks (ks k0)))) (s_get k0 (s_get k0 (s_get k0 s_nil)))) (by omega) (by omega) rfl (fun v_9 gv_9 hl_9 => ?_)
        obtain ⟨bq, cq, hvq⟩ := hl_9.slice
        subst hvq
        refine o_stop (fun h => nomatch h) ?_
        refine d_T 33 rfl (by kernel_rfl) rfl (y_nilck rfl) rfl ?_
        refine d_T 34 rfl (by kernel_rfl) rfl (y_fa fl_98_0 rfl) rfl ?_
        refine d_hard 35 rfl (by kernel_rfl) ?_
        refine o_st one_96 rfl rfl rfl (rs (rs r0)) Wr.s0 (of_blt rfl) ?_
        refine o_stop (fun h => nomatch h) ?_
        refine d_nil0 (by kernel_rfl) rfl ?_
        refine c_seq ?_
        refine c_region ?_
        refine o_L (y_assign rfl) rfl rfl ?_
        refine o_nil0 rfl ?_
        refine c_ret ?_
        refine fun aX wX heX hsX => ret1 Tryz.results42 heX rfl (s_get (ks (ks k0)) (s_get k0 (s_get k0 s_nil))) ?_
        have e0 : wHas l k = true := by unfold wHas; exact decide_eq_true (by omega)
        have e2 : l.length < 64 := by omega
        have e1 : wDouble l k = l ++ [l[k]] := by unfold wDouble; rw [if_pos ⟨e0, e2⟩, Int.toNat_natCast, List.drop_eq_getElem_cons hk]; rfl
        rw [e0, e1, decide_eq_true e2]
        exact ⟨_, _, _, rfl, .of hl_9, rfl⟩

end Go.Proofs.Qxb6500351aGreat
