/- MADE BY PROGRAM (tools/gen.py over tools/specs351.py): walks. -/
import Derived.Test.Qxb6500351aGreatFacts
import Derived.Test.Qxb6500351aGreatW46
set_option linter.unusedVariables false
set_option linter.unusedSimpArgs false
namespace Go.Proofs.Qxb6500351aGreat
open Go.Eng
set_option maxRecDepth 20000
set_option maxHeartbeats 4000000
/-- (*e2e/wirem.Wire).Take -/
theorem t77 (b : Nat) (v : Value) (l : List Flt) (gv gd : List Chunk) (i : Int) (hw : LstN 130 3 flR v l gv gd) (h64 : l.length ≤ 64) : Trip Tryz.prog 77 #[.pointer (some ⟨b, 0, none⟩), .int .i64 i] [[(b, .cells (Wr.mk v).enc 98 (0, 0))], gv, gd] (fun u S' => (wTake l i = none ∧ ∃ (v' : Value) (gv' gd' : List Chunk), u = .tuple #[.slice none 0 0, .bool false] ∧ LstN 130 3 flR v' (wRest l i) gv' gd' ∧ S' = [[(b, .cells (Wr.mk v').enc 98 (0, 0))], gv', gd']) ∨ (∃ raw, wTake l i = some raw ∧ Bytes raw ∧ raw.length ≤ 1000 ∧ ∃ (br : Nat) (v' : Value) (gv' gd' : List Chunk), u = .tuple #[byV br raw, .bool true] ∧ LstN 130 3 flR v' (wRest l i) gv' gd' ∧ S' = [[(b, .cells (Wr.mk v').enc 98 (0, 0))], gv', gd', byG br raw 5])) := by
  obtain ⟨pw, cw, hvw⟩ := hw.slice
  subst hvw
  refine fn_entry (args := [.pointer (some ⟨b, 0, none⟩), .int .i64 i]) Tryz.func77 rfl Tryz.ntmps77 rfl (fun w0 => ?_)
  refine c_seq ?_
  refine c_region ?_
  refine o_L (y_assign rfl) rfl rfl ?_
  refine o_L (y_assign rfl) rfl rfl ?_
  refine o_nil0 rfl ?_
  refine c_seq ?_
  refine c_seq ?_
  refine c_region ?_
  refine o_T (y_move rfl) rfl ?_
  refine o_T (y_lss rfl rfl) rfl ?_
  refine o_T (y_move rfl) rfl ?_
  refine o_split 9 rfl (fun h47 => ?_) (fun h47 => ?_)
  · try simp only [decide_eq_true_eq, decide_eq_false_iff_not, Bool.not_eq_true', Bool.not_eq_false', Int.not_lt, Int.not_le, Decidable.not_not, beq_iff_eq, bne_iff_ne, ne_eq, beq_eq_false_iff_ne] at h47
    refine o_pass rfl rfl rfl rfl rfl ?_
    refine o_pass rfl rfl rfl rfl rfl ?_
    refine o_pass rfl rfl rfl rfl rfl ?_
    refine o_pass rfl rfl rfl rfl rfl ?_
    refine o_pass rfl rfl rfl rfl rfl ?_
    refine o_pass rfl rfl rfl rfl rfl ?_
    refine o_pass rfl rfl rfl rfl rfl ?_
    refine o_T (y_pickT rfl rfl) rfl ?_
    refine o_nil1 17 rfl rfl ?_
    refine c_condT rfl ?_
    refine c_seq ?_
    refine c_region ?_
    refine o_L (y_assign rfl) rfl rfl ?_
    refine o_L (y_assign rfl) rfl rfl ?_
    refine o_nil0 rfl ?_
    refine c_ret ?_
    refine fun aX wX heX hsX => ret2 Tryz.results77 heX rfl rfl (s_take (s_take (s_take s_nil))) ?_
    have e0 : wHas l i = false := by unfold wHas; exact decide_eq_false (by omega)
    have e1 : wRest l i = l := by unfold wRest; rw [e0]; rfl
    have e2 : wTake l i = none := by
      unfold wTake
      split
      · rfl
      · next x hx => have := (List.getElem?_eq_some_iff.1 hx).1; rw [if_neg (by omega)]
    rw [e1, e2]
    exact .inl ⟨rfl, _, _, _, rfl, hw, rfl⟩
  · try simp only [decide_eq_true_eq, decide_eq_false_iff_not, Bool.not_eq_true', Bool.not_eq_false', Int.not_lt, Int.not_le, Decidable.not_not, beq_iff_eq, bne_iff_ne, ne_eq, beq_eq_false_iff_ne] at h47
    refine o_take rfl rfl rfl ?_
    refine o_T (y_move rfl) rfl ?_
    refine o_take rfl rfl rfl ?_
    refine o_T (y_move rfl) rfl ?_
    refine o_take rfl rfl rfl ?_
    refine o_T (y_nilck rfl) rfl ?_
    refine o_take rfl rfl rfl ?_
    refine o_T (y_fa fl_98_0 rfl) rfl ?_
    refine o_take rfl rfl rfl ?_
    refine o_ld one_96 rfl m0 Wr.g0 rfl ?_
    refine o_take rfl rfl rfl ?_
    refine o_T (y_len Tryz.underlying96 rfl) rfl ?_
    refine o_take rfl rfl rfl ?_
    refine o_T (y_geq rfl rfl) rfl ?_
    refine o_T (y_pickF rfl rfl) rfl ?_
    refine o_nil1 17 rfl rfl ?_
    refine c_cond rfl (fun h47_1 => ?_) (fun h47_1 => ?_)
    · try simp only [decide_eq_true_eq, decide_eq_false_iff_not, Bool.not_eq_true', Bool.not_eq_false', Int.not_lt, Int.not_le, Decidable.not_not, beq_iff_eq, bne_iff_ne, ne_eq, beq_eq_false_iff_ne] at h47_1
      refine c_seq ?_
      refine c_region ?_
      refine o_L (y_assign rfl) rfl rfl ?_
      refine o_L (y_assign rfl) rfl rfl ?_
      refine o_nil0 rfl ?_
      refine c_ret ?_
      refine fun aX wX heX hsX => ret2 Tryz.results77 heX rfl rfl (s_take (s_take (s_take s_nil))) ?_
      have e0 : wHas l i = false := by unfold wHas; exact decide_eq_false (by omega)
      have e1 : wRest l i = l := by unfold wRest; rw [e0]; rfl
      have e2 : wTake l i = none := by
        unfold wTake
        split
        · rfl
        · next x hx => have := (List.getElem?_eq_some_iff.1 hx).1; rw [if_neg (by omega)]
      rw [e1, e2]
      exact .inl ⟨rfl, _, _, _, rfl, hw, rfl⟩
    · try simp only [decide_eq_true_eq, decide_eq_false_iff_not, Bool.not_eq_true', Bool.not_eq_false', Int.not_lt, Int.not_le, Decidable.not_not, beq_iff_eq, bne_iff_ne, ne_eq, beq_eq_false_iff_ne] at h47_1
      refine c_skip ?_
      refine c_seq ?_
      obtain ⟨k, hik⟩ : ∃ k : Nat, i = (k : Int) := ⟨i.toNat, by omega⟩
      subst hik
      have hk : k < l.length := by omega
      obtain ⟨bw, cpw, cur, hv2, hg2, hO⟩ := (hw.lst (by omega)).open
      injection hv2 with e1 e2 e3
      subst e1 e3 hg2
      obtain ⟨br, ga, gb, pa, x, pb, hgd, hok, hagg, hvec, hx2, hx3, hpl, hgo⟩ := Fl.gone hO k hk
      have hbL := hok.len
      refine c_front (s_get (ks (ks k0)) (s_get k0 (s_get k0 s_nil))) ?_
      refine c_split3 hgd ?_
      refine c_region ?_
      refine o_T (y_move rfl) rfl ?_
      refine o_T (y_nilck rfl) rfl ?_
      refine o_T (y_fa fl_98_0 rfl) rfl ?_
      refine o_ld one_96 rfl (ms (ms m0)) Wr.g0 rfl ?_
      refine o_T (y_move rfl) rfl ?_
      refine o_T (y_is sl_96 rfl rfl (by omega) (by omega)) rfl ?_
      refine o_lda ag_130 rfl (ms (ms (ms m0))) (hagg _ (by omega)).1 (hagg _ (by omega)).2 rfl ?_
      refine o_alloc ze_130 rfl rfl (fun b_1 => ?_)
      refine o_sta ag_130 rfl rfl rfl rfl r0 (setAll_full _ _ rfl) (of_ble rfl) ?_
      refine o_nil0 rfl ?_
      refine c_seq ?_
      refine c_region ?_
      refine o_T (y_move rfl) rfl ?_
      refine o_T (y_move rfl) rfl ?_
      refine o_call en_87 rfl (t87 _ _ _ _ _ _ _ _ hvec hk (by omega) hx2 hx3 hpl) (s_skip (s_skip (s_skip (s_take (s_take s_nil))))) rfl ?_
      rintro v S' ⟨v_1, gv_1, rfl, hw_1, rfl⟩
      refine o_nil0 rfl ?_
      refine c_seq ?_
      refine c_seq ?_
      refine c_region ?_
      refine o_T (y_fa fl_130_1 rfl) rfl ?_
      refine o_ld one_3 rfl (ms (ms m0)) Fl.g1 rfl ?_
      refine o_T (y_gtr rfl rfl) rfl ?_
      refine o_nil1 30 rfl rfl ?_
      refine c_cond rfl (fun h52 => ?_) (fun h52 => ?_)
      · try simp only [decide_eq_true_eq, decide_eq_false_iff_not, Bool.not_eq_true', Bool.not_eq_false', Int.not_lt, Int.not_le, Decidable.not_not, beq_iff_eq, bne_iff_ne, ne_eq, beq_eq_false_iff_ne] at h52
        refine c_seq ?_
        refine c_region ?_
        refine o_L (y_assign rfl) rfl rfl ?_
        refine o_L (y_assign rfl) rfl rfl ?_
        refine o_nil0 rfl ?_
        refine c_ret ?_
        refine fun aX wX heX hsX => ret2 Tryz.results77 heX rfl rfl (s_take (s_take (s_skip (s_skip (s_take s_nil))))) ?_
        have e0 : wHas l k = true := by unfold wHas; exact decide_eq_true (by omega)
        have e1 : wRest l k = wRem l k := by unfold wRest; rw [e0]; rfl
        rw [e1]
        have e2 : wTake l k = none := by unfold wTake; rw [Int.toNat_natCast, List.getElem?_eq_getElem hk]; dsimp only; rw [if_neg (by omega)]
        rw [e2]
        exact .inl ⟨rfl, _, _, _, rfl, hgo _ _ hw_1, rfl⟩
      · try simp only [decide_eq_true_eq, decide_eq_false_iff_not, Bool.not_eq_true', Bool.not_eq_false', Int.not_lt, Int.not_le, Decidable.not_not, beq_iff_eq, bne_iff_ne, ne_eq, beq_eq_false_iff_ne] at h52
        refine c_skip ?_
        refine c_seq ?_
        refine c_region ?_
        refine o_T (y_fa fl_130_0 rfl) rfl ?_
        refine o_ld one_81 rfl (ms (ms m0)) Fl.g0 rfl ?_
        refine o_L (y_assign rfl) rfl rfl ?_
        refine o_L (y_assign rfl) rfl rfl ?_
        refine o_nil0 rfl ?_
        refine c_ret ?_
        refine fun aX wX heX hsX => ret2 Tryz.results77 heX rfl rfl (s_get k0 (s_get k0 (s_get (ks (ks k0)) (s_get (ks k0) s_nil)))) ?_
        have e0 : wHas l k = true := by unfold wHas; exact decide_eq_true (by omega)
        have e1 : wRest l k = wRem l k := by unfold wRest; rw [e0]; rfl
        rw [e1]
        have e2 : wTake l k = some l[k].raw := by unfold wTake; rw [Int.toNat_natCast, List.getElem?_eq_getElem hk]; dsimp only; rw [if_pos (by omega)]
        rw [e2]
        exact .inr ⟨_, rfl, hok.b, hok.len, br, _, _, _, rfl, hgo _ _ hw_1, rfl⟩

end Go.Proofs.Qxb6500351aGreat
