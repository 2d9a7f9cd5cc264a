/- MADE BY PROGRAM (tools/gen.py over tools/specs351.py): walks. -/
import Derived.Test.Qxb6500351aGreatFacts
import Derived.Test.Qxb6500351aGreatW49
set_option linter.unusedVariables false
set_option linter.unusedSimpArgs false
namespace Go.Proofs.Qxb6500351aGreat
open Go.Eng
set_option maxRecDepth 20000
set_option maxHeartbeats 4000000
/-- (*e2e/wirem.Wire).Flip -/
theorem t43 (b : Nat) (v : Value) (l : List Flt) (gv gd : List Chunk) (i bit : Int) (hw : LstN 130 3 flR v l gv gd) (h64 : l.length ≤ 64) (hb : bit < 9223372036854775808) : Trip Tryz.prog 43 #[.pointer (some ⟨b, 0, none⟩), .int .i64 i, .int .i64 bit] [[(b, .cells (Wr.mk v).enc 98 (0, 0))], gv, gd] (fun u S' => ∃ gv' gd', u = .bool (wCan l i bit) ∧ LstN 130 3 flR v (wFlip l i bit) gv' gd' ∧ S' = [[(b, .cells (Wr.mk v).enc 98 (0, 0))], gv', gd']) := by
  obtain ⟨pw, cw, hvw⟩ := hw.slice
  subst hvw
  refine fn_entry (args := [.pointer (some ⟨b, 0, none⟩), .int .i64 i, .int .i64 bit]) Tryz.func43 rfl Tryz.ntmps43 rfl (fun w0 => ?_)
  refine c_seq ?_
  refine c_region ?_
  refine o_L (y_assign rfl) rfl rfl ?_
  refine o_nil0 rfl ?_
  refine c_seq ?_
  refine c_seq ?_
  refine c_region ?_
  refine o_T (y_move rfl) rfl ?_
  refine o_T (y_lss rfl rfl) rfl ?_
  refine o_T (y_move rfl) rfl ?_
  refine o_split 9 rfl (fun h78 => ?_) (fun h78 => ?_)
  · try simp only [decide_eq_true_eq, decide_eq_false_iff_not, Bool.not_eq_true', Bool.not_eq_false', Int.not_lt, Int.not_le, Decidable.not_not, beq_iff_eq, bne_iff_ne, ne_eq, beq_eq_false_iff_ne] at h78
    refine o_pass rfl rfl rfl rfl rfl ?_
    refine o_pass rfl rfl rfl rfl rfl ?_
    refine o_pass rfl rfl rfl rfl rfl ?_
    refine o_pass rfl rfl rfl rfl rfl ?_
    refine o_pass rfl rfl rfl rfl rfl ?_
    refine o_pass rfl rfl rfl rfl rfl ?_
    refine o_pass rfl rfl rfl rfl rfl ?_
    refine o_T (y_pickT rfl rfl) rfl ?_
    refine o_T (y_move rfl) rfl ?_
    refine o_pass rfl rfl rfl rfl rfl ?_
    refine o_pass rfl rfl rfl rfl rfl ?_
    refine o_pass rfl rfl rfl rfl rfl ?_
    refine o_pass rfl rfl rfl rfl rfl ?_
    refine o_pass rfl rfl rfl rfl rfl ?_
    refine o_pass rfl rfl rfl rfl rfl ?_
    refine o_pass rfl rfl rfl rfl rfl ?_
    refine o_pass rfl rfl rfl rfl rfl ?_
    refine o_T (y_pickT rfl rfl) rfl ?_
    refine o_T (y_move rfl) rfl ?_
    refine o_pass rfl rfl rfl rfl rfl ?_
    refine o_pass rfl rfl rfl rfl rfl ?_
    refine o_T (y_pickT rfl rfl) rfl ?_
    refine o_T (y_move rfl) rfl ?_
    refine o_pass rfl rfl rfl rfl rfl ?_
    refine o_pass rfl rfl rfl rfl rfl ?_
    refine o_pass rfl rfl rfl rfl rfl ?_
    refine o_pass rfl rfl rfl rfl rfl ?_
    refine o_pass rfl rfl rfl rfl rfl ?_
    refine o_pass rfl rfl rfl rfl rfl ?_
    refine o_pass rfl rfl rfl rfl rfl ?_
    refine o_pass rfl rfl rfl rfl rfl ?_
    refine o_pass rfl rfl rfl rfl rfl ?_
    refine o_pass rfl rfl rfl rfl rfl ?_
    refine o_pass rfl rfl rfl rfl rfl ?_
    refine o_pass rfl rfl rfl rfl rfl ?_
    refine o_T (y_pickT rfl rfl) rfl ?_
    refine o_nil1 45 rfl rfl ?_
    refine c_condT rfl ?_
    refine c_seq ?_
    refine c_region ?_
    refine o_L (y_assign rfl) rfl rfl ?_
    refine o_nil0 rfl ?_
    refine c_ret ?_
    refine fun aX wX heX hsX => ret1 Tryz.results43 heX rfl (s_take (s_take (s_take s_nil))) ?_
    obtain ⟨e0, e1⟩ := wFlip_no (l := l) (i := i) (bit := bit) (fun x hx => by rintro ⟨q1, _⟩; omega)
    rw [e0, e1]
    exact ⟨_, _, rfl, hw, rfl⟩
  · try simp only [decide_eq_true_eq, decide_eq_false_iff_not, Bool.not_eq_true', Bool.not_eq_false', Int.not_lt, Int.not_le, Decidable.not_not, beq_iff_eq, bne_iff_ne, ne_eq, beq_eq_false_iff_ne] at h78
    refine o_take rfl rfl rfl ?_
    refine o_T (y_move rfl) rfl ?_
    refine o_take rfl rfl rfl ?_
    refine o_T (y_move rfl) rfl ?_
    refine o_take rfl rfl rfl ?_
    refine o_T (y_nilck rfl) rfl ?_
    refine o_take rfl rfl rfl ?_
    refine o_T (y_fa fl_98_0 rfl) rfl ?_
    refine o_take rfl rfl rfl ?_
    refine o_ld one_96 rfl m0 Wr.g0 rfl ?_
    refine o_take rfl rfl rfl ?_
    refine o_T (y_len Tryz.underlying96 rfl) rfl ?_
    refine o_take rfl rfl rfl ?_
    refine o_T (y_geq rfl rfl) rfl ?_
    refine o_T (y_pickF rfl rfl) rfl ?_
    refine o_T (y_move rfl) rfl ?_
    refine o_split 18 rfl (fun h78_1 => ?_) (fun h78_1 => ?_)
    · try simp only [decide_eq_true_eq, decide_eq_false_iff_not, Bool.not_eq_true', Bool.not_eq_false', Int.not_lt, Int.not_le, Decidable.not_not, beq_iff_eq, bne_iff_ne, ne_eq, beq_eq_false_iff_ne] at h78_1
      refine o_pass rfl rfl rfl rfl rfl ?_
      refine o_pass rfl rfl rfl rfl rfl ?_
      refine o_pass rfl rfl rfl rfl rfl ?_
      refine o_pass rfl rfl rfl rfl rfl ?_
      refine o_pass rfl rfl rfl rfl rfl ?_
      refine o_pass rfl rfl rfl rfl rfl ?_
      refine o_pass rfl rfl rfl rfl rfl ?_
      refine o_pass rfl rfl rfl rfl rfl ?_
      refine o_T (y_pickT rfl rfl) rfl ?_
      refine o_T (y_move rfl) rfl ?_
      refine o_pass rfl rfl rfl rfl rfl ?_
      refine o_pass rfl rfl rfl rfl rfl ?_
      refine o_T (y_pickT rfl rfl) rfl ?_
      refine o_T (y_move rfl) rfl ?_
      refine o_pass rfl rfl rfl rfl rfl ?_
      refine o_pass rfl rfl rfl rfl rfl ?_
      refine o_pass rfl rfl rfl rfl rfl ?_
      refine o_pass rfl rfl rfl rfl rfl ?_
      refine o_pass rfl rfl rfl rfl rfl ?_
      refine o_pass rfl rfl rfl rfl rfl ?_
      refine o_pass rfl rfl rfl rfl rfl ?_
      refine o_pass rfl rfl rfl rfl rfl ?_
      refine o_pass rfl rfl rfl rfl rfl ?_
      refine o_pass rfl rfl rfl rfl rfl ?_
      refine o_pass rfl rfl rfl rfl rfl ?_
      refine o_pass rfl rfl rfl rfl rfl ?_
      refine o_T (y_pickT rfl rfl) rfl ?_
      refine o_nil1 45 rfl rfl ?_
      refine c_condT rfl ?_
      refine c_seq ?_
      refine c_region ?_
      refine o_L (y_assign rfl) rfl rfl ?_
      refine o_nil0 rfl ?_
      refine c_ret ?_
      refine fun aX wX heX hsX => ret1 Tryz.results43 heX rfl (s_take (s_take (s_take s_nil))) ?_
      obtain ⟨e0, e1⟩ := wFlip_no (l := l) (i := i) (bit := bit) (fun x hx => by have := (List.getElem?_eq_some_iff.1 hx).1; rintro ⟨q1, _⟩; omega)
      rw [e0, e1]
      exact ⟨_, _, rfl, hw, rfl⟩
    · try simp only [decide_eq_true_eq, decide_eq_false_iff_not, Bool.not_eq_true', Bool.not_eq_false', Int.not_lt, Int.not_le, Decidable.not_not, beq_iff_eq, bne_iff_ne, ne_eq, beq_eq_false_iff_ne] at h78_1
      refine o_take rfl rfl rfl ?_
      obtain ⟨k, hik⟩ : ∃ k : Nat, i = (k : Int) := ⟨i.toNat, by omega⟩
      subst hik
      have hk : k < l.length := by omega
      obtain ⟨bw, cpw, cur, hv2, hg2, hO⟩ := (hw.lst (by omega)).open
      injection hv2 with e1 e2 e3
      subst e1 e3 hg2
      obtain ⟨br, ga, gb, hgd, hok, hagg, hraw, hrel, _⟩ := Fl.cut hO k hk
      have hbL := hok.len
      refine o_T (y_move rfl) rfl ?_
      refine o_take rfl rfl rfl ?_
      refine o_T (y_nilck rfl) rfl ?_
      refine o_take rfl rfl rfl ?_
      refine o_T (y_fa fl_98_0 rfl) rfl ?_
      refine o_take rfl rfl rfl ?_
      refine o_ld one_96 rfl m0 Wr.g0 rfl ?_
      refine o_take rfl rfl rfl ?_
      refine o_T (y_move rfl) rfl ?_
      refine o_take rfl rfl rfl ?_
      refine o_T (y_is sl_96 rfl rfl (by omega) (by omega)) rfl ?_
      refine o_take rfl rfl rfl ?_
      refine o_T (y_fa fl_130_2 rfl) rfl ?_
      refine o_take rfl rfl rfl ?_
      refine o_ld one_4 rfl (ms m0) (Fl.l_fl hO k hk (by omega)) rfl ?_
      refine o_T (y_pickF rfl rfl) rfl ?_
      refine o_T (y_move rfl) rfl ?_
      refine o_split 28 rfl (fun h78_2 => ?_) (fun h78_2 => ?_)
      · try simp only [decide_eq_true_eq, decide_eq_false_iff_not, Bool.not_eq_true', Bool.not_eq_false', Int.not_lt, Int.not_le, Decidable.not_not, beq_iff_eq, bne_iff_ne, ne_eq, beq_eq_false_iff_ne] at h78_2
        refine o_pass rfl rfl rfl rfl rfl ?_
        refine o_pass rfl rfl rfl rfl rfl ?_
        refine o_T (y_pickT rfl rfl) rfl ?_
        refine o_T (y_move rfl) rfl ?_
        refine o_pass rfl rfl rfl rfl rfl ?_
        refine o_pass rfl rfl rfl rfl rfl ?_
        refine o_pass rfl rfl rfl rfl rfl ?_
        refine o_pass rfl rfl rfl rfl rfl ?_
        refine o_pass rfl rfl rfl rfl rfl ?_
        refine o_pass rfl rfl rfl rfl rfl ?_
        refine o_pass rfl rfl rfl rfl rfl ?_
        refine o_pass rfl rfl rfl rfl rfl ?_
        refine o_pass rfl rfl rfl rfl rfl ?_
        refine o_pass rfl rfl rfl rfl rfl ?_
        refine o_pass rfl rfl rfl rfl rfl ?_
        refine o_pass rfl rfl rfl rfl rfl ?_
        refine o_T (y_pickT rfl rfl) rfl ?_
        refine o_nil1 45 rfl rfl ?_
        refine c_condT rfl ?_
        refine c_seq ?_
        refine c_region ?_
        refine o_L (y_assign rfl) rfl rfl ?_
        refine o_nil0 rfl ?_
        refine c_ret ?_
        refine fun aX wX heX hsX => ret1 Tryz.results43 heX rfl (s_take (s_take (s_take s_nil))) ?_
        obtain ⟨e0, e1⟩ := wFlip_no (l := l) (i := k) (bit := bit) (fun x hx => by rw [Int.toNat_natCast, List.getElem?_eq_getElem hk] at hx; injection hx with hx; subst hx; rintro ⟨q1, q2, q3, q4⟩; rw [h78_2] at q2; exact Bool.noConfusion q2)
        rw [e0, e1]
        exact ⟨_, _, rfl, hw, rfl⟩
      · try simp only [decide_eq_true_eq, decide_eq_false_iff_not, Bool.not_eq_true', Bool.not_eq_false', Int.not_lt, Int.not_le, Decidable.not_not, beq_iff_eq, bne_iff_ne, ne_eq, beq_eq_false_iff_ne] at h78_2
        refine o_take rfl rfl rfl ?_
        refine o_T (y_move rfl) rfl ?_
        refine o_take rfl rfl rfl ?_
        refine o_T (y_lss rfl rfl) rfl ?_
        refine o_T (y_pickF rfl rfl) rfl ?_
        refine o_T (y_move rfl) rfl ?_
        refine o_split 32 rfl (fun h78_3 => ?_) (fun h78_3 => ?_)
        · try simp only [decide_eq_true_eq, decide_eq_false_iff_not, Bool.not_eq_true', Bool.not_eq_false', Int.not_lt, Int.not_le, Decidable.not_not, beq_iff_eq, bne_iff_ne, ne_eq, beq_eq_false_iff_ne] at h78_3
          refine o_pass rfl rfl rfl rfl rfl ?_
          refine o_pass rfl rfl rfl rfl rfl ?_
          refine o_pass rfl rfl rfl rfl rfl ?_
          refine o_pass rfl rfl rfl rfl rfl ?_
          refine o_pass rfl rfl rfl rfl rfl ?_
          refine o_pass rfl rfl rfl rfl rfl ?_
          refine o_pass rfl rfl rfl rfl rfl ?_
          refine o_pass rfl rfl rfl rfl rfl ?_
          refine o_pass rfl rfl rfl rfl rfl ?_
          refine o_pass rfl rfl rfl rfl rfl ?_
          refine o_pass rfl rfl rfl rfl rfl ?_
          refine o_pass rfl rfl rfl rfl rfl ?_
          refine o_T (y_pickT rfl rfl) rfl ?_
          refine o_nil1 45 rfl rfl ?_
          refine c_condT rfl ?_
          refine c_seq ?_
          refine c_region ?_
          refine o_L (y_assign rfl) rfl rfl ?_
          refine o_nil0 rfl ?_
          refine c_ret ?_
          refine fun aX wX heX hsX => ret1 Tryz.results43 heX rfl (s_take (s_take (s_take s_nil))) ?_
          obtain ⟨e0, e1⟩ := wFlip_no (l := l) (i := k) (bit := bit) (fun x hx => by rw [Int.toNat_natCast, List.getElem?_eq_getElem hk] at hx; injection hx with hx; subst hx; rintro ⟨q1, q2, q3, q4⟩; omega)
          rw [e0, e1]
          exact ⟨_, _, rfl, hw, rfl⟩
        · try simp only [decide_eq_true_eq, decide_eq_false_iff_not, Bool.not_eq_true', Bool.not_eq_false', Int.not_lt, Int.not_le, Decidable.not_not, beq_iff_eq, bne_iff_ne, ne_eq, beq_eq_false_iff_ne] at h78_3
          refine o_take rfl rfl rfl ?_
          obtain ⟨n, hin⟩ : ∃ n : Nat, bit = (n : Int) := ⟨bit.toNat, by omega⟩
          subst hin
          refine o_T (y_move rfl) rfl ?_
          refine o_take rfl rfl rfl ?_
          refine o_T (y_quo rfl rfl (by decide) (td8 (by omega))) rfl ?_
          refine o_take rfl rfl rfl ?_
          refine o_T (y_move rfl) rfl ?_
          refine o_take rfl rfl rfl ?_
          refine o_T (y_nilck rfl) rfl ?_
          refine o_take rfl rfl rfl ?_
          refine o_T (y_fa fl_98_0 rfl) rfl ?_
          refine o_take rfl rfl rfl ?_
          refine o_ld one_96 rfl m0 Wr.g0 rfl ?_
          refine o_take rfl rfl rfl ?_
          refine o_T (y_move rfl) rfl ?_
          refine o_take rfl rfl rfl ?_
          refine o_T (y_is sl_96 rfl rfl (by omega) (by omega)) rfl ?_
          refine o_take rfl rfl rfl ?_
          refine o_T (y_fa fl_130_0 rfl) rfl ?_
          refine o_take rfl rfl rfl ?_
          refine o_ld one_81 rfl (ms m0) (hraw _ (by omega)) rfl ?_
          refine o_take rfl rfl rfl ?_
          refine o_T (y_len Tryz.underlying81 rfl) rfl ?_
          refine o_take rfl rfl rfl ?_
          refine o_T (y_geq rfl rfl) rfl ?_
          refine o_T (y_pickF rfl rfl) rfl ?_
          refine o_nil1 45 rfl rfl ?_
          refine c_cond rfl (fun h78_4 => ?_) (fun h78_4 => ?_)
          · try simp only [decide_eq_true_eq, decide_eq_false_iff_not, Bool.not_eq_true', Bool.not_eq_false', Int.not_lt, Int.not_le, Decidable.not_not, beq_iff_eq, bne_iff_ne, ne_eq, beq_eq_false_iff_ne] at h78_4
            refine c_seq ?_
            refine c_region ?_
            refine o_L (y_assign rfl) rfl rfl ?_
            refine o_nil0 rfl ?_
            refine c_ret ?_
            refine fun aX wX heX hsX => ret1 Tryz.results43 heX rfl (s_take (s_take (s_take s_nil))) ?_
            obtain ⟨e0, e1⟩ := wFlip_no (l := l) (i := k) (bit := n) (fun x hx => by rw [Int.toNat_natCast, List.getElem?_eq_getElem hk] at hx; injection hx with hx; subst hx; rintro ⟨q1, q2, q3, q4⟩; omega)
            rw [e0, e1]
            exact ⟨_, _, rfl, hw, rfl⟩
          · try simp only [decide_eq_true_eq, decide_eq_false_iff_not, Bool.not_eq_true', Bool.not_eq_false', Int.not_lt, Int.not_le, Decidable.not_not, beq_iff_eq, bne_iff_ne, ne_eq, beq_eq_false_iff_ne] at h78_4
            refine c_skip ?_
            refine c_seq ?_
            have hn8 : n / 8 < l[k].raw.length := by omega
            refine c_front (s_get (ks (ks k0)) (s_get k0 (s_get k0 s_nil))) ?_
            refine c_split3 hgd ?_
            refine c_region ?_
            refine o_T (y_move rfl) rfl ?_
            refine o_T (y_nilck rfl) rfl ?_
            refine o_T (y_fa fl_98_0 rfl) rfl ?_
            refine o_ld one_96 rfl (ms (ms m0)) Wr.g0 rfl ?_
            refine o_T (y_move rfl) rfl ?_
            refine o_T (y_is sl_96 rfl rfl (by omega) (by omega)) rfl ?_
            refine o_T (y_fa fl_130_0 rfl) rfl ?_
            refine o_ld one_81 rfl (ms (ms (ms m0))) (hraw _ (by omega)) rfl ?_
            refine o_T (y_move rfl) rfl ?_
            refine o_T (y_quo rfl rfl (by decide) (td8 (by omega))) rfl ?_
            refine o_T (y_is sl_81 rfl rfl (by omega) (by omega)) rfl ?_
            refine o_ld one_5 rfl m0 ((BytAt.ful (by first | rfl | assumption | omega) (by exact hok.b) (by omega)).getD (by omega) rfl) rfl ?_
            refine o_T (y_move rfl) rfl ?_
            refine o_T (y_rem rfl rfl (by decide) tm8) rfl ?_
            refine o_T (y_conv Tryz.underlying3 Tryz.underlying131 rfl (w64ui (by omega))) rfl ?_
            refine o_T (y_shl rfl rfl (by omega) (shl_one (n := n % 8) rfl (by show n % 8 < 8; omega) (fun z => nomatch z))) rfl ?_
            refine o_T (y_xor rfl rfl (flip_bit (BytAt.rng (BytAt.full hok.b (by omega)) _))) rfl ?_
            refine o_T (y_is sl_81 rfl rfl (by omega) (by omega)) rfl ?_
            refine o_st one_5 rfl rfl rfl r0 (bV_set _ _ _ rfl) (bV_size _ (by first | omega | (simp only [List.length_set, List.length_replicate]; omega) | (simp <;> omega))) ?_
            refine o_nil0 rfl ?_
            refine c_seq ?_
            have ef : l[k].raw.set ((n / 8 : Nat) : Int).toNat (((l[k].raw.getD ((n / 8 : Nat) : Int).toNat 0).toNat ^^^ 2 ^ (n % 8) : Nat) : Int) = flipRaw l[k].raw n := by unfold flipRaw; simp only [Int.toNat_natCast]
            rw [ef]
            have hO2 := hrel (flipRaw l[k].raw n) (flipRaw_len _ _) (flipRaw_b hok.b)
            refine c_join3 (g := ga ++ byG br (flipRaw l[k].raw n) 5 ++ gb) rfl ?_
            have hk2 : k < (l.set k { l[k] with raw := flipRaw l[k].raw n }).length := by rw [List.length_set]; exact hk
            refine c_region ?_
            refine o_T (y_move rfl) rfl ?_
            refine o_T (y_nilck rfl) rfl ?_
            refine o_T (y_fa fl_98_0 rfl) rfl ?_
            refine o_ld one_96 rfl (ms m0) Wr.g0 rfl ?_
            refine o_T (y_move rfl) rfl ?_
            refine o_T (y_is sl_96 rfl rfl (by omega) (by omega)) rfl ?_
            refine o_T (y_fa fl_130_2 rfl) rfl ?_
            refine o_st one_4 rfl rfl rfl (rs (rs r0)) (set_at (o' := 0 + k * 3 + 2) (by omega)) (Fl.bnd hO2 k hk2 2 (by omega) (by omega)) ?_
            have hO3 := Fl.s_fl hO2 k hk2 (o := 0 + k * 3 + 2) rfl true 
            refine o_nil0 rfl ?_
            refine c_seq ?_
            refine c_region ?_
            refine o_L (y_assign rfl) rfl rfl ?_
            refine o_nil0 rfl ?_
            refine c_ret ?_
            refine fun aX wX heX hsX => ret1 Tryz.results43 heX rfl (s_get (ks k0) (s_get (ks k0) (s_get k0 s_nil))) ?_
            obtain ⟨e0, e1⟩ := wFlip_yes hk h78_2 hn8
            rw [e0, e1]
            exact ⟨_, _, rfl, lstN_of_open hO3 (by rw [List.length_set, List.length_set]), rfl⟩

end Go.Proofs.Qxb6500351aGreat
