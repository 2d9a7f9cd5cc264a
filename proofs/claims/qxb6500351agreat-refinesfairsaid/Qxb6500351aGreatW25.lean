/- MADE BY PROGRAM (tools/gen.py over tools/specs351.py): walks. -/
import Derived.Test.Qxb6500351aGreatFacts
import Derived.Test.Qxb6500351aGreatRp2
set_option linter.unusedVariables false
set_option linter.unusedSimpArgs false
namespace Go.Proofs.Qxb6500351aGreat
open Go.Eng
set_option maxRecDepth 20000
set_option maxHeartbeats 4000000
/-- (*e2e/ip.IP).Input -/
theorem t115 (b : Nat) (p : Ipt) (b2 o n cap e : Nat) (cs : Array Value) (l : List Int) (ok : p.Ok) (hy : BytAt o n cap cs l) : Trip Tryz.prog 115 #[.pointer (some ⟨b, 0, none⟩), .slice (some ⟨b2, o, none⟩) n cap] [[(b, .cells p.enc 153 (0, 0))], [(b2, .cells cs e (0, 0))]] (fun u S' => ((p.inp l).1 ≠ 0 ∧ u = .tuple #[.agg Dg.zero.enc, .int .i64 (p.inp l).1] ∧ S' = [[(b, .cells (p.inp l).2.1.enc 153 (0, 0))], [(b2, .cells cs e (0, 0))]]) ∨ ((p.inp l).1 = 0 ∧ ∃ b3, u = .tuple #[.agg (Dg.mk (l.getD 2 0) p.addr (l.getD 0 0) (byV b3 (p.inp l).2.2)).enc, .int .i64 0] ∧ S' = [byG b3 (p.inp l).2.2 5, [(b, .cells (p.inp l).2.1.enc 153 (0, 0))], [(b2, .cells cs e (0, 0))]])) := by
  have hn := hy.n_eq
  have hl := hy.len
  have hcp := hy.cap
  have hb := hy.bytes
  have ok1 := ok.addr
  have u0 := hy.rng 0
  have u1 := hy.rng 1
  have u2 := hy.rng 2
  have u3 := hy.rng 3
  have u4 := hy.rng 4
  have u5 := hy.rng 5
  have u6 := hy.rng 6
  have u7 := hy.rng 7
  refine fn_entry (args := [.pointer (some ⟨b, 0, none⟩), .slice (some ⟨b2, o, none⟩) n cap]) Tryz.func115 rfl Tryz.ntmps115 rfl (fun w0 => ?_)
  refine c_seq ?_
  refine c_region ?_
  refine o_alloc ze_174 rfl rfl (fun b_1 => ?_)
  refine o_L (y_assign rfl) rfl rfl ?_
  refine o_nil0 rfl ?_
  refine c_seq ?_
  refine c_region ?_
  refine o_T (y_build st_174 rfl fb0) rfl ?_
  refine o_alloc ze_174 rfl rfl (fun b_2 => ?_)
  refine o_sta ag_174 rfl rfl rfl rfl r0 (setAll_full _ _ rfl) (of_ble rfl) ?_
  refine o_nil0 rfl ?_
  refine c_seq ?_
  refine c_seq ?_
  refine c_region ?_
  refine o_T (y_move rfl) rfl ?_
  refine o_T (y_len Tryz.underlying81 rfl) rfl ?_
  refine o_T (y_lss rfl rfl) rfl ?_
  refine o_nil1 21 rfl rfl ?_
  refine c_cond rfl (fun h61 => ?_) (fun h61 => ?_)
  · try simp only [decide_eq_true_eq, decide_eq_false_iff_not, Bool.not_eq_true', Bool.not_eq_false', Int.not_lt, Int.not_le, Decidable.not_not, beq_iff_eq, bne_iff_ne, ne_eq, beq_eq_false_iff_ne] at h61
    refine c_seq ?_
    refine c_region ?_
    refine o_ldw ag_174 rfl m0 rfl rfl ?_
    refine o_sta ag_174 rfl rfl rfl rfl (rs r0) (setAll_full _ _ rfl) (of_ble rfl) ?_
    refine o_L (y_assign rfl) rfl rfl ?_
    refine o_nil0 rfl ?_
    refine c_ret ?_
    refine fun aX wX heX hsX => retct Tryz.results115 heX hsX rfl rfl ag_174 (ms m0) rfl (s_skip (s_skip (s_take (s_take s_nil)))) ?_
    have e1 : p.inp l = (1, p, []) := by unfold Ipt.inp; (repeat' split) <;> first | rfl | (exfalso; omega)
    rw [e1]
    exact .inl ⟨by show (1 : Int) ≠ 0; decide, rfl, rfl⟩
  · try simp only [decide_eq_true_eq, decide_eq_false_iff_not, Bool.not_eq_true', Bool.not_eq_false', Int.not_lt, Int.not_le, Decidable.not_not, beq_iff_eq, bne_iff_ne, ne_eq, beq_eq_false_iff_ne] at h61
    refine c_skip ?_
    refine c_seq ?_
    refine c_region ?_
    refine o_T (y_move rfl) rfl ?_
    refine o_T (y_is sl_81 rfl rfl (by omega) (by omega)) rfl ?_
    refine o_ld one_5 rfl (ms (ms (ms m0))) (hy.getD (i := 6) (by omega) rfl) rfl ?_
    refine o_T (y_conv Tryz.underlying5 Tryz.underlying3 rfl (w64y hy)) rfl ?_
    refine o_L (y_assign rfl) rfl rfl ?_
    refine o_nil0 rfl ?_
    refine c_seq ?_
    refine c_seq ?_
    refine c_region ?_
    refine o_T (y_move rfl) rfl ?_
    refine o_T (y_move rfl) rfl ?_
    refine o_T (y_len Tryz.underlying81 rfl) rfl ?_
    refine o_T (y_sub rfl rfl (w64 (by omega))) rfl ?_
    refine o_T (y_neq rfl rfl) rfl ?_
    refine o_nil1 31 rfl rfl ?_
    refine c_cond rfl (fun h65 => ?_) (fun h65 => ?_)
    · try simp only [decide_eq_true_eq, decide_eq_false_iff_not, Bool.not_eq_true', Bool.not_eq_false', Int.not_lt, Int.not_le, Decidable.not_not, beq_iff_eq, bne_iff_ne, ne_eq, beq_eq_false_iff_ne] at h65
      refine c_seq ?_
      refine c_region ?_
      refine o_ldw ag_174 rfl m0 rfl rfl ?_
      refine o_sta ag_174 rfl rfl rfl rfl (rs r0) (setAll_full _ _ rfl) (of_ble rfl) ?_
      refine o_L (y_assign rfl) rfl rfl ?_
      refine o_nil0 rfl ?_
      refine c_ret ?_
      refine fun aX wX heX hsX => retct Tryz.results115 heX hsX rfl rfl ag_174 (ms m0) rfl (s_skip (s_skip (s_take (s_take s_nil)))) ?_
      have e1 : p.inp l = (3, p, []) := by unfold Ipt.inp; (repeat' split) <;> first | rfl | (exfalso; omega)
      rw [e1]
      exact .inl ⟨by show (3 : Int) ≠ 0; decide, rfl, rfl⟩
    · try simp only [decide_eq_true_eq, decide_eq_false_iff_not, Bool.not_eq_true', Bool.not_eq_false', Int.not_lt, Int.not_le, Decidable.not_not, beq_iff_eq, bne_iff_ne, ne_eq, beq_eq_false_iff_ne] at h65
      refine c_skip ?_
      refine c_seq ?_
      refine c_region ?_
      refine o_T (y_move rfl) rfl ?_
      refine o_callrv en_148 rfl (t148 _ _ _ _ _ _ _ hy (by omega)) (s_skip (s_skip (s_skip (s_take s_nil)))) rfl ?_
      refine o_L (y_assign rfl) rfl rfl ?_
      refine o_nil0 rfl ?_
      refine c_seq ?_
      refine c_seq ?_
      refine c_region ?_
      refine o_T (y_move rfl) rfl ?_
      refine o_T (y_move rfl) rfl ?_
      refine o_T (y_is sl_81 rfl rfl (by omega) (by omega)) rfl ?_
      refine o_ld one_5 rfl (ms (ms (ms m0))) (hy.getD (i := 7) (by omega) rfl) rfl ?_
      refine o_T (y_neq rfl rfl) rfl ?_
      refine o_nil1 39 rfl rfl ?_
      refine c_cond rfl (fun h69 => ?_) (fun h69 => ?_)
      · try simp only [decide_eq_true_eq, decide_eq_false_iff_not, Bool.not_eq_true', Bool.not_eq_false', Int.not_lt, Int.not_le, Decidable.not_not, beq_iff_eq, bne_iff_ne, ne_eq, beq_eq_false_iff_ne] at h69
        refine c_seq ?_
        refine c_region ?_
        refine o_ldw ag_174 rfl m0 rfl rfl ?_
        refine o_sta ag_174 rfl rfl rfl rfl (rs r0) (setAll_full _ _ rfl) (of_ble rfl) ?_
        refine o_L (y_assign rfl) rfl rfl ?_
        refine o_nil0 rfl ?_
        refine c_ret ?_
        refine fun aX wX heX hsX => retct Tryz.results115 heX hsX rfl rfl ag_174 (ms m0) rfl (s_skip (s_skip (s_take (s_take s_nil)))) ?_
        have e1 : p.inp l = (4, p, []) := by unfold Ipt.inp; (repeat' split) <;> first | rfl | (exfalso; omega)
        rw [e1]
        exact .inl ⟨by show (4 : Int) ≠ 0; decide, rfl, rfl⟩
      · try simp only [decide_eq_true_eq, decide_eq_false_iff_not, Bool.not_eq_true', Bool.not_eq_false', Int.not_lt, Int.not_le, Decidable.not_not, beq_iff_eq, bne_iff_ne, ne_eq, beq_eq_false_iff_ne] at h69
        refine c_skip ?_
        refine c_seq ?_
        refine c_seq ?_
        refine c_region ?_
        refine o_T (y_move rfl) rfl ?_
        refine o_T (y_is sl_81 rfl rfl (by omega) (by omega)) rfl ?_
        refine o_ld one_5 rfl (ms (ms (ms m0))) (hy.getD (i := 1) (by omega) rfl) rfl ?_
        refine o_T (y_eql rfl rfl) rfl ?_
        refine o_nil1 44 rfl rfl ?_
        refine c_cond rfl (fun h72 => ?_) (fun h72 => ?_)
        · try simp only [decide_eq_true_eq, decide_eq_false_iff_not, Bool.not_eq_true', Bool.not_eq_false', Int.not_lt, Int.not_le, Decidable.not_not, beq_iff_eq, bne_iff_ne, ne_eq, beq_eq_false_iff_ne] at h72
          refine c_seq ?_
          refine c_region ?_
          refine o_ldw ag_174 rfl m0 rfl rfl ?_
          refine o_sta ag_174 rfl rfl rfl rfl (rs r0) (setAll_full _ _ rfl) (of_ble rfl) ?_
          refine o_L (y_assign rfl) rfl rfl ?_
          refine o_nil0 rfl ?_
          refine c_ret ?_
          refine fun aX wX heX hsX => retct Tryz.results115 heX hsX rfl rfl ag_174 (ms m0) rfl (s_skip (s_skip (s_take (s_take s_nil)))) ?_
          have e1 : p.inp l = (8, p, []) := by unfold Ipt.inp; (repeat' split) <;> first | rfl | (exfalso; omega)
          rw [e1]
          exact .inl ⟨by show (8 : Int) ≠ 0; decide, rfl, rfl⟩
        · try simp only [decide_eq_true_eq, decide_eq_false_iff_not, Bool.not_eq_true', Bool.not_eq_false', Int.not_lt, Int.not_le, Decidable.not_not, beq_iff_eq, bne_iff_ne, ne_eq, beq_eq_false_iff_ne] at h72
          refine c_skip ?_
          refine c_seq ?_
          refine c_seq ?_
          refine c_draw #[true, true, true, true, true, true, true, true, true] rfl (n := 9) rfl ?_
          refine d_T 0 rfl (by kernel_rfl) rfl (y_move rfl) rfl ?_
          refine d_T 1 rfl (by kernel_rfl) rfl (y_is sl_81 rfl rfl (by omega) (by omega)) rfl ?_
          refine d_ld 2 rfl (by kernel_rfl) one_5 rfl (fun x hx => hx) (ms (ms (ms m0))) (hy.getD (i := 3) (by omega) rfl) rfl ?_
          refine d_T 3 rfl (by kernel_rfl) rfl (y_conv Tryz.underlying5 Tryz.underlying3 rfl (w64y hy)) rfl ?_
          refine d_T 4 rfl (by kernel_rfl) rfl (y_move rfl) rfl ?_
          refine d_T 5 rfl (by kernel_rfl) rfl (y_nilck rfl) rfl ?_
          refine d_T 6 rfl (by kernel_rfl) rfl (y_fa fl_153_0 rfl) rfl ?_
          refine d_ld 7 rfl (by kernel_rfl) one_3 rfl (fun x hx => hx) (ms (ms m0)) Ipt.g0 rfl ?_
          refine d_T 8 rfl (by kernel_rfl) rfl (y_neq rfl rfl) rfl ?_
          refine d_nil1 54 (by kernel_rfl) rfl rfl ?_
          refine c_cond rfl (fun h75 => ?_) (fun h75 => ?_)
          · try simp only [decide_eq_true_eq, decide_eq_false_iff_not, Bool.not_eq_true', Bool.not_eq_false', Int.not_lt, Int.not_le, Decidable.not_not, beq_iff_eq, bne_iff_ne, ne_eq, beq_eq_false_iff_ne] at h75
            refine c_seq ?_
            refine c_region ?_
            refine o_ldw ag_174 rfl m0 rfl rfl ?_
            refine o_sta ag_174 rfl rfl rfl rfl (rs r0) (setAll_full _ _ rfl) (of_ble rfl) ?_
            refine o_L (y_assign rfl) rfl rfl ?_
            refine o_nil0 rfl ?_
            refine c_ret ?_
            refine fun aX wX heX hsX => retct Tryz.results115 heX hsX rfl rfl ag_174 (ms m0) rfl (s_skip (s_skip (s_take (s_take s_nil)))) ?_
            have e1 : p.inp l = (7, p, []) := by unfold Ipt.inp; (repeat' split) <;> first | rfl | (exfalso; omega)
            rw [e1]
            exact .inl ⟨by show (7 : Int) ≠ 0; decide, rfl, rfl⟩
          · try simp only [decide_eq_true_eq, decide_eq_false_iff_not, Bool.not_eq_true', Bool.not_eq_false', Int.not_lt, Int.not_le, Decidable.not_not, beq_iff_eq, bne_iff_ne, ne_eq, beq_eq_false_iff_ne] at h75
            refine c_skip ?_
            refine c_seq ?_
            refine c_region ?_
            refine o_T (y_move rfl) rfl ?_
            refine o_T (y_is sl_81 rfl rfl (by omega) (by omega)) rfl ?_
            refine o_ld one_5 rfl (ms (ms (ms m0))) (hy.getD (i := 5) (by omega) rfl) rfl ?_
            refine o_T (y_and rfl rfl (and127 u5)) rfl ?_
            refine o_T (y_conv Tryz.underlying5 Tryz.underlying3 rfl (w64 (by omega))) rfl ?_
            refine o_L (y_assign rfl) rfl rfl ?_
            refine o_nil0 rfl ?_
            refine c_seq ?_
            refine c_region ?_
            refine o_T (y_move rfl) rfl ?_
            refine o_T (y_is sl_81 rfl rfl (by omega) (by omega)) rfl ?_
            refine o_ld one_5 rfl (ms (ms (ms m0))) (hy.getD (i := 5) (by omega) rfl) rfl ?_
            refine o_T (y_and rfl rfl (and128 u5)) rfl ?_
            refine o_T (y_neq rfl rfl) rfl ?_
            refine o_L (y_assign rfl) rfl rfl ?_
            refine o_nil0 rfl ?_
            refine c_seq ?_
            refine c_region ?_
            refine o_T (y_move rfl) rfl ?_
            refine o_T (y_move rfl) rfl ?_
            refine o_T (y_add rfl rfl (w64 (by omega))) rfl ?_
            refine o_L (y_assign rfl) rfl rfl ?_
            refine o_nil0 rfl ?_
            refine c_seq ?_
            refine c_seq ?_
            refine c_region ?_
            refine o_T (y_move rfl) rfl ?_
            refine o_T (y_gtr rfl rfl) rfl ?_
            refine o_nil1 70 rfl rfl ?_
            refine c_cond rfl (fun h81 => ?_) (fun h81 => ?_)
            · try simp only [decide_eq_true_eq, decide_eq_false_iff_not, Bool.not_eq_true', Bool.not_eq_false', Int.not_lt, Int.not_le, Decidable.not_not, beq_iff_eq, bne_iff_ne, ne_eq, beq_eq_false_iff_ne] at h81
              refine c_seq ?_
              refine c_region ?_
              refine o_ldw ag_174 rfl m0 rfl rfl ?_
              refine o_sta ag_174 rfl rfl rfl rfl (rs r0) (setAll_full _ _ rfl) (of_ble rfl) ?_
              refine o_L (y_assign rfl) rfl rfl ?_
              refine o_nil0 rfl ?_
              refine c_ret ?_
              refine fun aX wX heX hsX => retct Tryz.results115 heX hsX rfl rfl ag_174 (ms m0) rfl (s_skip (s_skip (s_take (s_take s_nil)))) ?_
              have e1 : p.inp l = (2, p, []) := by unfold Ipt.inp; (repeat' split) <;> first | rfl | (exfalso; omega)
              rw [e1]
              exact .inl ⟨by show (2 : Int) ≠ 0; decide, rfl, rfl⟩
            · try simp only [decide_eq_true_eq, decide_eq_false_iff_not, Bool.not_eq_true', Bool.not_eq_false', Int.not_lt, Int.not_le, Decidable.not_not, beq_iff_eq, bne_iff_ne, ne_eq, beq_eq_false_iff_ne] at h81
              refine c_skip ?_
              refine c_seq ?_
              refine c_seq ?_
              refine c_joinE (ι := Unit) (fun i => [(80, .bool (decide (l.getD 6 0 = 0 ∧ 0 < l.getD 5 0)))]) (fun i => True) (fun _ _ h => h) ?_ ?_
              · skip
                refine c_region ?_
                refine o_T (y_move rfl) rfl ?_
                refine o_T (y_eql rfl rfl) rfl ?_
                refine o_T (y_move rfl) rfl ?_
                refine o_split 74 rfl (fun h84 => ?_) (fun h84 => ?_)
                · try simp only [decide_eq_true_eq, decide_eq_false_iff_not, Bool.not_eq_true', Bool.not_eq_false', Int.not_lt, Int.not_le, Decidable.not_not, beq_iff_eq, bne_iff_ne, ne_eq, beq_eq_false_iff_ne] at h84
                  refine o_take rfl rfl rfl ?_
                  refine o_T (y_move rfl) rfl ?_
                  refine o_take rfl rfl rfl ?_
                  refine o_T (y_move rfl) rfl ?_
                  refine o_split 76 rfl (fun h84_1 => ?_) (fun h84_1 => ?_)
                  · try simp only [decide_eq_true_eq, decide_eq_false_iff_not, Bool.not_eq_true', Bool.not_eq_false', Int.not_lt, Int.not_le, Decidable.not_not, beq_iff_eq, bne_iff_ne, ne_eq, beq_eq_false_iff_ne] at h84_1
                    refine o_pass rfl rfl rfl rfl rfl ?_
                    refine o_pass rfl rfl rfl rfl rfl ?_
                    refine o_take rfl rfl rfl ?_
                    refine o_T (y_pickT rfl rfl) rfl ?_
                    refine o_T (y_pickT rfl rfl) rfl ?_
                    refine o_nil1 80 rfl rfl ?_
                    refine ⟨(), trivial, ⟨gte rfl (congrArg Value.bool (by first | exact (decide_eq_true (by omega)).symm | exact (decide_eq_false (by omega)).symm | exact decide_eq_decide.2 (by omega) | (rw [← decide_not]; exact decide_eq_decide.2 (by omega)) | (simp_all; done))), trivial⟩, ⟨rfl, rfl⟩, _, ((s_take (s_take (s_take (s_take s_nil)))))⟩
                  · try simp only [decide_eq_true_eq, decide_eq_false_iff_not, Bool.not_eq_true', Bool.not_eq_false', Int.not_lt, Int.not_le, Decidable.not_not, beq_iff_eq, bne_iff_ne, ne_eq, beq_eq_false_iff_ne] at h84_1
                    refine o_take rfl rfl rfl ?_
                    refine o_T (y_move rfl) rfl ?_
                    refine o_take rfl rfl rfl ?_
                    refine o_T (y_gtr rfl rfl) rfl ?_
                    refine o_take rfl rfl rfl ?_
                    refine o_T (y_pickF rfl rfl) rfl ?_
                    refine o_T (y_pickT rfl rfl) rfl ?_
                    refine o_nil1 80 rfl rfl ?_
                    refine ⟨(), trivial, ⟨gte rfl (congrArg Value.bool (by first | exact (decide_eq_true (by omega)).symm | exact (decide_eq_false (by omega)).symm | exact decide_eq_decide.2 (by omega) | (rw [← decide_not]; exact decide_eq_decide.2 (by omega)) | (simp_all; done))), trivial⟩, ⟨rfl, rfl⟩, _, ((s_take (s_take (s_take (s_take s_nil)))))⟩
                · try simp only [decide_eq_true_eq, decide_eq_false_iff_not, Bool.not_eq_true', Bool.not_eq_false', Int.not_lt, Int.not_le, Decidable.not_not, beq_iff_eq, bne_iff_ne, ne_eq, beq_eq_false_iff_ne] at h84
                  refine o_pass rfl rfl rfl rfl rfl ?_
                  refine o_pass rfl rfl rfl rfl rfl ?_
                  refine o_passU rfl rfl rfl rfl ?_
                  refine o_passU rfl rfl rfl rfl ?_
                  refine o_pass rfl rfl rfl rfl rfl ?_
                  refine o_T (y_pickF rfl rfl) rfl ?_
                  refine o_nil1 80 rfl rfl ?_
                  refine ⟨(), trivial, ⟨gte rfl (congrArg Value.bool (by first | exact (decide_eq_true (by omega)).symm | exact (decide_eq_false (by omega)).symm | exact decide_eq_decide.2 (by omega) | (rw [← decide_not]; exact decide_eq_decide.2 (by omega)) | (simp_all; done))), trivial⟩, ⟨rfl, rfl⟩, _, ((s_take (s_take (s_take (s_take s_nil)))))⟩
              · rintro ⟨⟩ hI
                try dsimp only at hI
                refine c_cond rfl (fun h84 => ?_) (fun h84 => ?_)
                · try simp only [decide_eq_true_eq, decide_eq_false_iff_not, Bool.not_eq_true', Bool.not_eq_false', Int.not_lt, Int.not_le, Decidable.not_not, beq_iff_eq, bne_iff_ne, ne_eq, beq_eq_false_iff_ne] at h84
                  refine c_seq ?_
                  refine c_region ?_
                  refine o_ldw ag_174 rfl m0 rfl rfl ?_
                  refine o_sta ag_174 rfl rfl rfl rfl (rs r0) (setAll_full _ _ rfl) (of_ble rfl) ?_
                  refine o_L (y_assign rfl) rfl rfl ?_
                  refine o_nil0 rfl ?_
                  refine c_ret ?_
                  refine fun aX wX heX hsX => retct Tryz.results115 heX hsX rfl rfl ag_174 (ms m0) rfl (s_skip (s_skip (s_take (s_take s_nil)))) ?_
                  have e1 : p.inp l = (9, p, []) := by unfold Ipt.inp; (repeat' split) <;> first | rfl | (exfalso; omega)
                  rw [e1]
                  exact .inl ⟨by show (9 : Int) ≠ 0; decide, rfl, rfl⟩
                · try simp only [decide_eq_true_eq, decide_eq_false_iff_not, Bool.not_eq_true', Bool.not_eq_false', Int.not_lt, Int.not_le, Decidable.not_not, beq_iff_eq, bne_iff_ne, ne_eq, beq_eq_false_iff_ne] at h84
                  refine c_skip ?_
                  refine c_seq ?_
                  refine c_draw #[true, true, true, true, true, true, true, true, true, true, true, true, true, true, false] rfl (n := 15) rfl ?_
                  refine d_T 0 rfl (by kernel_rfl) rfl (y_move rfl) rfl ?_
                  refine d_T 1 rfl (by kernel_rfl) rfl (y_is sl_81 rfl rfl (by omega) (by omega)) rfl ?_
                  refine d_ld 2 rfl (by kernel_rfl) one_5 rfl (fun x hx => hx) (ms (ms (ms m0))) (hy.getD (i := 2) (by omega) rfl) rfl ?_
                  refine d_T 3 rfl (by kernel_rfl) rfl (y_conv Tryz.underlying5 Tryz.underlying3 rfl (w64y hy)) rfl ?_
                  refine d_T 4 rfl (by kernel_rfl) rfl (y_move rfl) rfl ?_
                  refine d_T 5 rfl (by kernel_rfl) rfl (y_nilck rfl) rfl ?_
                  refine d_T 6 rfl (by kernel_rfl) rfl (y_fa fl_153_0 rfl) rfl ?_
                  refine d_ld 7 rfl (by kernel_rfl) one_3 rfl (fun x hx => hx) (ms (ms m0)) Ipt.g0 rfl ?_
                  refine d_T 8 rfl (by kernel_rfl) rfl (y_move rfl) rfl ?_
                  refine d_T 9 rfl (by kernel_rfl) rfl (y_is sl_81 rfl rfl (by omega) (by omega)) rfl ?_
                  refine d_ld 10 rfl (by kernel_rfl) one_5 rfl (fun x hx => hx) (ms (ms (ms m0))) (hy.getD (i := 0) (by omega) rfl) rfl ?_
                  refine d_T 11 rfl (by kernel_rfl) rfl (y_conv Tryz.underlying5 Tryz.underlying3 rfl (w64y hy)) rfl ?_
                  refine d_T 12 rfl (by kernel_rfl) rfl (y_build st_174 rfl (fb rfl rfl rfl Dg.s0 (fb rfl rfl rfl Dg.s1 (fb rfl rfl rfl Dg.s2 fb0)))) rfl ?_
                  refine d_hard 13 rfl (by kernel_rfl) ?_
                  refine o_alloc ze_174 rfl rfl (fun b_3 => ?_)
                  refine o_stop (fun _ => (fun x hx => (ms hx))) ?_
                  refine d_hard 14 rfl (by kernel_rfl) ?_
                  refine o_sta ag_174 rfl rfl rfl rfl r0 (setAll_full _ _ rfl) (of_ble rfl) ?_
                  refine o_stop (fun h => nomatch h) ?_
                  refine d_nil0 (by kernel_rfl) rfl ?_
                  refine c_seq ?_
                  refine c_seq ?_
                  refine c_joinE (ι := Unit) (fun i => [(100, .bool (decide (l.getD 5 0 = 0)))]) (fun i => True) (fun _ _ h => h) ?_ ?_
                  · skip
                    refine c_region ?_
                    refine o_T (y_move rfl) rfl ?_
                    refine o_T (y_eql rfl rfl) rfl ?_
                    refine o_T (y_move rfl) rfl ?_
                    refine o_split 97 rfl (fun h88 => ?_) (fun h88 => ?_)
                    · try simp only [decide_eq_true_eq, decide_eq_false_iff_not, Bool.not_eq_true', Bool.not_eq_false', Int.not_lt, Int.not_le, Decidable.not_not, beq_iff_eq, bne_iff_ne, ne_eq, beq_eq_false_iff_ne] at h88
                      refine o_take rfl rfl rfl ?_
                      refine o_T (y_move rfl) rfl ?_
                      refine o_take rfl rfl rfl ?_
                      refine o_T (y_not rfl) rfl ?_
                      refine o_T (y_pickT rfl rfl) rfl ?_
                      refine o_nil1 100 rfl rfl ?_
                      refine ⟨(), trivial, ⟨gte rfl (congrArg Value.bool (by first | exact (decide_eq_true (by omega)).symm | exact (decide_eq_false (by omega)).symm | exact decide_eq_decide.2 (by omega) | (rw [← decide_not]; exact decide_eq_decide.2 (by omega)) | (simp_all; done))), trivial⟩, ⟨rfl, rfl⟩, _, ((s_take (s_take (s_take (s_take (s_take s_nil))))))⟩
                    · try simp only [decide_eq_true_eq, decide_eq_false_iff_not, Bool.not_eq_true', Bool.not_eq_false', Int.not_lt, Int.not_le, Decidable.not_not, beq_iff_eq, bne_iff_ne, ne_eq, beq_eq_false_iff_ne] at h88
                      refine o_pass rfl rfl rfl rfl rfl ?_
                      refine o_pass rfl rfl rfl rfl rfl ?_
                      refine o_T (y_pickF rfl rfl) rfl ?_
                      refine o_nil1 100 rfl rfl ?_
                      refine ⟨(), trivial, ⟨gte rfl (congrArg Value.bool (by first | exact (decide_eq_true (by omega)).symm | exact (decide_eq_false (by omega)).symm | exact decide_eq_decide.2 (by omega) | (rw [← decide_not]; exact decide_eq_decide.2 (by omega)) | (simp_all; done))), trivial⟩, ⟨rfl, rfl⟩, _, ((s_take (s_take (s_take (s_take (s_take s_nil))))))⟩
                  · rintro ⟨⟩ hI
                    try dsimp only at hI
                    refine c_cond rfl (fun h88 => ?_) (fun h88 => ?_)
                    · try simp only [decide_eq_true_eq, decide_eq_false_iff_not, Bool.not_eq_true', Bool.not_eq_false', Int.not_lt, Int.not_le, Decidable.not_not, beq_iff_eq, bne_iff_ne, ne_eq, beq_eq_false_iff_ne] at h88
                      refine c_seq ?_
                      refine c_region ?_
                      refine o_T (y_move rfl) rfl ?_
                      refine o_T (y_sls sl_81 rfl (bS (i := 8) rfl (by omega)) bN (by omega) (by omega)) rfl ?_
                      refine o_call en_78 rfl (t78 _ _ _ _ _ _ _ (hy.sub 8 _ (by omega) (by omega))) (s_skip (s_skip (s_skip (s_skip (s_take s_nil))))) rfl ?_
                      rintro v S' ⟨b_4, rfl, rfl⟩
                      refine o_T (y_fa fl_174_3 rfl) rfl ?_
                      refine o_st one_81 rfl rfl rfl (rs (rs r0)) Dg.s3 (of_blt rfl) ?_
                      refine o_nil0 rfl ?_
                      refine c_seq ?_
                      refine c_region ?_
                      refine o_ldw ag_174 rfl (ms (ms m0)) rfl rfl ?_
                      refine o_sta ag_174 rfl rfl rfl rfl (rs (rs (rs (rs r0)))) (setAll_full _ _ rfl) (of_ble rfl) ?_
                      refine o_L (y_assign rfl) rfl rfl ?_
                      refine o_nil0 rfl ?_
                      refine c_ret ?_
                      refine fun aX wX heX hsX => retct Tryz.results115 heX hsX rfl rfl ag_174 (ms (ms (ms (ms m0)))) rfl (s_get (ks k0) (s_get (ks (ks (ks (ks k0)))) (s_get k0 s_nil))) ?_
                      have e1 : p.inp l = (0, p, l.drop 8) := by unfold Ipt.inp; (repeat' split) <;> first | rfl | (exfalso; omega)
                      have e2 : (l.drop 8).take (n - 8) = l.drop 8 := List.take_of_length_le (by rw [List.length_drop]; omega)
                      rw [e1]
                      rw [e2]
                      exact .inr ⟨rfl, _, rfl, rfl⟩
                    · try simp only [decide_eq_true_eq, decide_eq_false_iff_not, Bool.not_eq_true', Bool.not_eq_false', Int.not_lt, Int.not_le, Decidable.not_not, beq_iff_eq, bne_iff_ne, ne_eq, beq_eq_false_iff_ne] at h88
                      refine c_skip ?_
                      refine c_seq ?_
                      refine c_draw #[true, true, true, true, true, true, true, true, true, true] rfl (n := 10) rfl ?_
                      refine d_T 0 rfl (by kernel_rfl) rfl (y_fa fl_174_0 rfl) rfl ?_
                      refine d_ld 1 rfl (by kernel_rfl) one_3 rfl (fun x hx => hx) m0 Dg.g0 rfl ?_
                      refine d_T 2 rfl (by kernel_rfl) rfl (y_fa fl_174_2 rfl) rfl ?_
                      refine d_ld 3 rfl (by kernel_rfl) one_3 rfl (fun x hx => hx) m0 Dg.g2 rfl ?_
                      refine d_T 4 rfl (by kernel_rfl) rfl (y_move rfl) rfl ?_
                      refine d_T 5 rfl (by kernel_rfl) rfl (y_is sl_81 rfl rfl (by omega) (by omega)) rfl ?_
                      refine d_ld 6 rfl (by kernel_rfl) one_5 rfl (fun x hx => hx) (ms (ms (ms (ms m0)))) (hy.getD (i := 4) (by omega) rfl) rfl ?_
                      refine d_T 7 rfl (by kernel_rfl) rfl (y_conv Tryz.underlying5 Tryz.underlying3 rfl (w64y hy)) rfl ?_
                      refine d_hard 8 rfl (by kernel_rfl) ?_
                      refine o_callv en_149 rfl (t149 _ _ _ (by omega) (by omega) (by omega)) rfl ?_
                      refine o_stop (fun _ => (fun x hx => hx)) ?_
                      refine d_L 9 rfl (by kernel_rfl) rfl (y_assign rfl) rfl rfl ?_
                      refine d_nil0 (by kernel_rfl) rfl ?_
                      refine c_seq ?_
                      have kb := p.find_b (keyOf (l.getD 2 0) (l.getD 0 0) (l.getD 4 0))
                      have kv := p.vac_b
                      refine c_region ?_
                      refine o_T (y_move rfl) rfl ?_
                      refine o_T (y_move rfl) rfl ?_
                      refine o_callrv en_150 rfl (t150 _ _ _) (s_skip (s_skip (s_skip (s_take s_nil)))) rfl ?_
                      refine o_L (y_assign rfl) rfl rfl ?_
                      refine o_nil0 rfl ?_
                      refine c_seq ?_
                      refine c_seq ?_
                      refine c_region ?_
                      refine o_T (y_move rfl) rfl ?_
                      refine o_T (y_lss rfl rfl) rfl ?_
                      refine o_nil1 119 rfl rfl ?_
                      refine c_front (s_get (ks (ks (ks k0))) (s_get k0 (s_get k0 (s_get k0 (s_get k0 s_nil))))) ?_
                      refine c_joinD 1 (ι := Nat × Ipt) (fun i => [(14, .int .i64 (i.1 : Int))]) (fun i => [[(b, .cells i.2.enc 153 (0, 0))]]) (fun i => i.1 < 3 ∧ i.2.Ok ∧ p.look (keyOf (l.getD 2 0) (l.getD 0 0) (l.getD 4 0)) = some i) (fun _ _ h => h) ?_ ?_
                      · skip
                        refine c_cond rfl (fun h94 => ?_) (fun h94 => ?_)
                        · try simp only [decide_eq_true_eq, decide_eq_false_iff_not, Bool.not_eq_true', Bool.not_eq_false', Int.not_lt, Int.not_le, Decidable.not_not, beq_iff_eq, bne_iff_ne, ne_eq, beq_eq_false_iff_ne] at h94
                          refine c_seq ?_
                          refine c_region ?_
                          refine o_T (y_move rfl) rfl ?_
                          refine o_callrv en_151 rfl (t151 _ _) (s_take s_nil) rfl ?_
                          refine o_L (y_assign rfl) rfl rfl ?_
                          refine o_nil0 rfl ?_
                          refine c_seq ?_
                          refine c_seq ?_
                          refine c_region ?_
                          refine o_T (y_move rfl) rfl ?_
                          refine o_T (y_lss rfl rfl) rfl ?_
                          refine o_nil1 123 rfl rfl ?_
                          refine c_cond rfl (fun h96 => ?_) (fun h96 => ?_)
                          · try simp only [decide_eq_true_eq, decide_eq_false_iff_not, Bool.not_eq_true', Bool.not_eq_false', Int.not_lt, Int.not_le, Decidable.not_not, beq_iff_eq, bne_iff_ne, ne_eq, beq_eq_false_iff_ne] at h96
                            refine c_seq ?_
                            refine c_region ?_
                            refine o_ldw ag_174 rfl (ms (ms m0)) rfl rfl ?_
                            refine o_sta ag_174 rfl rfl rfl rfl (rs (rs (rs r0))) (setAll_full _ _ rfl) (of_ble rfl) ?_
                            refine o_L (y_assign rfl) rfl rfl ?_
                            refine o_nil0 rfl ?_
                            refine c_ret ?_
                            refine fun aX wX heX hsX => retct Tryz.results115 heX hsX rfl rfl ag_174 (ms (ms (ms m0))) rfl (s_take (s_skip (s_skip (s_skip (s_take s_nil))))) ?_
                            rw [Ipt.inp_none (by omega) (by omega) (by omega) (by omega) (by omega) (by omega) (by omega) (by omega) h94 h96]
                            exact .inl ⟨by show (11 : Int) ≠ 0; decide, rfl, rfl⟩
                          · try simp only [decide_eq_true_eq, decide_eq_false_iff_not, Bool.not_eq_true', Bool.not_eq_false', Int.not_lt, Int.not_le, Decidable.not_not, beq_iff_eq, bne_iff_ne, ne_eq, beq_eq_false_iff_ne] at h96
                            refine c_skip ?_
                            refine c_seq ?_
                            refine c_region ?_
                            refine o_T (y_move rfl) rfl ?_
                            refine o_T (y_move rfl) rfl ?_
                            refine o_T (y_nilck rfl) rfl ?_
                            refine o_T (y_fa fl_153_3 rfl) rfl ?_
                            refine o_T (y_ia ar_151 rfl rfl (by omega) (by omega)) rfl ?_
                            refine o_T (y_fa fl_150_0 rfl) rfl ?_
                            refine o_st one_4 rfl rfl rfl r0 (Ipt.s_tab_used p.vacant.toNat (by omega) (by omega)) (by simp only [Ipt.size]; omega) ?_
                            refine o_nil0 rfl ?_
                            refine c_seq ?_
                            refine c_region ?_
                            refine o_T (y_move rfl) rfl ?_
                            refine o_T (y_move rfl) rfl ?_
                            refine o_T (y_move rfl) rfl ?_
                            refine o_T (y_nilck rfl) rfl ?_
                            refine o_T (y_fa fl_153_3 rfl) rfl ?_
                            refine o_T (y_ia ar_151 rfl rfl (by omega) (by omega)) rfl ?_
                            refine o_T (y_fa fl_150_1 rfl) rfl ?_
                            refine o_st one_3 rfl rfl rfl r0 (Ipt.s_tab_key p.vacant.toNat (by omega) (by omega)) (by simp only [Ipt.size]; omega) ?_
                            refine o_nil0 rfl ?_
                            refine c_seq ?_
                            refine c_region ?_
                            refine o_T (y_move rfl) rfl ?_
                            refine o_T (y_move rfl) rfl ?_
                            refine o_T (y_nilck rfl) rfl ?_
                            refine o_T (y_fa fl_153_3 rfl) rfl ?_
                            refine o_T (y_ia ar_151 rfl rfl (by omega) (by omega)) rfl ?_
                            refine o_T (y_fa fl_150_2 rfl) rfl ?_
                            refine o_st one_3 rfl rfl rfl r0 (Ipt.s_tab_left p.vacant.toNat (by omega) (by omega)) (by simp only [Ipt.size]; omega) ?_
                            refine o_nil0 rfl ?_
                            refine c_seq ?_
                            refine c_region ?_
                            refine o_T (y_move rfl) rfl ?_
                            refine o_T (y_move rfl) rfl ?_
                            refine o_T (y_nilck rfl) rfl ?_
                            refine o_T (y_fa fl_153_3 rfl) rfl ?_
                            refine o_T (y_ia ar_151 rfl rfl (by omega) (by omega)) rfl ?_
                            refine o_T (y_fa fl_150_3 rfl) rfl ?_
                            refine o_st one_3 rfl rfl rfl r0 (Ipt.s_tab_total p.vacant.toNat (by omega) (by omega)) (by simp only [Ipt.size]; omega) ?_
                            refine o_nil0 rfl ?_
                            refine c_region ?_
                            refine o_T (y_move rfl) rfl ?_
                            refine o_T (y_move rfl) rfl ?_
                            refine o_T (y_nilck rfl) rfl ?_
                            refine o_T (y_fa fl_153_3 rfl) rfl ?_
                            refine o_T (y_ia ar_151 rfl rfl (by omega) (by omega)) rfl ?_
                            refine o_T (y_fa fl_150_4 rfl) rfl ?_
                            refine o_st one_147 rfl rfl rfl r0 (Ipt.s_tab_held p.vacant.toNat (by omega) (by omega)) (by simp only [Ipt.size]; omega) ?_
                            refine o_nil0 rfl ?_
                            refine ⟨(p.vacant.toNat, p.slotNew p.vacant.toNat (keyOf (l.getD 2 0) (l.getD 0 0) (l.getD 4 0))), ⟨by dsimp only; omega, Ipt.ok_slotNew ok _ _, by unfold Ipt.look; rw [if_pos h94, if_neg (by omega)]⟩, ⟨gteI rfl (by dsimp only; omega), trivial⟩, ⟨rfl, rfl⟩, _, (by simp only [Ipt.slotNew, upA_upA, upA_at]; exact (s_take (s_take (s_take (s_take (s_take s_nil))))))⟩
                        · try simp only [decide_eq_true_eq, decide_eq_false_iff_not, Bool.not_eq_true', Bool.not_eq_false', Int.not_lt, Int.not_le, Decidable.not_not, beq_iff_eq, bne_iff_ne, ne_eq, beq_eq_false_iff_ne] at h94
                          refine c_skip ?_
                          refine ⟨((p.find (keyOf (l.getD 2 0) (l.getD 0 0) (l.getD 4 0))).toNat, p), ⟨by dsimp only; omega, ok, by unfold Ipt.look; rw [if_neg (by omega)]⟩, ⟨gteI rfl (by dsimp only; omega), trivial⟩, ⟨rfl, rfl⟩, _, (by simp only [Ipt.slotNew, upA_upA, upA_at]; exact (s_take (s_take (s_take (s_take (s_take s_nil))))))⟩
                      · rintro ⟨i, p1⟩ ⟨gi, gok, glk⟩
                        try dsimp only at gi
                        refine c_seq ?_
                        refine c_region ?_
                        refine o_T (y_move rfl) rfl ?_
                        refine o_T (y_move rfl) rfl ?_
                        refine o_T (y_move rfl) rfl ?_
                        refine o_T (y_move rfl) rfl ?_
                        refine o_callrv en_152 rfl (t152 _ _ _ _ _ (by assumption) (by omega) (by omega)) (s_take s_nil) rfl ?_
                        refine o_L (y_assign rfl) rfl rfl ?_
                        refine o_nil0 rfl ?_
                        refine c_seq ?_
                        refine c_seq ?_
                        refine c_region ?_
                        refine o_T (y_move rfl) rfl ?_
                        refine o_nil1 161 rfl rfl ?_
                        refine c_cond rfl (fun h106 => ?_) (fun h106 => ?_)
                        · try simp only [decide_eq_true_eq, decide_eq_false_iff_not, Bool.not_eq_true', Bool.not_eq_false', Int.not_lt, Int.not_le, Decidable.not_not, beq_iff_eq, bne_iff_ne, ne_eq, beq_eq_false_iff_ne] at h106
                          refine c_seq ?_
                          refine c_region ?_
                          refine o_T (y_move rfl) rfl ?_
                          refine o_T (y_move rfl) rfl ?_
                          refine o_T (y_nilck rfl) rfl ?_
                          refine o_T (y_fa fl_153_3 rfl) rfl ?_
                          refine o_T (y_ia ar_151 rfl rfl (by omega) (by omega)) rfl ?_
                          refine o_T (y_fa fl_150_0 rfl) rfl ?_
                          refine o_st one_4 rfl rfl rfl r0 (Ipt.s_tab_used i (by omega) (by omega)) (by simp only [Ipt.size]; omega) ?_
                          refine o_nil0 rfl ?_
                          refine c_seq ?_
                          refine c_region ?_
                          refine o_ldw ag_174 rfl (ms (ms m0)) rfl rfl ?_
                          refine o_sta ag_174 rfl rfl rfl rfl (rs (rs (rs r0))) (setAll_full _ _ rfl) (of_ble rfl) ?_
                          refine o_L (y_assign rfl) rfl rfl ?_
                          refine o_nil0 rfl ?_
                          refine c_ret ?_
                          refine fun aX wX heX hsX => retct Tryz.results115 heX hsX rfl rfl ag_174 (ms (ms (ms m0))) rfl (s_take (s_skip (s_skip (s_skip (s_take s_nil))))) ?_
                          have e1 := Ipt.inp_some (p := p) (l := l) (by omega) (by omega) (by omega) (by omega) (by omega) (by omega) (by omega) (by omega) glk
                          have e2 := e1.trans (Ipt.put_bad h106)
                          rw [e2]
                          exact .inl ⟨by show (9 : Int) ≠ 0; decide, rfl, rfl⟩
                        · try simp only [decide_eq_true_eq, decide_eq_false_iff_not, Bool.not_eq_true', Bool.not_eq_false', Int.not_lt, Int.not_le, Decidable.not_not, beq_iff_eq, bne_iff_ne, ne_eq, beq_eq_false_iff_ne] at h106
                          refine c_skip ?_
                          refine c_seq ?_
                          refine c_seq ?_
                          refine c_region ?_
                          refine o_T (y_move rfl) rfl ?_
                          refine o_T (y_not rfl) rfl ?_
                          refine o_nil1 170 rfl rfl ?_
                          refine c_cond rfl (fun h110 => ?_) (fun h110 => ?_)
                          · try simp only [decide_eq_true_eq, decide_eq_false_iff_not, Bool.not_eq_true', Bool.not_eq_false', Int.not_lt, Int.not_le, Decidable.not_not, beq_iff_eq, bne_iff_ne, ne_eq, beq_eq_false_iff_ne] at h110
                            refine c_region ?_
                            refine o_T (y_move rfl) rfl ?_
                            refine o_T (y_move rfl) rfl ?_
                            refine o_T (y_move rfl) rfl ?_
                            refine o_T (y_nilck rfl) rfl ?_
                            refine o_T (y_fa fl_153_3 rfl) rfl ?_
                            refine o_T (y_ia ar_151 rfl rfl (by omega) (by omega)) rfl ?_
                            refine o_T (y_fa fl_150_3 rfl) rfl ?_
                            refine o_st one_3 rfl rfl rfl r0 (Ipt.s_tab_total i (by omega) (by omega)) (by simp only [Ipt.size]; omega) ?_
                            refine o_nil0 rfl ?_
                            refine c_seq ?_
                            refine c_row (g' := [(b, .cells (p1.setTotal i (l.getD 5 0 % 128 + l.getD 6 0)).enc 153 (0, 0))]) q0 rfl ?_
                            have gok2 := Ipt.ok_setTotal gok i (en := l.getD 5 0 % 128 + l.getD 6 0) (by omega)
                            have okL := Ipt.ok_lay gok2 i (l.getD 5 0 % 128).toNat (l := (l.drop 8).take (n - 8)) (by rw [List.length_take, List.length_drop]; omega) ((hb.drop 8).take _)
                            have e8 : (l.drop 8).take (n - 8) = l.drop 8 := List.take_of_length_le (by rw [List.length_drop]; omega)
                            rw [e8] at okL
                            refine c_region ?_
                            refine o_T (y_move rfl) rfl ?_
                            refine o_T (y_move rfl) rfl ?_
                            refine o_T (y_move rfl) rfl ?_
                            refine o_T (y_move rfl) rfl ?_
                            refine o_T (y_sls sl_81 rfl (bS (i := 8) rfl (by omega)) bN (by omega) (by omega)) rfl ?_
                            refine o_call en_153 rfl (t153i _ _ _ _ _ _ _ _ _ _ _ gok2 gi (by omega) (by omega) (hy.sub 8 _ (by omega) (by omega))) (s_take (s_skip (s_skip (s_skip (s_take s_nil))))) rfl ?_
                            rintro v S' ⟨rfl, rfl⟩
                            refine o_nil0 rfl ?_
                            refine c_seq ?_
                            refine c_row (g' := [(b, .cells ((p1.setTotal i (l.getD 5 0 % 128 + l.getD 6 0)).lay i (l.getD 5 0 % 128).toNat (l.drop 8)).enc 153 (0, 0))]) q0 (by rw [e8]) ?_
                            generalize hQ : (p1.setTotal i (l.getD 5 0 % 128 + l.getD 6 0)).lay i (l.getD 5 0 % 128).toNat (l.drop 8) = q at okL ⊢
                            refine c_region ?_
                            refine o_T (y_move rfl) rfl ?_
                            refine o_T (y_move rfl) rfl ?_
                            refine o_callrv en_154 rfl (t154 _ _ _ (by assumption) (by omega)) (s_take s_nil) rfl ?_
                            refine o_L (y_assign rfl) rfl rfl ?_
                            refine o_nil0 rfl ?_
                            refine c_seq ?_
                            refine c_seq ?_
                            refine c_region ?_
                            refine o_T (y_move rfl) rfl ?_
                            refine o_T (y_not rfl) rfl ?_
                            refine o_nil1 188 rfl rfl ?_
                            refine c_cond rfl (fun h115 => ?_) (fun h115 => ?_)
                            · try simp only [decide_eq_true_eq, decide_eq_false_iff_not, Bool.not_eq_true', Bool.not_eq_false', Int.not_lt, Int.not_le, Decidable.not_not, beq_iff_eq, bne_iff_ne, ne_eq, beq_eq_false_iff_ne] at h115
                              refine c_seq ?_
                              refine c_region ?_
                              refine o_ldw ag_174 rfl (ms (ms (ms m0))) rfl rfl ?_
                              refine o_sta ag_174 rfl rfl rfl rfl (rs (rs (rs (rs r0)))) (setAll_full _ _ rfl) (of_ble rfl) ?_
                              refine o_L (y_assign rfl) rfl rfl ?_
                              refine o_nil0 rfl ?_
                              refine c_ret ?_
                              refine fun aX wX heX hsX => retct Tryz.results115 heX hsX rfl rfl ag_174 (ms (ms (ms (ms m0)))) rfl (s_take (s_take s_nil)) ?_
                              have e1 := Ipt.inp_some (p := p) (l := l) (by omega) (by omega) (by omega) (by omega) (by omega) (by omega) (by omega) (by omega) glk
                              have e2 := e1.trans (Ipt.put_more (q := p1.setTotal i (l.getD 5 0 % 128 + l.getD 6 0)) h106 (by rw [if_neg (by rw [decide_eq_true_eq]; exact not_not_intro h110)]) (by rw [hQ]; exact h115))
                              rw [hQ] at e2
                              rw [e2]
                              exact .inl ⟨by show (10 : Int) ≠ 0; decide, rfl, rfl⟩
                            · try simp only [decide_eq_true_eq, decide_eq_false_iff_not, Bool.not_eq_true', Bool.not_eq_false', Int.not_lt, Int.not_le, Decidable.not_not, beq_iff_eq, bne_iff_ne, ne_eq, beq_eq_false_iff_ne] at h115
                              refine c_skip ?_
                              refine c_seq ?_
                              have hw0 := Ipt.whole_total (p := q) (i := i) (h115)
                              have ht0 := (okL.slot i).total
                              obtain ⟨T, hT⟩ := Int.eq_ofNat_of_zero_le hw0
                              refine c_region ?_
                              refine o_T (y_move rfl) rfl ?_
                              refine o_T (y_move rfl) rfl ?_
                              refine o_T (y_nilck rfl) rfl ?_
                              refine o_T (y_fa fl_153_3 rfl) rfl ?_
                              refine o_T (y_ia ar_151 rfl rfl (by omega) (by omega)) rfl ?_
                              refine o_T (y_fa fl_150_3 rfl) rfl ?_
                              refine o_ld one_3 rfl m0 (Ipt.g_tab_total i (by omega) (by omega)) rfl ?_
                              refine o_L (y_assign rfl) rfl rfl ?_
                              refine o_nil0 rfl ?_
                              refine c_seq ?_
                              refine c_region ?_
                              refine o_T (y_move rfl) rfl ?_
                              refine o_T (y_move rfl) rfl ?_
                              refine o_T (y_nilck rfl) rfl ?_
                              refine o_T (y_fa fl_153_3 rfl) rfl ?_
                              refine o_T (y_ia ar_151 rfl rfl (by omega) (by omega)) rfl ?_
                              refine o_T (y_fa fl_150_5 rfl) rfl ?_
                              refine o_T (y_move rfl) rfl ?_
                              refine o_T (y_sla ar_148 rfl bN (bS (i := T) rfl (by omega)) (by omega) (by omega)) rfl ?_
                              refine o_call en_78 rfl (t78 _ _ _ _ _ _ _ (arr_byt _ 40 (fun q hq => Ipt.g_tab_buf i (by omega) q hq (by omega)) (okL.slot i).buf (by omega) (by simp only [Ipt.size]; omega) 0 T (by omega) (by omega))) (s_take s_nil) rfl ?_
                              rintro v S' ⟨b_5, rfl, rfl⟩
                              refine o_T (y_fa fl_174_3 rfl) rfl ?_
                              refine o_st one_81 rfl rfl rfl (rs (rs (rs r0))) Dg.s3 (of_blt rfl) ?_
                              refine o_nil0 rfl ?_
                              refine c_seq ?_
                              refine c_region ?_
                              refine o_T (y_move rfl) rfl ?_
                              refine o_T (y_move rfl) rfl ?_
                              refine o_T (y_nilck rfl) rfl ?_
                              refine o_T (y_fa fl_153_3 rfl) rfl ?_
                              refine o_T (y_ia ar_151 rfl rfl (by omega) (by omega)) rfl ?_
                              refine o_T (y_fa fl_150_0 rfl) rfl ?_
                              refine o_st one_4 rfl rfl rfl r0 (Ipt.s_tab_used i (by omega) (by omega)) (by simp only [Ipt.size]; omega) ?_
                              refine o_nil0 rfl ?_
                              refine c_seq ?_
                              refine c_region ?_
                              refine o_ldw ag_174 rfl (ms (ms (ms m0))) rfl rfl ?_
                              refine o_sta ag_174 rfl rfl rfl rfl (rs (rs (rs (rs (rs r0))))) (setAll_full _ _ rfl) (of_ble rfl) ?_
                              refine o_L (y_assign rfl) rfl rfl ?_
                              refine o_nil0 rfl ?_
                              refine c_ret ?_
                              refine fun aX wX heX hsX => retct Tryz.results115 heX hsX rfl rfl ag_174 (ms (ms (ms (ms (ms m0))))) rfl (s_get (ks k0) (s_get k0 (s_get k0 s_nil))) ?_
                              have e1 := Ipt.inp_some (p := p) (l := l) (by omega) (by omega) (by omega) (by omega) (by omega) (by omega) (by omega) (by omega) glk
                              have e2 := e1.trans (Ipt.put_done (q := p1.setTotal i (l.getD 5 0 % 128 + l.getD 6 0)) h106 (by rw [if_neg (by rw [decide_eq_true_eq]; exact not_not_intro h110)]) (by rw [hQ]; exact h115))
                              rw [hQ] at e2
                              have e3 : List.map (fun j => (q.tab i).buf (0 + j)) (List.range (T - 0)) = q.row i := by unfold Ipt.row; rw [hT]; simp
                              rw [e3, e2]
                              exact .inr ⟨rfl, _, rfl, rfl⟩
                          · try simp only [decide_eq_true_eq, decide_eq_false_iff_not, Bool.not_eq_true', Bool.not_eq_false', Int.not_lt, Int.not_le, Decidable.not_not, beq_iff_eq, bne_iff_ne, ne_eq, beq_eq_false_iff_ne] at h110
                            refine c_skip ?_
                            refine c_seq ?_
                            have gok2 := gok
                            have okL := Ipt.ok_lay gok2 i (l.getD 5 0 % 128).toNat (l := (l.drop 8).take (n - 8)) (by rw [List.length_take, List.length_drop]; omega) ((hb.drop 8).take _)
                            have e8 : (l.drop 8).take (n - 8) = l.drop 8 := List.take_of_length_le (by rw [List.length_drop]; omega)
                            rw [e8] at okL
                            refine c_region ?_
                            refine o_T (y_move rfl) rfl ?_
                            refine o_T (y_move rfl) rfl ?_
                            refine o_T (y_move rfl) rfl ?_
                            refine o_T (y_move rfl) rfl ?_
                            refine o_T (y_sls sl_81 rfl (bS (i := 8) rfl (by omega)) bN (by omega) (by omega)) rfl ?_
                            refine o_call en_153 rfl (t153i _ _ _ _ _ _ _ _ _ _ _ gok2 gi (by omega) (by omega) (hy.sub 8 _ (by omega) (by omega))) (s_take (s_skip (s_skip (s_skip (s_take s_nil))))) rfl ?_
                            rintro v S' ⟨rfl, rfl⟩
                            refine o_nil0 rfl ?_
                            refine c_seq ?_
                            refine c_row (g' := [(b, .cells ((p1).lay i (l.getD 5 0 % 128).toNat (l.drop 8)).enc 153 (0, 0))]) q0 (by rw [e8]) ?_
                            generalize hQ : (p1).lay i (l.getD 5 0 % 128).toNat (l.drop 8) = q at okL ⊢
                            refine c_region ?_
                            refine o_T (y_move rfl) rfl ?_
                            refine o_T (y_move rfl) rfl ?_
                            refine o_callrv en_154 rfl (t154 _ _ _ (by assumption) (by omega)) (s_take s_nil) rfl ?_
                            refine o_L (y_assign rfl) rfl rfl ?_
                            refine o_nil0 rfl ?_
                            refine c_seq ?_
                            refine c_seq ?_
                            refine c_region ?_
                            refine o_T (y_move rfl) rfl ?_
                            refine o_T (y_not rfl) rfl ?_
                            refine o_nil1 188 rfl rfl ?_
                            refine c_cond rfl (fun h115 => ?_) (fun h115 => ?_)
                            · try simp only [decide_eq_true_eq, decide_eq_false_iff_not, Bool.not_eq_true', Bool.not_eq_false', Int.not_lt, Int.not_le, Decidable.not_not, beq_iff_eq, bne_iff_ne, ne_eq, beq_eq_false_iff_ne] at h115
                              refine c_seq ?_
                              refine c_region ?_
                              refine o_ldw ag_174 rfl (ms (ms (ms m0))) rfl rfl ?_
                              refine o_sta ag_174 rfl rfl rfl rfl (rs (rs (rs (rs r0)))) (setAll_full _ _ rfl) (of_ble rfl) ?_
                              refine o_L (y_assign rfl) rfl rfl ?_
                              refine o_nil0 rfl ?_
                              refine c_ret ?_
                              refine fun aX wX heX hsX => retct Tryz.results115 heX hsX rfl rfl ag_174 (ms (ms (ms (ms m0)))) rfl (s_take (s_take s_nil)) ?_
                              have e1 := Ipt.inp_some (p := p) (l := l) (by omega) (by omega) (by omega) (by omega) (by omega) (by omega) (by omega) (by omega) glk
                              have e2 := e1.trans (Ipt.put_more (q := p1) h106 (by rw [if_pos (decide_eq_true h110)]) (by rw [hQ]; exact h115))
                              rw [hQ] at e2
                              rw [e2]
                              exact .inl ⟨by show (10 : Int) ≠ 0; decide, rfl, rfl⟩
                            · try simp only [decide_eq_true_eq, decide_eq_false_iff_not, Bool.not_eq_true', Bool.not_eq_false', Int.not_lt, Int.not_le, Decidable.not_not, beq_iff_eq, bne_iff_ne, ne_eq, beq_eq_false_iff_ne] at h115
                              refine c_skip ?_
                              refine c_seq ?_
                              have hw0 := Ipt.whole_total (p := q) (i := i) (h115)
                              have ht0 := (okL.slot i).total
                              obtain ⟨T, hT⟩ := Int.eq_ofNat_of_zero_le hw0
                              refine c_region ?_
                              refine o_T (y_move rfl) rfl ?_
                              refine o_T (y_move rfl) rfl ?_
                              refine o_T (y_nilck rfl) rfl ?_
                              refine o_T (y_fa fl_153_3 rfl) rfl ?_
                              refine o_T (y_ia ar_151 rfl rfl (by omega) (by omega)) rfl ?_
                              refine o_T (y_fa fl_150_3 rfl) rfl ?_
                              refine o_ld one_3 rfl m0 (Ipt.g_tab_total i (by omega) (by omega)) rfl ?_
                              refine o_L (y_assign rfl) rfl rfl ?_
                              refine o_nil0 rfl ?_
                              refine c_seq ?_
                              refine c_region ?_
                              refine o_T (y_move rfl) rfl ?_
                              refine o_T (y_move rfl) rfl ?_
                              refine o_T (y_nilck rfl) rfl ?_
                              refine o_T (y_fa fl_153_3 rfl) rfl ?_
                              refine o_T (y_ia ar_151 rfl rfl (by omega) (by omega)) rfl ?_
                              refine o_T (y_fa fl_150_5 rfl) rfl ?_
                              refine o_T (y_move rfl) rfl ?_
                              refine o_T (y_sla ar_148 rfl bN (bS (i := T) rfl (by omega)) (by omega) (by omega)) rfl ?_
                              refine o_call en_78 rfl (t78 _ _ _ _ _ _ _ (arr_byt _ 40 (fun q hq => Ipt.g_tab_buf i (by omega) q hq (by omega)) (okL.slot i).buf (by omega) (by simp only [Ipt.size]; omega) 0 T (by omega) (by omega))) (s_take s_nil) rfl ?_
                              rintro v S' ⟨b_6, rfl, rfl⟩
                              refine o_T (y_fa fl_174_3 rfl) rfl ?_
                              refine o_st one_81 rfl rfl rfl (rs (rs (rs r0))) Dg.s3 (of_blt rfl) ?_
                              refine o_nil0 rfl ?_
                              refine c_seq ?_
                              refine c_region ?_
                              refine o_T (y_move rfl) rfl ?_
                              refine o_T (y_move rfl) rfl ?_
                              refine o_T (y_nilck rfl) rfl ?_
                              refine o_T (y_fa fl_153_3 rfl) rfl ?_
                              refine o_T (y_ia ar_151 rfl rfl (by omega) (by omega)) rfl ?_
                              refine o_T (y_fa fl_150_0 rfl) rfl ?_
                              refine o_st one_4 rfl rfl rfl r0 (Ipt.s_tab_used i (by omega) (by omega)) (by simp only [Ipt.size]; omega) ?_
                              refine o_nil0 rfl ?_
                              refine c_seq ?_
                              refine c_region ?_
                              refine o_ldw ag_174 rfl (ms (ms (ms m0))) rfl rfl ?_
                              refine o_sta ag_174 rfl rfl rfl rfl (rs (rs (rs (rs (rs r0))))) (setAll_full _ _ rfl) (of_ble rfl) ?_
                              refine o_L (y_assign rfl) rfl rfl ?_
                              refine o_nil0 rfl ?_
                              refine c_ret ?_
                              refine fun aX wX heX hsX => retct Tryz.results115 heX hsX rfl rfl ag_174 (ms (ms (ms (ms (ms m0))))) rfl (s_get (ks k0) (s_get k0 (s_get k0 s_nil))) ?_
                              have e1 := Ipt.inp_some (p := p) (l := l) (by omega) (by omega) (by omega) (by omega) (by omega) (by omega) (by omega) (by omega) glk
                              have e2 := e1.trans (Ipt.put_done (q := p1) h106 (by rw [if_pos (decide_eq_true h110)]) (by rw [hQ]; exact h115))
                              rw [hQ] at e2
                              have e3 : List.map (fun j => (q.tab i).buf (0 + j)) (List.range (T - 0)) = q.row i := by unfold Ipt.row; rw [hT]; simp
                              rw [e3, e2]
                              exact .inr ⟨rfl, _, rfl, rfl⟩

end Go.Proofs.Qxb6500351aGreat
