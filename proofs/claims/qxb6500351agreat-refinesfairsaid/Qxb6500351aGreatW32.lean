/- MADE BY PROGRAM (tools/gen.py over tools/specs351.py): walks. -/
import Derived.Test.Qxb6500351aGreatFacts
import Derived.Test.Qxb6500351aGreatMd13
import Derived.Test.Qxb6500351aGreatW31
set_option linter.unusedVariables false
set_option linter.unusedSimpArgs false
namespace Go.Proofs.Qxb6500351aGreat
open Go.Eng
set_option maxRecDepth 20000
set_option maxHeartbeats 4000000
/-- (*e2e/host.Host).ours -/
theorem t134 (q : HP) (H : Hst) (lk : Lk) (dr : Nat → Int) (sd : Int) (ok : H.Ok) : Trip Tryz.prog 134 #[.pointer (some ⟨q.h, 0, none⟩), .int .i64 sd] [[(q.h, .cells (q.hs H dr).enc 111 (0, 0))], [(q.t, .cells H.t.enc 159 (0, 0))]] (fun u S' => ∃ (e' : En) (b' : Bool), e' = H.ent sd ∧ b' = H.oursB sd ∧ u = .tuple #[.agg e'.enc, .bool b'] ∧ S' = [[(q.h, .cells (q.hs H dr).enc 111 (0, 0))], [(q.t, .cells H.t.enc 159 (0, 0))]]) := by
  have ok0 := ok
  have oa := ok.addr
  have oc := ok.clock
  have ol := ok.lost
  have op := ok.p
  have opa := ok.pa
  have oc4 := ok.c
  have ot := ok.t
  refine fn_entry (args := [.pointer (some ⟨q.h, 0, none⟩), .int .i64 sd]) Tryz.func134 rfl Tryz.ntmps134 rfl (fun w0 => ?_)
  refine c_seq ?_
  refine c_region ?_
  refine o_alloc ze_66 rfl rfl (fun b_1 => ?_)
  refine o_L (y_assign rfl) rfl rfl ?_
  refine o_nil0 rfl ?_
  refine c_seq ?_
  refine c_region ?_
  refine o_T (y_move rfl) rfl ?_
  refine o_T (y_nilck rfl) rfl ?_
  refine o_T (y_fa fl_111_7 rfl) rfl ?_
  refine o_ld one_39 rfl (ms m0) Hs.g17 rfl ?_
  refine o_T (y_move rfl) rfl ?_
  refine o_call en_66 rfl (t66 _ _ _) (s_skip (s_skip (s_take s_nil))) rfl ?_
  rintro v S' ⟨en_1, er_1, hen_1, her_1, rfl, rfl⟩
  refine o_T (y_move rfl) rfl ?_
  refine o_T (y_extract rfl rfl) rfl ?_
  refine o_T (y_extract rfl rfl) rfl ?_
  refine o_alloc ze_66 rfl rfl (fun b_2 => ?_)
  refine o_sta ag_66 rfl rfl rfl rfl r0 (setAll_full _ _ rfl) (of_ble rfl) ?_
  refine o_L (y_assign rfl) rfl rfl ?_
  refine o_nil0 rfl ?_
  refine c_seq ?_
  refine c_front (s_get (ks (ks k0)) (s_get k0 (s_get k0 (s_get k0 s_nil)))) ?_
  refine c_drawT #[true, true, true, true, true, true, true, true, true, true, true, true, true, true, true] rfl (n := 15) rfl ?_
  refine d_ldw 0 rfl (by kernel_rfl) ag_66 rfl (fun x hx => (ms hx)) m0 rfl rfl ?_
  refine d_T 1 rfl (by kernel_rfl) rfl (y_move rfl) rfl ?_
  refine d_T 2 rfl (by kernel_rfl) rfl (y_eql rfl rfl) rfl ?_
  refine d_T 3 rfl (by kernel_rfl) rfl (y_move rfl) rfl ?_
  refine d_split 20 rfl (fun h8 => ?_) (fun h8 => ?_)
  · try simp only [decide_eq_true_eq, decide_eq_false_iff_not, Bool.not_eq_true', Bool.not_eq_false', Int.not_lt, Int.not_le, Decidable.not_not, beq_iff_eq, bne_iff_ne, ne_eq, beq_eq_false_iff_ne] at h8
    refine d_Tg 4 rfl rfl rfl rfl (by kernel_rfl) rfl (y_fa fl_66_1 rfl) rfl ?_
    refine d_ldt 5 rfl rfl rfl rfl (by kernel_rfl) one_3 rfl (fun x hx => (ms hx)) m0 En.g1 rfl ?_
    refine d_Tg 6 rfl rfl rfl rfl (by kernel_rfl) rfl (y_eql rfl rfl) rfl ?_
    refine d_T 7 rfl (by kernel_rfl) rfl (y_pickT rfl rfl) rfl ?_
    refine d_T 8 rfl (by kernel_rfl) rfl (y_move rfl) rfl ?_
    refine d_split 25 rfl (fun h8_1 => ?_) (fun h8_1 => ?_)
    · try simp only [decide_eq_true_eq, decide_eq_false_iff_not, Bool.not_eq_true', Bool.not_eq_false', Int.not_lt, Int.not_le, Decidable.not_not, beq_iff_eq, bne_iff_ne, ne_eq, beq_eq_false_iff_ne] at h8_1
      refine d_Tg 9 rfl rfl rfl rfl (by kernel_rfl) rfl (y_fa fl_66_6 rfl) rfl ?_
      refine d_ldt 10 rfl rfl rfl rfl (by kernel_rfl) one_3 rfl (fun x hx => (ms hx)) m0 En.g6 rfl ?_
      refine d_Tg 11 rfl rfl rfl rfl (by kernel_rfl) rfl (y_eql rfl rfl) rfl ?_
      refine d_T 12 rfl (by kernel_rfl) rfl (y_pickT rfl rfl) rfl ?_
      refine d_hard 13 rfl (by kernel_rfl) ?_
      refine o_sta ag_66 rfl rfl rfl rfl r0 (setAll_full _ _ rfl) (of_ble rfl) ?_
      refine o_stop (fun _ => (fun x hx => (ms hx))) ?_
      refine d_L 14 rfl (by kernel_rfl) rfl (y_assign rfl) rfl rfl ?_
      refine d_nil0 (by kernel_rfl) rfl ?_
      refine c_ret ?_
      refine fun aX wX heX hsX => retct Tryz.results134 heX hsX rfl rfl ag_66 m0 rfl (s_get (ks (ks (ks k0))) (s_get (ks (ks k0)) s_nil)) ?_
      subst her_1
      subst hen_1
      exact ⟨_, _, rfl, rfl, congrArg (fun b => Value.tuple #[.agg (H.ent sd).enc, .bool b]) (by unfold Hst.oursB Hst.ent Hst.err; first | exact (decide_eq_true ⟨h8, h8_1, by assumption⟩).symm | exact (decide_eq_false (fun z => h8 z.1)).symm | exact (decide_eq_false (fun z => h8_1 z.2.1)).symm | exact decide_eq_decide.2 ⟨fun z => ⟨h8, h8_1, z⟩, fun z => z.2.2⟩), rfl⟩
    · try simp only [decide_eq_true_eq, decide_eq_false_iff_not, Bool.not_eq_true', Bool.not_eq_false', Int.not_lt, Int.not_le, Decidable.not_not, beq_iff_eq, bne_iff_ne, ne_eq, beq_eq_false_iff_ne] at h8_1
      refine d_pass 9 rfl rfl rfl rfl rfl (by kernel_rfl) (fun x hx => (ms hx)) rfl ?_
      refine d_pass 10 rfl rfl rfl rfl rfl (by kernel_rfl) (fun x hx => (ms hx)) rfl ?_
      refine d_pass 11 rfl rfl rfl rfl rfl (by kernel_rfl) (fun x hx => (ms hx)) rfl ?_
      refine d_T 12 rfl (by kernel_rfl) rfl (y_pickF rfl rfl) rfl ?_
      refine d_hard 13 rfl (by kernel_rfl) ?_
      refine o_sta ag_66 rfl rfl rfl rfl r0 (setAll_full _ _ rfl) (of_ble rfl) ?_
      refine o_stop (fun _ => (fun x hx => (ms hx))) ?_
      refine d_L 14 rfl (by kernel_rfl) rfl (y_assign rfl) rfl rfl ?_
      refine d_nil0 (by kernel_rfl) rfl ?_
      refine c_ret ?_
      refine fun aX wX heX hsX => retct Tryz.results134 heX hsX rfl rfl ag_66 m0 rfl (s_get (ks (ks (ks k0))) (s_get (ks (ks k0)) s_nil)) ?_
      subst her_1
      subst hen_1
      exact ⟨_, _, rfl, rfl, congrArg (fun b => Value.tuple #[.agg (H.ent sd).enc, .bool b]) (by unfold Hst.oursB Hst.ent Hst.err; first | exact (decide_eq_true ⟨h8, h8_1, by assumption⟩).symm | exact (decide_eq_false (fun z => h8 z.1)).symm | exact (decide_eq_false (fun z => h8_1 z.2.1)).symm | exact decide_eq_decide.2 ⟨fun z => ⟨h8, h8_1, z⟩, fun z => z.2.2⟩), rfl⟩
  · try simp only [decide_eq_true_eq, decide_eq_false_iff_not, Bool.not_eq_true', Bool.not_eq_false', Int.not_lt, Int.not_le, Decidable.not_not, beq_iff_eq, bne_iff_ne, ne_eq, beq_eq_false_iff_ne] at h8
    refine d_pass 4 rfl rfl rfl rfl rfl (by kernel_rfl) (fun x hx => (ms hx)) rfl ?_
    refine d_pass 5 rfl rfl rfl rfl rfl (by kernel_rfl) (fun x hx => (ms hx)) rfl ?_
    refine d_pass 6 rfl rfl rfl rfl rfl (by kernel_rfl) (fun x hx => (ms hx)) rfl ?_
    refine d_T 7 rfl (by kernel_rfl) rfl (y_pickF rfl rfl) rfl ?_
    refine d_T 8 rfl (by kernel_rfl) rfl (y_move rfl) rfl ?_
    refine d_pass 9 rfl rfl rfl rfl rfl (by kernel_rfl) (fun x hx => (ms hx)) rfl ?_
    refine d_pass 10 rfl rfl rfl rfl rfl (by kernel_rfl) (fun x hx => (ms hx)) rfl ?_
    refine d_pass 11 rfl rfl rfl rfl rfl (by kernel_rfl) (fun x hx => (ms hx)) rfl ?_
    refine d_T 12 rfl (by kernel_rfl) rfl (y_pickF rfl rfl) rfl ?_
    refine d_hard 13 rfl (by kernel_rfl) ?_
    refine o_sta ag_66 rfl rfl rfl rfl r0 (setAll_full _ _ rfl) (of_ble rfl) ?_
    refine o_stop (fun _ => (fun x hx => (ms hx))) ?_
    refine d_L 14 rfl (by kernel_rfl) rfl (y_assign rfl) rfl rfl ?_
    refine d_nil0 (by kernel_rfl) rfl ?_
    refine c_ret ?_
    refine fun aX wX heX hsX => retct Tryz.results134 heX hsX rfl rfl ag_66 m0 rfl (s_get (ks (ks (ks k0))) (s_get (ks (ks k0)) s_nil)) ?_
    subst her_1
    subst hen_1
    exact ⟨_, _, rfl, rfl, congrArg (fun b => Value.tuple #[.agg (H.ent sd).enc, .bool b]) (by unfold Hst.oursB Hst.ent Hst.err; first | exact (decide_eq_true ⟨h8, h8_1, by assumption⟩).symm | exact (decide_eq_false (fun z => h8 z.1)).symm | exact (decide_eq_false (fun z => h8_1 z.2.1)).symm | exact decide_eq_decide.2 ⟨fun z => ⟨h8, h8_1, z⟩, fun z => z.2.2⟩), rfl⟩

/-- (*e2e/host.Host).listener -/
theorem t138 (q : HP) (H : Hst) (lk : Lk) (dr : Nat → Int) (sd : Int) (ok : H.Ok) : Trip Tryz.prog 138 #[.pointer (some ⟨q.h, 0, none⟩), .int .i64 sd] [[(q.h, .cells (q.hs H dr).enc 111 (0, 0))], [(q.t, .cells H.t.enc 159 (0, 0))]] (fun u S' => u = .bool (H.lisB sd) ∧ S' = [[(q.h, .cells (q.hs H dr).enc 111 (0, 0))], [(q.t, .cells H.t.enc 159 (0, 0))]]) := by
  have ok0 := ok
  have oa := ok.addr
  have oc := ok.clock
  have ol := ok.lost
  have op := ok.p
  have opa := ok.pa
  have oc4 := ok.c
  have ot := ok.t
  refine fn_entry (args := [.pointer (some ⟨q.h, 0, none⟩), .int .i64 sd]) Tryz.func138 rfl Tryz.ntmps138 rfl (fun w0 => ?_)
  refine c_seq ?_
  refine c_region ?_
  refine o_L (y_assign rfl) rfl rfl ?_
  refine o_nil0 rfl ?_
  refine c_seq ?_
  refine c_region ?_
  refine o_T (y_move rfl) rfl ?_
  refine o_T (y_nilck rfl) rfl ?_
  refine o_T (y_fa fl_111_7 rfl) rfl ?_
  refine o_ld one_39 rfl m0 Hs.g17 rfl ?_
  refine o_T (y_move rfl) rfl ?_
  refine o_call en_66 rfl (t66 _ _ _) (s_skip (s_take s_nil)) rfl ?_
  rintro v S' ⟨en_1, er_1, hen_1, her_1, rfl, rfl⟩
  refine o_T (y_move rfl) rfl ?_
  refine o_T (y_extract rfl rfl) rfl ?_
  refine o_T (y_extract rfl rfl) rfl ?_
  refine o_alloc ze_66 rfl rfl (fun b_1 => ?_)
  refine o_sta ag_66 rfl rfl rfl rfl r0 (setAll_full _ _ rfl) (of_ble rfl) ?_
  refine o_L (y_assign rfl) rfl rfl ?_
  refine o_nil0 rfl ?_
  refine c_seq ?_
  refine c_region ?_
  refine o_T (y_move rfl) rfl ?_
  refine o_T (y_eql rfl rfl) rfl ?_
  refine o_T (y_move rfl) rfl ?_
  refine o_split 18 rfl (fun h14 => ?_) (fun h14 => ?_)
  · try simp only [decide_eq_true_eq, decide_eq_false_iff_not, Bool.not_eq_true', Bool.not_eq_false', Int.not_lt, Int.not_le, Decidable.not_not, beq_iff_eq, bne_iff_ne, ne_eq, beq_eq_false_iff_ne] at h14
    refine o_take rfl rfl rfl ?_
    refine o_T (y_fa fl_66_1 rfl) rfl ?_
    refine o_take rfl rfl rfl ?_
    refine o_ld one_3 rfl m0 En.g1 rfl ?_
    refine o_take rfl rfl rfl ?_
    refine o_T (y_eql rfl rfl) rfl ?_
    refine o_T (y_pickT rfl rfl) rfl ?_
    refine o_L (y_assign rfl) rfl rfl ?_
    refine o_nil0 rfl ?_
    refine c_ret ?_
    refine fun aX wX heX hsX => ret1 Tryz.results138 heX rfl (s_get (ks (ks k0)) (s_get (ks k0) s_nil)) ?_
    subst her_1
    subst hen_1
    exact ⟨congrArg Value.bool (by unfold Hst.lisB Hst.ent Hst.err; first | exact (decide_eq_false (fun z => h14 z.1)).symm | exact decide_eq_decide.2 ⟨fun z => ⟨h14, z⟩, fun z => z.2⟩), rfl⟩
  · try simp only [decide_eq_true_eq, decide_eq_false_iff_not, Bool.not_eq_true', Bool.not_eq_false', Int.not_lt, Int.not_le, Decidable.not_not, beq_iff_eq, bne_iff_ne, ne_eq, beq_eq_false_iff_ne] at h14
    refine o_pass rfl rfl rfl rfl rfl ?_
    refine o_pass rfl rfl rfl rfl rfl ?_
    refine o_pass rfl rfl rfl rfl rfl ?_
    refine o_T (y_pickF rfl rfl) rfl ?_
    refine o_L (y_assign rfl) rfl rfl ?_
    refine o_nil0 rfl ?_
    refine c_ret ?_
    refine fun aX wX heX hsX => ret1 Tryz.results138 heX rfl (s_get (ks (ks k0)) (s_get (ks k0) s_nil)) ?_
    subst her_1
    subst hen_1
    exact ⟨congrArg Value.bool (by unfold Hst.lisB Hst.ent Hst.err; first | exact (decide_eq_false (fun z => h14 z.1)).symm | exact decide_eq_decide.2 ⟨fun z => ⟨h14, z⟩, fun z => z.2⟩), rfl⟩

end Go.Proofs.Qxb6500351aGreat
