/- MADE BY PROGRAM (tools/gen.py over tools/specsw.py): walks. -/
import Derived.Test.Qxb6500351aGreatFacts
import Derived.Test.Qxb6500351aGreatMd22
set_option linter.unusedVariables false
set_option linter.unusedSimpArgs false
namespace Go.Proofs.Qxb6500351aGreat
open Go.Eng
set_option maxRecDepth 20000
set_option maxHeartbeats 4000000
attribute [local irreducible] Hst.ent Hst.err Hst.infoC
/-- (*e2e/towerlaw.World).isListener -/
theorem t92 (A : WA) (q : Bool) (x : Wrld) (V : WV) (gh : List Chunk) (c : Nat) (c3 : c < 3) (sd : Int) (hh : HsG x.H A.hv A.bv gh) (ok : ∀ i, i < 3 → (x.H i).Ok ∧ InfoOk (x.H i)) : Trip Tryz.prog 92 #[.pointer (some ⟨A.b, 0, none⟩), .int .i64 (c : Int), .int .i64 sd] [[(A.b, .cells (A.wd q x V).enc 53 (0, 0))], gh] (fun u S' => u = .bool ((x.H c).lisB sd) ∧ S' = [[(A.b, .cells (A.wd q x V).enc 53 (0, 0))], gh]) := by
  refine fn_entry (args := [.pointer (some ⟨A.b, 0, none⟩), .int .i64 (c : Int), .int .i64 sd]) Tryz.func92 rfl Tryz.ntmps92 rfl (fun w0 => ?_)
  refine c_seq ?_
  refine c_region ?_
  refine o_L (y_assign rfl) rfl rfl ?_
  refine o_nil0 rfl ?_
  refine c_seq ?_
  refine c_region ?_
  refine o_T (y_move rfl) rfl ?_
  refine o_T (y_move rfl) rfl ?_
  refine o_T (y_nilck rfl) rfl ?_
  refine o_T (y_fa fl_53_0 rfl) rfl ?_
  refine o_T (y_ia ar_34 rfl rfl (by omega) (by omega)) rfl ?_
  refine o_ld one_33 rfl m0 (Wd.g_h c (by omega) (by omega)) rfl ?_
  refine o_T (y_move rfl) rfl ?_
  refine o_call en_32 rfl (i32 hh (by assumption) (ok _ (by assumption)).1 _ ((ok _ (by assumption)).2 _)) (s_skip (s_take s_nil)) rfl ?_
  rintro v S' ⟨pc_1, gc_1, rfl, hi_1, rfl⟩
  refine o_T (y_move rfl) rfl ?_
  refine o_T (y_extract rfl rfl) rfl ?_
  refine o_T (y_extract rfl rfl) rfl ?_
  refine o_alloc ze_69 rfl rfl (fun b_1 => ?_)
  refine o_sta ag_69 rfl rfl (si_plain hi_1) rfl r0 (setAll_full _ _ rfl) (of_ble rfl) ?_
  refine o_L (y_assign rfl) rfl rfl ?_
  refine o_nil0 rfl ?_
  refine c_seq ?_
  refine c_region ?_
  refine o_T (y_move rfl) rfl ?_
  refine o_T (y_eql rfl rfl) rfl ?_
  refine o_T (y_move rfl) rfl ?_
  refine o_split 22 rfl (fun h495 => ?_) (fun h495 => ?_)
  · try simp only [decide_eq_true_eq, decide_eq_false_iff_not, Bool.not_eq_true', Bool.not_eq_false', Int.not_lt, Int.not_le, Decidable.not_not, beq_iff_eq, bne_iff_ne, ne_eq, beq_eq_false_iff_ne, WA.wd] at h495
    refine o_take rfl rfl rfl ?_
    refine o_T (y_fa fl_69_0 rfl) rfl ?_
    refine o_take rfl rfl rfl ?_
    refine o_T (y_fa fl_66_1 rfl) rfl ?_
    refine o_take rfl rfl rfl ?_
    refine o_ld one_3 rfl m0 Si.g1 rfl ?_
    refine o_take rfl rfl rfl ?_
    refine o_T (y_eql rfl rfl) rfl ?_
    refine o_T (y_pickT rfl rfl) rfl ?_
    refine o_L (y_assign rfl) rfl rfl ?_
    refine o_nil0 rfl ?_
    refine c_ret ?_
    refine fun aX wX heX hsX => ret1 Tryz.results92 heX rfl (s_get (ks (ks (ks k0))) (s_get (ks (ks k0)) s_nil)) ?_
    refine ⟨congrArg Value.bool ?_, rfl⟩
    simp only [Hst.lisB, Hst.ent, Hst.err] at *
    rw [Bool.eq_iff_iff]
    simp [*]
  · try simp only [decide_eq_true_eq, decide_eq_false_iff_not, Bool.not_eq_true', Bool.not_eq_false', Int.not_lt, Int.not_le, Decidable.not_not, beq_iff_eq, bne_iff_ne, ne_eq, beq_eq_false_iff_ne, WA.wd] at h495
    refine o_pass rfl rfl rfl rfl rfl ?_
    refine o_pass rfl rfl rfl rfl rfl ?_
    refine o_pass rfl rfl rfl rfl rfl ?_
    refine o_pass rfl rfl rfl rfl rfl ?_
    refine o_T (y_pickF rfl rfl) rfl ?_
    refine o_L (y_assign rfl) rfl rfl ?_
    refine o_nil0 rfl ?_
    refine c_ret ?_
    refine fun aX wX heX hsX => ret1 Tryz.results92 heX rfl (s_get (ks (ks (ks k0))) (s_get (ks (ks k0)) s_nil)) ?_
    refine ⟨congrArg Value.bool ?_, rfl⟩
    simp only [Hst.lisB, Hst.ent, Hst.err] at *
    rw [Bool.eq_iff_iff]
    simp [*]

/-- (*e2e/towerlaw.World).ours -/
theorem t55 (A : WA) (q : Bool) (x : Wrld) (V : WV) (gh : List Chunk) (c : Nat) (c3 : c < 3) (sd : Int) (hh : HsG x.H A.hv A.bv gh) (ok : ∀ i, i < 3 → (x.H i).Ok ∧ InfoOk (x.H i)) : Trip Tryz.prog 55 #[.pointer (some ⟨A.b, 0, none⟩), .int .i64 (c : Int), .int .i64 sd] [[(A.b, .cells (A.wd q x V).enc 53 (0, 0))], gh] (fun u S' => ∃ (pc : Value) (gc : List Chunk), u = .tuple #[.agg (Si.mk ((x.H c).ent sd) pc).enc, .bool ((x.H c).oursB sd)] ∧ InfG ((x.H c).err sd) ((x.H c).infoC sd) pc gc ∧ S' = [gc, [(A.b, .cells (A.wd q x V).enc 53 (0, 0))], gh]) := by
  refine fn_entry (args := [.pointer (some ⟨A.b, 0, none⟩), .int .i64 (c : Int), .int .i64 sd]) Tryz.func55 rfl Tryz.ntmps55 rfl (fun w0 => ?_)
  refine c_seq ?_
  refine c_region ?_
  refine o_alloc ze_69 rfl rfl (fun b_1 => ?_)
  refine o_L (y_assign rfl) rfl rfl ?_
  refine o_nil0 rfl ?_
  refine c_seq ?_
  refine c_region ?_
  refine o_T (y_move rfl) rfl ?_
  refine o_T (y_move rfl) rfl ?_
  refine o_T (y_nilck rfl) rfl ?_
  refine o_T (y_fa fl_53_0 rfl) rfl ?_
  refine o_T (y_ia ar_34 rfl rfl (by omega) (by omega)) rfl ?_
  refine o_ld one_33 rfl (ms m0) (Wd.g_h c (by omega) (by omega)) rfl ?_
  refine o_T (y_move rfl) rfl ?_
  refine o_call en_32 rfl (i32 hh (by assumption) (ok _ (by assumption)).1 _ ((ok _ (by assumption)).2 _)) (s_skip (s_skip (s_take s_nil))) rfl ?_
  rintro v S' ⟨pc_1, gc_1, rfl, hi_1, rfl⟩
  refine o_T (y_move rfl) rfl ?_
  refine o_T (y_extract rfl rfl) rfl ?_
  refine o_T (y_extract rfl rfl) rfl ?_
  refine o_alloc ze_69 rfl rfl (fun b_2 => ?_)
  refine o_sta ag_69 rfl rfl (si_plain hi_1) rfl r0 (setAll_full _ _ rfl) (of_ble rfl) ?_
  refine o_L (y_assign rfl) rfl rfl ?_
  refine o_nil0 rfl ?_
  refine c_seq ?_
  refine c_front (s_get (ks (ks (ks k0))) (s_get k0 (s_get k0 (s_get k0 (s_get k0 s_nil))))) ?_
  refine c_drawT #[true, true, true, true, true, true, true, true, true, true, true, true, true, true, true, true, true] rfl (n := 17) rfl ?_
  refine d_ldw 0 rfl (by kernel_rfl) ag_69 rfl (fun x hx => (ms hx)) m0 rfl rfl ?_
  refine d_T 1 rfl (by kernel_rfl) rfl (y_move rfl) rfl ?_
  refine d_T 2 rfl (by kernel_rfl) rfl (y_eql rfl rfl) rfl ?_
  refine d_T 3 rfl (by kernel_rfl) rfl (y_move rfl) rfl ?_
  refine d_split 24 rfl (fun h490 => ?_) (fun h490 => ?_)
  · try simp only [decide_eq_true_eq, decide_eq_false_iff_not, Bool.not_eq_true', Bool.not_eq_false', Int.not_lt, Int.not_le, Decidable.not_not, beq_iff_eq, bne_iff_ne, ne_eq, beq_eq_false_iff_ne, WA.wd] at h490
    refine d_Tg 4 rfl rfl rfl rfl (by kernel_rfl) rfl (y_fa fl_69_0 rfl) rfl ?_
    refine d_Tg 5 rfl rfl rfl rfl (by kernel_rfl) rfl (y_fa fl_66_1 rfl) rfl ?_
    refine d_ldt 6 rfl rfl rfl rfl (by kernel_rfl) one_3 rfl (fun x hx => (ms hx)) m0 Si.g1 rfl ?_
    refine d_Tg 7 rfl rfl rfl rfl (by kernel_rfl) rfl (y_eql rfl rfl) rfl ?_
    refine d_T 8 rfl (by kernel_rfl) rfl (y_pickT rfl rfl) rfl ?_
    refine d_T 9 rfl (by kernel_rfl) rfl (y_move rfl) rfl ?_
    refine d_split 30 rfl (fun h490_1 => ?_) (fun h490_1 => ?_)
    · try simp only [decide_eq_true_eq, decide_eq_false_iff_not, Bool.not_eq_true', Bool.not_eq_false', Int.not_lt, Int.not_le, Decidable.not_not, beq_iff_eq, bne_iff_ne, ne_eq, beq_eq_false_iff_ne, WA.wd] at h490_1
      refine d_Tg 10 rfl rfl rfl rfl (by kernel_rfl) rfl (y_fa fl_69_0 rfl) rfl ?_
      refine d_Tg 11 rfl rfl rfl rfl (by kernel_rfl) rfl (y_fa fl_66_6 rfl) rfl ?_
      refine d_ldt 12 rfl rfl rfl rfl (by kernel_rfl) one_3 rfl (fun x hx => (ms hx)) m0 Si.g6 rfl ?_
      refine d_Tg 13 rfl rfl rfl rfl (by kernel_rfl) rfl (y_eql rfl rfl) rfl ?_
      refine d_T 14 rfl (by kernel_rfl) rfl (y_pickT rfl rfl) rfl ?_
      refine d_hard 15 rfl (by kernel_rfl) ?_
      refine o_sta ag_69 rfl rfl (si_plain hi_1) rfl r0 (setAll_full _ _ rfl) (of_ble rfl) ?_
      refine o_stop (fun _ => (fun x hx => (ms hx))) ?_
      refine d_L 16 rfl (by kernel_rfl) rfl (y_assign rfl) rfl rfl ?_
      refine d_nil0 (by kernel_rfl) rfl ?_
      refine c_ret ?_
      refine fun aX wX heX hsX => retct Tryz.results55 heX hsX rfl rfl ag_69 m0 rfl (s_get (ks (ks k0)) (s_get (ks (ks (ks k0))) (s_get (ks (ks k0)) s_nil))) ?_
      refine ⟨_, _, congrArg (fun z => Value.tuple #[_, Value.bool z]) ?_, hi_1, rfl⟩
      simp only [Hst.oursB, Hst.ent, Hst.err] at *
      rw [Bool.eq_iff_iff]
      simp [*]
    · try simp only [decide_eq_true_eq, decide_eq_false_iff_not, Bool.not_eq_true', Bool.not_eq_false', Int.not_lt, Int.not_le, Decidable.not_not, beq_iff_eq, bne_iff_ne, ne_eq, beq_eq_false_iff_ne, WA.wd] at h490_1
      refine d_pass 10 rfl rfl rfl rfl rfl (by kernel_rfl) (fun x hx => (ms hx)) rfl ?_
      refine d_pass 11 rfl rfl rfl rfl rfl (by kernel_rfl) (fun x hx => (ms hx)) rfl ?_
      refine d_pass 12 rfl rfl rfl rfl rfl (by kernel_rfl) (fun x hx => (ms hx)) rfl ?_
      refine d_pass 13 rfl rfl rfl rfl rfl (by kernel_rfl) (fun x hx => (ms hx)) rfl ?_
      refine d_T 14 rfl (by kernel_rfl) rfl (y_pickF rfl rfl) rfl ?_
      refine d_hard 15 rfl (by kernel_rfl) ?_
      refine o_sta ag_69 rfl rfl (si_plain hi_1) rfl r0 (setAll_full _ _ rfl) (of_ble rfl) ?_
      refine o_stop (fun _ => (fun x hx => (ms hx))) ?_
      refine d_L 16 rfl (by kernel_rfl) rfl (y_assign rfl) rfl rfl ?_
      refine d_nil0 (by kernel_rfl) rfl ?_
      refine c_ret ?_
      refine fun aX wX heX hsX => retct Tryz.results55 heX hsX rfl rfl ag_69 m0 rfl (s_get (ks (ks k0)) (s_get (ks (ks (ks k0))) (s_get (ks (ks k0)) s_nil))) ?_
      refine ⟨_, _, congrArg (fun z => Value.tuple #[_, Value.bool z]) ?_, hi_1, rfl⟩
      simp only [Hst.oursB, Hst.ent, Hst.err] at *
      rw [Bool.eq_iff_iff]
      simp [*]
  · try simp only [decide_eq_true_eq, decide_eq_false_iff_not, Bool.not_eq_true', Bool.not_eq_false', Int.not_lt, Int.not_le, Decidable.not_not, beq_iff_eq, bne_iff_ne, ne_eq, beq_eq_false_iff_ne, WA.wd] at h490
    refine d_pass 4 rfl rfl rfl rfl rfl (by kernel_rfl) (fun x hx => (ms hx)) rfl ?_
    refine d_pass 5 rfl rfl rfl rfl rfl (by kernel_rfl) (fun x hx => (ms hx)) rfl ?_
    refine d_pass 6 rfl rfl rfl rfl rfl (by kernel_rfl) (fun x hx => (ms hx)) rfl ?_
    refine d_pass 7 rfl rfl rfl rfl rfl (by kernel_rfl) (fun x hx => (ms hx)) rfl ?_
    refine d_T 8 rfl (by kernel_rfl) rfl (y_pickF rfl rfl) rfl ?_
    refine d_T 9 rfl (by kernel_rfl) rfl (y_move rfl) rfl ?_
    refine d_pass 10 rfl rfl rfl rfl rfl (by kernel_rfl) (fun x hx => (ms hx)) rfl ?_
    refine d_pass 11 rfl rfl rfl rfl rfl (by kernel_rfl) (fun x hx => (ms hx)) rfl ?_
    refine d_pass 12 rfl rfl rfl rfl rfl (by kernel_rfl) (fun x hx => (ms hx)) rfl ?_
    refine d_pass 13 rfl rfl rfl rfl rfl (by kernel_rfl) (fun x hx => (ms hx)) rfl ?_
    refine d_T 14 rfl (by kernel_rfl) rfl (y_pickF rfl rfl) rfl ?_
    refine d_hard 15 rfl (by kernel_rfl) ?_
    refine o_sta ag_69 rfl rfl (si_plain hi_1) rfl r0 (setAll_full _ _ rfl) (of_ble rfl) ?_
    refine o_stop (fun _ => (fun x hx => (ms hx))) ?_
    refine d_L 16 rfl (by kernel_rfl) rfl (y_assign rfl) rfl rfl ?_
    refine d_nil0 (by kernel_rfl) rfl ?_
    refine c_ret ?_
    refine fun aX wX heX hsX => retct Tryz.results55 heX hsX rfl rfl ag_69 m0 rfl (s_get (ks (ks k0)) (s_get (ks (ks (ks k0))) (s_get (ks (ks k0)) s_nil))) ?_
    refine ⟨_, _, congrArg (fun z => Value.tuple #[_, Value.bool z]) ?_, hi_1, rfl⟩
    simp only [Hst.oursB, Hst.ent, Hst.err] at *
    rw [Bool.eq_iff_iff]
    simp [*]

end Go.Proofs.Qxb6500351aGreat
