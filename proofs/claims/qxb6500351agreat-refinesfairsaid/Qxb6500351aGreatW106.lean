/- MADE BY PROGRAM (tools/gen.py over tools/specsw.py): walks. -/
import Derived.Test.Qxb6500351aGreatMd38
set_option linter.unusedVariables false
set_option linter.unusedSimpArgs false
namespace Go.Proofs.Qxb6500351aGreat
open Go.Eng
set_option maxRecDepth 20000
set_option maxHeartbeats 4000000
attribute [local irreducible] Hst.ent Hst.err Hst.infoC
/-- (*e2e/towerlaw.World).Foul -/
theorem t18n (A : WA) (q : Bool) (x : Wrld) (V : WV) (m : Nat) (gh gq gw gn gs gr gi go gm : List Chunk) (W : WG A q x V m gh gq gw gn gs gr gi go gm) (hm : m ≤ 2700000000000) (hb : HBnd x) (kd oa ob oc : Int) (os ot : ByteArray) (oT : Int) (hT : IntKind.wrap .i64 (oa - 1) = oT) (hT2 : (oT < 0 ∨ 3 ≤ oT) ↔ (oa - 1 < 0 ∨ 3 ≤ oa - 1)) (hT3 : 0 ≤ oT → oT < 3 → oT = oa - 1) (ho : (x.H oc.toNat).oursB oa = false) : Trip Tryz.prog 18 #[.pointer (some ⟨A.b, 0, none⟩), .agg (Opn.mk kd oa ob oc os ot).enc] [[(A.b, .cells (A.wd q x V).enc 53 (0, 0))], gh, gq, gw, gn, gs, gr, gi, go, gm] (fun u S' => u = .bool (foulB x kd oa ob oc) ∧ S' = [[(A.b, .cells (A.wd q x V).enc 53 (0, 0))], gh, gq, gw, gn, gs, gr, gi, go, gm]) := by
  refine fn_entry (args := [.pointer (some ⟨A.b, 0, none⟩), .agg (Opn.mk kd oa ob oc os ot).enc]) Tryz.func18 rfl Tryz.ntmps18 rfl (fun w0 => ?_)
  refine c_seq ?_
  refine c_region ?_
  refine o_box rfl rfl rfl rfl (fun b_1 => ?_)
  refine o_L (y_assign rfl) rfl rfl ?_
  refine o_nil0 rfl ?_
  refine c_seq ?_
  refine c_seq ?_
  refine c_region ?_
  refine o_T (y_fa fl_32_0 rfl) rfl ?_
  refine o_ld one_3 rfl m0 Opn.g0 rfl ?_
  refine o_nil1 9 rfl rfl ?_
  refine c_block ?_
  refine c_seq ?_
  refine c_seq ?_
  refine c_region ?_
  refine o_T (y_eql rfl rfl) rfl ?_
  refine o_L (y_assign rfl) rfl rfl ?_
  refine o_nil0 rfl ?_
  refine c_cond rfl (fun h902 => ?_) (fun h902 => ?_)
  · try simp only [decide_eq_true_eq, decide_eq_false_iff_not, Bool.not_eq_true', Bool.not_eq_false', Int.not_lt, Int.not_le, Decidable.not_not, beq_iff_eq, bne_iff_ne, ne_eq, beq_eq_false_iff_ne, WA.wd] at h902
    refine c_skip ?_
    refine c_cond rfl (fun h902_1 => ?_) (fun h902_1 => ?_)
    · try simp only [decide_eq_true_eq, decide_eq_false_iff_not, Bool.not_eq_true', Bool.not_eq_false', Int.not_lt, Int.not_le, Decidable.not_not, beq_iff_eq, bne_iff_ne, ne_eq, beq_eq_false_iff_ne, WA.wd] at h902_1
      refine c_seq ?_
      refine c_region ?_
      refine o_L (y_assign rfl) rfl rfl ?_
      refine o_nil0 rfl ?_
      refine c_ret ?_
      refine fun aX wX heX hsX => ret1 Tryz.results18 heX rfl (s_skip (s_take (s_take (s_take (s_take (s_take (s_take (s_take (s_take (s_take (s_take s_nil))))))))))) ?_
      refine ⟨congrArg Value.bool ?_, rfl⟩
      unfold foulB
      first
        | (exfalso; omega)
        | (rw [if_pos (by omega)]; done)
        | (rw [if_neg (by omega), if_pos (by omega)]; done)
        | (rw [if_neg (by omega), if_neg (by omega), if_pos (by omega)]; done)
        | (rw [if_neg (by omega), if_neg (by omega), if_neg (by omega), if_pos (by omega)]; unfold foulE; rw [Int.toNat_natCast, ho]; first | rfl | simp)
        | (rw [if_neg (by omega), if_neg (by omega), if_neg (by omega), if_neg (by omega), if_pos (by omega)]; unfold foulC; first | (rw [if_pos (by omega)]; done) | (have eT := hT3 (by omega) (by omega); rw [if_neg (by omega), ← eT]; first | (rw [if_pos (by assumption)]; done) | (rw [if_pos (by simpa using ‹x.listensB oT.toNat ob = true›)]) | (rw [if_neg (by simp_all)]; done)))
        | (rw [if_neg (by omega), if_neg (by omega), if_neg (by omega), if_neg (by omega), if_neg (by omega)]; done)
    · try simp only [decide_eq_true_eq, decide_eq_false_iff_not, Bool.not_eq_true', Bool.not_eq_false', Int.not_lt, Int.not_le, Decidable.not_not, beq_iff_eq, bne_iff_ne, ne_eq, beq_eq_false_iff_ne, WA.wd] at h902_1
      refine c_skip ?_
      refine c_seq ?_
      refine c_seq ?_
      refine c_region ?_
      refine o_T (y_fa fl_32_3 rfl) rfl ?_
      refine o_ld one_3 rfl m0 Opn.g3 rfl ?_
      refine o_T (y_lss rfl rfl) rfl ?_
      refine o_T (y_move rfl) rfl ?_
      refine o_split 18 rfl (fun h905 => ?_) (fun h905 => ?_)
      · try simp only [decide_eq_true_eq, decide_eq_false_iff_not, Bool.not_eq_true', Bool.not_eq_false', Int.not_lt, Int.not_le, Decidable.not_not, beq_iff_eq, bne_iff_ne, ne_eq, beq_eq_false_iff_ne, WA.wd] at h905
        refine o_pass rfl rfl rfl rfl rfl ?_
        refine o_pass rfl rfl rfl rfl rfl ?_
        refine o_pass rfl rfl rfl rfl rfl ?_
        refine o_T (y_pickT rfl rfl) rfl ?_
        refine o_nil1 22 rfl rfl ?_
        refine c_condT rfl ?_
        refine c_seq ?_
        refine c_region ?_
        refine o_L (y_assign rfl) rfl rfl ?_
        refine o_nil0 rfl ?_
        refine c_ret ?_
        refine fun aX wX heX hsX => ret1 Tryz.results18 heX rfl (s_skip (s_take (s_take (s_take (s_take (s_take (s_take (s_take (s_take (s_take (s_take s_nil))))))))))) ?_
        refine ⟨congrArg Value.bool ?_, rfl⟩
        unfold foulB
        first
          | (exfalso; omega)
          | (rw [if_pos (by omega)]; done)
          | (rw [if_neg (by omega), if_pos (by omega)]; done)
          | (rw [if_neg (by omega), if_neg (by omega), if_pos (by omega)]; done)
          | (rw [if_neg (by omega), if_neg (by omega), if_neg (by omega), if_pos (by omega)]; unfold foulE; rw [Int.toNat_natCast, ho]; first | rfl | simp)
          | (rw [if_neg (by omega), if_neg (by omega), if_neg (by omega), if_neg (by omega), if_pos (by omega)]; unfold foulC; first | (rw [if_pos (by omega)]; done) | (have eT := hT3 (by omega) (by omega); rw [if_neg (by omega), ← eT]; first | (rw [if_pos (by assumption)]; done) | (rw [if_pos (by simpa using ‹x.listensB oT.toNat ob = true›)]) | (rw [if_neg (by simp_all)]; done)))
          | (rw [if_neg (by omega), if_neg (by omega), if_neg (by omega), if_neg (by omega), if_neg (by omega)]; done)
      · try simp only [decide_eq_true_eq, decide_eq_false_iff_not, Bool.not_eq_true', Bool.not_eq_false', Int.not_lt, Int.not_le, Decidable.not_not, beq_iff_eq, bne_iff_ne, ne_eq, beq_eq_false_iff_ne, WA.wd] at h905
        refine o_take rfl rfl rfl ?_
        refine o_T (y_fa fl_32_3 rfl) rfl ?_
        refine o_take rfl rfl rfl ?_
        refine o_ld one_3 rfl m0 Opn.g3 rfl ?_
        refine o_take rfl rfl rfl ?_
        refine o_T (y_geq rfl rfl) rfl ?_
        refine o_T (y_pickF rfl rfl) rfl ?_
        refine o_nil1 22 rfl rfl ?_
        refine c_cond rfl (fun h905_1 => ?_) (fun h905_1 => ?_)
        · try simp only [decide_eq_true_eq, decide_eq_false_iff_not, Bool.not_eq_true', Bool.not_eq_false', Int.not_lt, Int.not_le, Decidable.not_not, beq_iff_eq, bne_iff_ne, ne_eq, beq_eq_false_iff_ne, WA.wd] at h905_1
          refine c_seq ?_
          refine c_region ?_
          refine o_L (y_assign rfl) rfl rfl ?_
          refine o_nil0 rfl ?_
          refine c_ret ?_
          refine fun aX wX heX hsX => ret1 Tryz.results18 heX rfl (s_skip (s_take (s_take (s_take (s_take (s_take (s_take (s_take (s_take (s_take (s_take s_nil))))))))))) ?_
          refine ⟨congrArg Value.bool ?_, rfl⟩
          unfold foulB
          first
            | (exfalso; omega)
            | (rw [if_pos (by omega)]; done)
            | (rw [if_neg (by omega), if_pos (by omega)]; done)
            | (rw [if_neg (by omega), if_neg (by omega), if_pos (by omega)]; done)
            | (rw [if_neg (by omega), if_neg (by omega), if_neg (by omega), if_pos (by omega)]; unfold foulE; rw [Int.toNat_natCast, ho]; first | rfl | simp)
            | (rw [if_neg (by omega), if_neg (by omega), if_neg (by omega), if_neg (by omega), if_pos (by omega)]; unfold foulC; first | (rw [if_pos (by omega)]; done) | (have eT := hT3 (by omega) (by omega); rw [if_neg (by omega), ← eT]; first | (rw [if_pos (by assumption)]; done) | (rw [if_pos (by simpa using ‹x.listensB oT.toNat ob = true›)]) | (rw [if_neg (by simp_all)]; done)))
            | (rw [if_neg (by omega), if_neg (by omega), if_neg (by omega), if_neg (by omega), if_neg (by omega)]; done)
        · try simp only [decide_eq_true_eq, decide_eq_false_iff_not, Bool.not_eq_true', Bool.not_eq_false', Int.not_lt, Int.not_le, Decidable.not_not, beq_iff_eq, bne_iff_ne, ne_eq, beq_eq_false_iff_ne, WA.wd] at h905_1
          refine c_skip ?_
          refine c_seq ?_
          refine c_seq ?_
          obtain ⟨c, rfl⟩ : ∃ c : Nat, oc = (c : Int) := ⟨oc.toNat, by omega⟩
          have c3 : c < 3 := by omega
          have ho := ho
          rw [Int.toNat_natCast] at ho
          refine c_region ?_
          refine o_T (y_fa fl_32_0 rfl) rfl ?_
          refine o_ld one_3 rfl m0 Opn.g0 rfl ?_
          refine o_nil1 24 rfl rfl ?_
          refine c_block ?_
          refine c_seq ?_
          refine c_region ?_
          refine o_T (y_eql rfl rfl) rfl ?_
          refine o_L (y_assign rfl) rfl rfl ?_
          refine o_nil0 rfl ?_
          refine c_cond rfl (fun h909 => ?_) (fun h909 => ?_)
          · try simp only [decide_eq_true_eq, decide_eq_false_iff_not, Bool.not_eq_true', Bool.not_eq_false', Int.not_lt, Int.not_le, Decidable.not_not, beq_iff_eq, bne_iff_ne, ne_eq, beq_eq_false_iff_ne, WA.wd] at h909
            refine c_seq ?_
            refine c_region ?_
            refine o_L (y_assign rfl) rfl rfl ?_
            refine o_nil0 rfl ?_
            refine c_ret ?_
            refine fun aX wX heX hsX => ret1 Tryz.results18 heX rfl (s_skip (s_take (s_take (s_take (s_take (s_take (s_take (s_take (s_take (s_take (s_take s_nil))))))))))) ?_
            refine ⟨congrArg Value.bool ?_, rfl⟩
            unfold foulB
            first
              | (exfalso; omega)
              | (rw [if_pos (by omega)]; done)
              | (rw [if_neg (by omega), if_pos (by omega)]; done)
              | (rw [if_neg (by omega), if_neg (by omega), if_pos (by omega)]; done)
              | (rw [if_neg (by omega), if_neg (by omega), if_neg (by omega), if_pos (by omega)]; unfold foulE; rw [Int.toNat_natCast, ho]; first | rfl | simp)
              | (rw [if_neg (by omega), if_neg (by omega), if_neg (by omega), if_neg (by omega), if_pos (by omega)]; unfold foulC; first | (rw [if_pos (by omega)]; done) | (have eT := hT3 (by omega) (by omega); rw [if_neg (by omega), ← eT]; first | (rw [if_pos (by assumption)]; done) | (rw [if_pos (by simpa using ‹x.listensB oT.toNat ob = true›)]) | (rw [if_neg (by simp_all)]; done)))
              | (rw [if_neg (by omega), if_neg (by omega), if_neg (by omega), if_neg (by omega), if_neg (by omega)]; done)
          · try simp only [decide_eq_true_eq, decide_eq_false_iff_not, Bool.not_eq_true', Bool.not_eq_false', Int.not_lt, Int.not_le, Decidable.not_not, beq_iff_eq, bne_iff_ne, ne_eq, beq_eq_false_iff_ne, WA.wd] at h909
            refine c_seq ?_
            refine c_region ?_
            refine o_T (y_eql rfl rfl) rfl ?_
            refine o_L (y_assign rfl) rfl rfl ?_
            refine o_nil0 rfl ?_
            refine c_cond rfl (fun h911 => ?_) (fun h911 => ?_)
            · try simp only [decide_eq_true_eq, decide_eq_false_iff_not, Bool.not_eq_true', Bool.not_eq_false', Int.not_lt, Int.not_le, Decidable.not_not, beq_iff_eq, bne_iff_ne, ne_eq, beq_eq_false_iff_ne, WA.wd] at h911
              refine c_seq ?_
              refine c_region ?_
              refine o_T (y_move rfl) rfl ?_
              refine o_T (y_fa fl_32_3 rfl) rfl ?_
              refine o_ld one_3 rfl m0 Opn.g3 rfl ?_
              refine o_T (y_fa fl_32_1 rfl) rfl ?_
              refine o_ld one_3 rfl m0 Opn.g1 rfl ?_
              refine o_call en_55 rfl (t55b _ _ _ _ _ _ c3 _ W.h hb.ok false ho) (s_skip (s_take (s_take s_nil))) rfl ?_
              rintro v S' ⟨pc_1, gc_1, rfl, hi_1, rfl⟩
              refine o_T (y_move rfl) rfl ?_
              refine o_T (y_extract rfl rfl) rfl ?_
              refine o_T (y_extract rfl rfl) rfl ?_
              refine o_alloc ze_69 rfl rfl (fun b_2 => ?_)
              refine o_sta ag_69 rfl rfl (si_plain hi_1) rfl r0 (setAll_full _ _ rfl) (of_ble rfl) ?_
              refine o_L (y_assign rfl) rfl rfl ?_
              refine o_nil0 rfl ?_
              refine c_seq ?_
              refine c_region ?_
              refine o_T (y_move rfl) rfl ?_
              refine o_T (y_not rfl) rfl ?_
              refine o_T (y_move rfl) rfl ?_
              refine o_pass rfl rfl rfl rfl rfl ?_
              refine o_pass rfl rfl rfl rfl rfl ?_
              refine o_pass rfl rfl rfl rfl rfl ?_
              refine o_pass rfl rfl rfl rfl rfl ?_
              refine o_pass rfl rfl rfl rfl rfl ?_
              refine o_pass rfl rfl rfl rfl rfl ?_
              refine o_T (y_pickT rfl rfl) rfl ?_
              refine o_L (y_assign rfl) rfl rfl ?_
              refine o_nil0 rfl ?_
              refine c_ret ?_
              refine fun aX wX heX hsX => ret1 Tryz.results18 heX rfl (s_skip (s_skip (s_take (s_take (s_skip (s_take (s_take (s_take (s_take (s_take (s_take (s_take (s_take s_nil))))))))))))) ?_
              refine ⟨congrArg Value.bool ?_, rfl⟩
              unfold foulB
              first
                | (exfalso; omega)
                | (rw [if_pos (by omega)]; done)
                | (rw [if_neg (by omega), if_pos (by omega)]; done)
                | (rw [if_neg (by omega), if_neg (by omega), if_pos (by omega)]; done)
                | (rw [if_neg (by omega), if_neg (by omega), if_neg (by omega), if_pos (by omega)]; unfold foulE; rw [Int.toNat_natCast, ho]; first | rfl | simp)
                | (rw [if_neg (by omega), if_neg (by omega), if_neg (by omega), if_neg (by omega), if_pos (by omega)]; unfold foulC; first | (rw [if_pos (by omega)]; done) | (have eT := hT3 (by omega) (by omega); rw [if_neg (by omega), ← eT]; first | (rw [if_pos (by assumption)]; done) | (rw [if_pos (by simpa using ‹x.listensB oT.toNat ob = true›)]) | (rw [if_neg (by simp_all)]; done)))
                | (rw [if_neg (by omega), if_neg (by omega), if_neg (by omega), if_neg (by omega), if_neg (by omega)]; done)
            · try simp only [decide_eq_true_eq, decide_eq_false_iff_not, Bool.not_eq_true', Bool.not_eq_false', Int.not_lt, Int.not_le, Decidable.not_not, beq_iff_eq, bne_iff_ne, ne_eq, beq_eq_false_iff_ne, WA.wd] at h911
              refine c_seq ?_
              refine c_region ?_
              refine o_T (y_eql rfl rfl) rfl ?_
              refine o_L (y_assign rfl) rfl rfl ?_
              refine o_nil0 rfl ?_
              refine c_cond rfl (fun h914 => ?_) (fun h914 => ?_)
              · try simp only [decide_eq_true_eq, decide_eq_false_iff_not, Bool.not_eq_true', Bool.not_eq_false', Int.not_lt, Int.not_le, Decidable.not_not, beq_iff_eq, bne_iff_ne, ne_eq, beq_eq_false_iff_ne, WA.wd] at h914
                refine c_seq ?_
                refine c_region ?_
                refine o_T (y_fa fl_32_1 rfl) rfl ?_
                refine o_ld one_3 rfl m0 Opn.g1 rfl ?_
                refine o_T (y_sub rfl rfl hT) rfl ?_
                refine o_L (y_assign rfl) rfl rfl ?_
                refine o_nil0 rfl ?_
                refine c_seq ?_
                refine c_seq ?_
                refine c_region ?_
                refine o_T (y_move rfl) rfl ?_
                refine o_T (y_lss rfl rfl) rfl ?_
                refine o_T (y_move rfl) rfl ?_
                refine o_split 55 rfl (fun h916 => ?_) (fun h916 => ?_)
                · try simp only [decide_eq_true_eq, decide_eq_false_iff_not, Bool.not_eq_true', Bool.not_eq_false', Int.not_lt, Int.not_le, Decidable.not_not, beq_iff_eq, bne_iff_ne, ne_eq, beq_eq_false_iff_ne, WA.wd] at h916
                  refine o_pass rfl rfl rfl rfl rfl ?_
                  refine o_pass rfl rfl rfl rfl rfl ?_
                  refine o_T (y_pickT rfl rfl) rfl ?_
                  refine o_T (y_move rfl) rfl ?_
                  refine o_pass rfl rfl rfl rfl rfl ?_
                  refine o_pass rfl rfl rfl rfl rfl ?_
                  refine o_pass rfl rfl rfl rfl rfl ?_
                  refine o_pass rfl rfl rfl rfl rfl ?_
                  refine o_T (y_pickT rfl rfl) rfl ?_
                  refine o_nil1 64 rfl rfl ?_
                  refine c_condT rfl ?_
                  refine c_seq ?_
                  refine c_region ?_
                  refine o_L (y_assign rfl) rfl rfl ?_
                  refine o_nil0 rfl ?_
                  refine c_ret ?_
                  refine fun aX wX heX hsX => ret1 Tryz.results18 heX rfl (s_skip (s_take (s_take (s_take (s_take (s_take (s_take (s_take (s_take (s_take (s_take s_nil))))))))))) ?_
                  refine ⟨congrArg Value.bool ?_, rfl⟩
                  unfold foulB
                  first
                    | (exfalso; omega)
                    | (rw [if_pos (by omega)]; done)
                    | (rw [if_neg (by omega), if_pos (by omega)]; done)
                    | (rw [if_neg (by omega), if_neg (by omega), if_pos (by omega)]; done)
                    | (rw [if_neg (by omega), if_neg (by omega), if_neg (by omega), if_pos (by omega)]; unfold foulE; rw [Int.toNat_natCast, ho]; first | rfl | simp)
                    | (rw [if_neg (by omega), if_neg (by omega), if_neg (by omega), if_neg (by omega), if_pos (by omega)]; unfold foulC; first | (rw [if_pos (by omega)]; done) | (have eT := hT3 (by omega) (by omega); rw [if_neg (by omega), ← eT]; first | (rw [if_pos (by assumption)]; done) | (rw [if_pos (by simpa using ‹x.listensB oT.toNat ob = true›)]) | (rw [if_neg (by simp_all)]; done)))
                    | (rw [if_neg (by omega), if_neg (by omega), if_neg (by omega), if_neg (by omega), if_neg (by omega)]; done)
                · try simp only [decide_eq_true_eq, decide_eq_false_iff_not, Bool.not_eq_true', Bool.not_eq_false', Int.not_lt, Int.not_le, Decidable.not_not, beq_iff_eq, bne_iff_ne, ne_eq, beq_eq_false_iff_ne, WA.wd] at h916
                  refine o_take rfl rfl rfl ?_
                  refine o_T (y_move rfl) rfl ?_
                  refine o_take rfl rfl rfl ?_
                  refine o_T (y_geq rfl rfl) rfl ?_
                  refine o_T (y_pickF rfl rfl) rfl ?_
                  refine o_T (y_move rfl) rfl ?_
                  refine o_split 59 rfl (fun h916_1 => ?_) (fun h916_1 => ?_)
                  · try simp only [decide_eq_true_eq, decide_eq_false_iff_not, Bool.not_eq_true', Bool.not_eq_false', Int.not_lt, Int.not_le, Decidable.not_not, beq_iff_eq, bne_iff_ne, ne_eq, beq_eq_false_iff_ne, WA.wd] at h916_1
                    refine o_pass rfl rfl rfl rfl rfl ?_
                    refine o_pass rfl rfl rfl rfl rfl ?_
                    refine o_pass rfl rfl rfl rfl rfl ?_
                    refine o_pass rfl rfl rfl rfl rfl ?_
                    refine o_T (y_pickT rfl rfl) rfl ?_
                    refine o_nil1 64 rfl rfl ?_
                    refine c_condT rfl ?_
                    refine c_seq ?_
                    refine c_region ?_
                    refine o_L (y_assign rfl) rfl rfl ?_
                    refine o_nil0 rfl ?_
                    refine c_ret ?_
                    refine fun aX wX heX hsX => ret1 Tryz.results18 heX rfl (s_skip (s_take (s_take (s_take (s_take (s_take (s_take (s_take (s_take (s_take (s_take s_nil))))))))))) ?_
                    refine ⟨congrArg Value.bool ?_, rfl⟩
                    unfold foulB
                    first
                      | (exfalso; omega)
                      | (rw [if_pos (by omega)]; done)
                      | (rw [if_neg (by omega), if_pos (by omega)]; done)
                      | (rw [if_neg (by omega), if_neg (by omega), if_pos (by omega)]; done)
                      | (rw [if_neg (by omega), if_neg (by omega), if_neg (by omega), if_pos (by omega)]; unfold foulE; rw [Int.toNat_natCast, ho]; first | rfl | simp)
                      | (rw [if_neg (by omega), if_neg (by omega), if_neg (by omega), if_neg (by omega), if_pos (by omega)]; unfold foulC; first | (rw [if_pos (by omega)]; done) | (have eT := hT3 (by omega) (by omega); rw [if_neg (by omega), ← eT]; first | (rw [if_pos (by assumption)]; done) | (rw [if_pos (by simpa using ‹x.listensB oT.toNat ob = true›)]) | (rw [if_neg (by simp_all)]; done)))
                      | (rw [if_neg (by omega), if_neg (by omega), if_neg (by omega), if_neg (by omega), if_neg (by omega)]; done)
                  · try simp only [decide_eq_true_eq, decide_eq_false_iff_not, Bool.not_eq_true', Bool.not_eq_false', Int.not_lt, Int.not_le, Decidable.not_not, beq_iff_eq, bne_iff_ne, ne_eq, beq_eq_false_iff_ne, WA.wd] at h916_1
                    refine o_take rfl rfl rfl ?_
                    refine o_T (y_move rfl) rfl ?_
                    refine o_take rfl rfl rfl ?_
                    refine o_T (y_fa fl_32_3 rfl) rfl ?_
                    refine o_take rfl rfl rfl ?_
                    refine o_ld one_3 rfl m0 Opn.g3 rfl ?_
                    refine o_take rfl rfl rfl ?_
                    refine o_T (y_eql rfl rfl) rfl ?_
                    refine o_T (y_pickF rfl rfl) rfl ?_
                    refine o_nil1 64 rfl rfl ?_
                    refine c_cond rfl (fun h916_2 => ?_) (fun h916_2 => ?_)
                    · try simp only [decide_eq_true_eq, decide_eq_false_iff_not, Bool.not_eq_true', Bool.not_eq_false', Int.not_lt, Int.not_le, Decidable.not_not, beq_iff_eq, bne_iff_ne, ne_eq, beq_eq_false_iff_ne, WA.wd] at h916_2
                      refine c_seq ?_
                      refine c_region ?_
                      refine o_L (y_assign rfl) rfl rfl ?_
                      refine o_nil0 rfl ?_
                      refine c_ret ?_
                      refine fun aX wX heX hsX => ret1 Tryz.results18 heX rfl (s_skip (s_take (s_take (s_take (s_take (s_take (s_take (s_take (s_take (s_take (s_take s_nil))))))))))) ?_
                      refine ⟨congrArg Value.bool ?_, rfl⟩
                      unfold foulB
                      first
                        | (exfalso; omega)
                        | (rw [if_pos (by omega)]; done)
                        | (rw [if_neg (by omega), if_pos (by omega)]; done)
                        | (rw [if_neg (by omega), if_neg (by omega), if_pos (by omega)]; done)
                        | (rw [if_neg (by omega), if_neg (by omega), if_neg (by omega), if_pos (by omega)]; unfold foulE; rw [Int.toNat_natCast, ho]; first | rfl | simp)
                        | (rw [if_neg (by omega), if_neg (by omega), if_neg (by omega), if_neg (by omega), if_pos (by omega)]; unfold foulC; first | (rw [if_pos (by omega)]; done) | (have eT := hT3 (by omega) (by omega); rw [if_neg (by omega), ← eT]; first | (rw [if_pos (by assumption)]; done) | (rw [if_pos (by simpa using ‹x.listensB oT.toNat ob = true›)]) | (rw [if_neg (by simp_all)]; done)))
                        | (rw [if_neg (by omega), if_neg (by omega), if_neg (by omega), if_neg (by omega), if_neg (by omega)]; done)
                    · try simp only [decide_eq_true_eq, decide_eq_false_iff_not, Bool.not_eq_true', Bool.not_eq_false', Int.not_lt, Int.not_le, Decidable.not_not, beq_iff_eq, bne_iff_ne, ne_eq, beq_eq_false_iff_ne, WA.wd] at h916_2
                      refine c_skip ?_
                      refine c_seq ?_
                      refine c_seq ?_
                      refine c_region ?_
                      refine o_T (y_move rfl) rfl ?_
                      refine o_T (y_move rfl) rfl ?_
                      refine o_T (y_fa fl_32_2 rfl) rfl ?_
                      refine o_ld one_3 rfl m0 Opn.g2 rfl ?_
                      refine o_call en_56 rfl (i56v A q x V _ _ oT (by omega) (by omega) ob W.h hb.ok W.s) (s_skip (s_take (s_take (s_skip (s_skip (s_skip (s_take s_nil))))))) rfl ?_
                      rintro v S' ⟨rfl, rfl⟩
                      refine o_T (y_not rfl) rfl ?_
                      refine o_nil1 70 rfl rfl ?_
                      refine c_cond rfl (fun h919 => ?_) (fun h919 => ?_)
                      · try simp only [decide_eq_true_eq, decide_eq_false_iff_not, Bool.not_eq_true', Bool.not_eq_false', Int.not_lt, Int.not_le, Decidable.not_not, beq_iff_eq, bne_iff_ne, ne_eq, beq_eq_false_iff_ne, WA.wd] at h919
                        refine c_seq ?_
                        refine c_region ?_
                        refine o_L (y_assign rfl) rfl rfl ?_
                        refine o_nil0 rfl ?_
                        refine c_ret ?_
                        refine fun aX wX heX hsX => ret1 Tryz.results18 heX rfl (s_get k0 (s_get k0 (s_get (ks (ks k0)) (s_get (ks (ks k0)) (s_get (ks (ks k0)) (s_get k0 (s_get (ks k0) (s_get (ks k0) (s_get (ks k0) (s_get (ks k0) s_nil)))))))))) ?_
                        refine ⟨congrArg Value.bool ?_, rfl⟩
                        unfold foulB
                        first
                          | (exfalso; omega)
                          | (rw [if_pos (by omega)]; done)
                          | (rw [if_neg (by omega), if_pos (by omega)]; done)
                          | (rw [if_neg (by omega), if_neg (by omega), if_pos (by omega)]; done)
                          | (rw [if_neg (by omega), if_neg (by omega), if_neg (by omega), if_pos (by omega)]; unfold foulE; rw [Int.toNat_natCast, ho]; first | rfl | simp)
                          | (rw [if_neg (by omega), if_neg (by omega), if_neg (by omega), if_neg (by omega), if_pos (by omega)]; unfold foulC; first | (rw [if_pos (by omega)]; done) | (have eT := hT3 (by omega) (by omega); rw [if_neg (by omega), ← eT]; first | (rw [if_pos (by assumption)]; done) | (rw [if_pos (by simpa using ‹x.listensB oT.toNat ob = true›)]) | (rw [if_neg (by simp_all)]; done)))
                          | (rw [if_neg (by omega), if_neg (by omega), if_neg (by omega), if_neg (by omega), if_neg (by omega)]; done)
                      · try simp only [decide_eq_true_eq, decide_eq_false_iff_not, Bool.not_eq_true', Bool.not_eq_false', Int.not_lt, Int.not_le, Decidable.not_not, beq_iff_eq, bne_iff_ne, ne_eq, beq_eq_false_iff_ne, WA.wd] at h919
                        refine c_skip ?_
                        refine c_seq ?_
                        refine c_region ?_
                        refine o_T (y_move rfl) rfl ?_
                        refine o_T (y_nilck rfl) rfl ?_
                        refine o_T (y_fa fl_53_6 rfl) rfl ?_
                        refine o_ld one_44 rfl m0 Wd.g30 rfl ?_
                        refine o_callrv en_57 rfl (i57 W.n) (s_skip (s_skip (s_skip (s_skip (s_skip (s_skip (s_take s_nil))))))) rfl ?_
                        refine o_T (y_not rfl) rfl ?_
                        refine o_L (y_assign rfl) rfl rfl ?_
                        refine o_nil0 rfl ?_
                        refine c_ret ?_
                        refine fun aX wX heX hsX => ret1 Tryz.results18 heX rfl (s_get k0 (s_get k0 (s_get (ks (ks k0)) (s_get (ks (ks k0)) (s_get (ks (ks k0)) (s_get k0 (s_get (ks k0) (s_get (ks k0) (s_get (ks k0) (s_get (ks k0) s_nil)))))))))) ?_
                        refine ⟨congrArg Value.bool ?_, rfl⟩
                        unfold foulB
                        first
                          | (exfalso; omega)
                          | (rw [if_pos (by omega)]; done)
                          | (rw [if_neg (by omega), if_pos (by omega)]; done)
                          | (rw [if_neg (by omega), if_neg (by omega), if_pos (by omega)]; done)
                          | (rw [if_neg (by omega), if_neg (by omega), if_neg (by omega), if_pos (by omega)]; unfold foulE; rw [Int.toNat_natCast, ho]; first | rfl | simp)
                          | (rw [if_neg (by omega), if_neg (by omega), if_neg (by omega), if_neg (by omega), if_pos (by omega)]; unfold foulC; first | (rw [if_pos (by omega)]; done) | (have eT := hT3 (by omega) (by omega); rw [if_neg (by omega), ← eT]; first | (rw [if_pos (by assumption)]; done) | (rw [if_pos (by simpa using ‹x.listensB oT.toNat ob = true›)]) | (rw [if_neg (by simp_all)]; done)))
                          | (rw [if_neg (by omega), if_neg (by omega), if_neg (by omega), if_neg (by omega), if_neg (by omega)]; done)
              · try simp only [decide_eq_true_eq, decide_eq_false_iff_not, Bool.not_eq_true', Bool.not_eq_false', Int.not_lt, Int.not_le, Decidable.not_not, beq_iff_eq, bne_iff_ne, ne_eq, beq_eq_false_iff_ne, WA.wd] at h914
                refine c_skip ?_
                refine c_seq ?_
                refine c_region ?_
                refine o_L (y_assign rfl) rfl rfl ?_
                refine o_nil0 rfl ?_
                refine c_ret ?_
                refine fun aX wX heX hsX => ret1 Tryz.results18 heX rfl (s_skip (s_take (s_take (s_take (s_take (s_take (s_take (s_take (s_take (s_take (s_take s_nil))))))))))) ?_
                refine ⟨congrArg Value.bool ?_, rfl⟩
                unfold foulB
                first
                  | (exfalso; omega)
                  | (rw [if_pos (by omega)]; done)
                  | (rw [if_neg (by omega), if_pos (by omega)]; done)
                  | (rw [if_neg (by omega), if_neg (by omega), if_pos (by omega)]; done)
                  | (rw [if_neg (by omega), if_neg (by omega), if_neg (by omega), if_pos (by omega)]; unfold foulE; rw [Int.toNat_natCast, ho]; first | rfl | simp)
                  | (rw [if_neg (by omega), if_neg (by omega), if_neg (by omega), if_neg (by omega), if_pos (by omega)]; unfold foulC; first | (rw [if_pos (by omega)]; done) | (have eT := hT3 (by omega) (by omega); rw [if_neg (by omega), ← eT]; first | (rw [if_pos (by assumption)]; done) | (rw [if_pos (by simpa using ‹x.listensB oT.toNat ob = true›)]) | (rw [if_neg (by simp_all)]; done)))
                  | (rw [if_neg (by omega), if_neg (by omega), if_neg (by omega), if_neg (by omega), if_neg (by omega)]; done)
  · try simp only [decide_eq_true_eq, decide_eq_false_iff_not, Bool.not_eq_true', Bool.not_eq_false', Int.not_lt, Int.not_le, Decidable.not_not, beq_iff_eq, bne_iff_ne, ne_eq, beq_eq_false_iff_ne, WA.wd] at h902
    refine c_seq ?_
    refine c_region ?_
    refine o_T (y_eql rfl rfl) rfl ?_
    refine o_L (y_assign rfl) rfl rfl ?_
    refine o_nil0 rfl ?_
    refine c_cond rfl (fun h902_1 => ?_) (fun h902_1 => ?_)
    · try simp only [decide_eq_true_eq, decide_eq_false_iff_not, Bool.not_eq_true', Bool.not_eq_false', Int.not_lt, Int.not_le, Decidable.not_not, beq_iff_eq, bne_iff_ne, ne_eq, beq_eq_false_iff_ne, WA.wd] at h902_1
      refine c_skip ?_
      refine c_cond rfl (fun h902_2 => ?_) (fun h902_2 => ?_)
      · try simp only [decide_eq_true_eq, decide_eq_false_iff_not, Bool.not_eq_true', Bool.not_eq_false', Int.not_lt, Int.not_le, Decidable.not_not, beq_iff_eq, bne_iff_ne, ne_eq, beq_eq_false_iff_ne, WA.wd] at h902_2
        refine c_seq ?_
        refine c_region ?_
        refine o_L (y_assign rfl) rfl rfl ?_
        refine o_nil0 rfl ?_
        refine c_ret ?_
        refine fun aX wX heX hsX => ret1 Tryz.results18 heX rfl (s_skip (s_take (s_take (s_take (s_take (s_take (s_take (s_take (s_take (s_take (s_take s_nil))))))))))) ?_
        refine ⟨congrArg Value.bool ?_, rfl⟩
        unfold foulB
        first
          | (exfalso; omega)
          | (rw [if_pos (by omega)]; done)
          | (rw [if_neg (by omega), if_pos (by omega)]; done)
          | (rw [if_neg (by omega), if_neg (by omega), if_pos (by omega)]; done)
          | (rw [if_neg (by omega), if_neg (by omega), if_neg (by omega), if_pos (by omega)]; unfold foulE; rw [Int.toNat_natCast, ho]; first | rfl | simp)
          | (rw [if_neg (by omega), if_neg (by omega), if_neg (by omega), if_neg (by omega), if_pos (by omega)]; unfold foulC; first | (rw [if_pos (by omega)]; done) | (have eT := hT3 (by omega) (by omega); rw [if_neg (by omega), ← eT]; first | (rw [if_pos (by assumption)]; done) | (rw [if_pos (by simpa using ‹x.listensB oT.toNat ob = true›)]) | (rw [if_neg (by simp_all)]; done)))
          | (rw [if_neg (by omega), if_neg (by omega), if_neg (by omega), if_neg (by omega), if_neg (by omega)]; done)
      · try simp only [decide_eq_true_eq, decide_eq_false_iff_not, Bool.not_eq_true', Bool.not_eq_false', Int.not_lt, Int.not_le, Decidable.not_not, beq_iff_eq, bne_iff_ne, ne_eq, beq_eq_false_iff_ne, WA.wd] at h902_2
        refine c_skip ?_
        refine c_seq ?_
        refine c_seq ?_
        refine c_region ?_
        refine o_T (y_fa fl_32_3 rfl) rfl ?_
        refine o_ld one_3 rfl m0 Opn.g3 rfl ?_
        refine o_T (y_lss rfl rfl) rfl ?_
        refine o_T (y_move rfl) rfl ?_
        refine o_split 18 rfl (fun h905 => ?_) (fun h905 => ?_)
        · try simp only [decide_eq_true_eq, decide_eq_false_iff_not, Bool.not_eq_true', Bool.not_eq_false', Int.not_lt, Int.not_le, Decidable.not_not, beq_iff_eq, bne_iff_ne, ne_eq, beq_eq_false_iff_ne, WA.wd] at h905
          refine o_pass rfl rfl rfl rfl rfl ?_
          refine o_pass rfl rfl rfl rfl rfl ?_
          refine o_pass rfl rfl rfl rfl rfl ?_
          refine o_T (y_pickT rfl rfl) rfl ?_
          refine o_nil1 22 rfl rfl ?_
          refine c_condT rfl ?_
          refine c_seq ?_
          refine c_region ?_
          refine o_L (y_assign rfl) rfl rfl ?_
          refine o_nil0 rfl ?_
          refine c_ret ?_
          refine fun aX wX heX hsX => ret1 Tryz.results18 heX rfl (s_skip (s_take (s_take (s_take (s_take (s_take (s_take (s_take (s_take (s_take (s_take s_nil))))))))))) ?_
          refine ⟨congrArg Value.bool ?_, rfl⟩
          unfold foulB
          first
            | (exfalso; omega)
            | (rw [if_pos (by omega)]; done)
            | (rw [if_neg (by omega), if_pos (by omega)]; done)
            | (rw [if_neg (by omega), if_neg (by omega), if_pos (by omega)]; done)
            | (rw [if_neg (by omega), if_neg (by omega), if_neg (by omega), if_pos (by omega)]; unfold foulE; rw [Int.toNat_natCast, ho]; first | rfl | simp)
            | (rw [if_neg (by omega), if_neg (by omega), if_neg (by omega), if_neg (by omega), if_pos (by omega)]; unfold foulC; first | (rw [if_pos (by omega)]; done) | (have eT := hT3 (by omega) (by omega); rw [if_neg (by omega), ← eT]; first | (rw [if_pos (by assumption)]; done) | (rw [if_pos (by simpa using ‹x.listensB oT.toNat ob = true›)]) | (rw [if_neg (by simp_all)]; done)))
            | (rw [if_neg (by omega), if_neg (by omega), if_neg (by omega), if_neg (by omega), if_neg (by omega)]; done)
        · try simp only [decide_eq_true_eq, decide_eq_false_iff_not, Bool.not_eq_true', Bool.not_eq_false', Int.not_lt, Int.not_le, Decidable.not_not, beq_iff_eq, bne_iff_ne, ne_eq, beq_eq_false_iff_ne, WA.wd] at h905
          refine o_take rfl rfl rfl ?_
          refine o_T (y_fa fl_32_3 rfl) rfl ?_
          refine o_take rfl rfl rfl ?_
          refine o_ld one_3 rfl m0 Opn.g3 rfl ?_
          refine o_take rfl rfl rfl ?_
          refine o_T (y_geq rfl rfl) rfl ?_
          refine o_T (y_pickF rfl rfl) rfl ?_
          refine o_nil1 22 rfl rfl ?_
          refine c_cond rfl (fun h905_1 => ?_) (fun h905_1 => ?_)
          · try simp only [decide_eq_true_eq, decide_eq_false_iff_not, Bool.not_eq_true', Bool.not_eq_false', Int.not_lt, Int.not_le, Decidable.not_not, beq_iff_eq, bne_iff_ne, ne_eq, beq_eq_false_iff_ne, WA.wd] at h905_1
            refine c_seq ?_
            refine c_region ?_
            refine o_L (y_assign rfl) rfl rfl ?_
            refine o_nil0 rfl ?_
            refine c_ret ?_
            refine fun aX wX heX hsX => ret1 Tryz.results18 heX rfl (s_skip (s_take (s_take (s_take (s_take (s_take (s_take (s_take (s_take (s_take (s_take s_nil))))))))))) ?_
            refine ⟨congrArg Value.bool ?_, rfl⟩
            unfold foulB
            first
              | (exfalso; omega)
              | (rw [if_pos (by omega)]; done)
              | (rw [if_neg (by omega), if_pos (by omega)]; done)
              | (rw [if_neg (by omega), if_neg (by omega), if_pos (by omega)]; done)
              | (rw [if_neg (by omega), if_neg (by omega), if_neg (by omega), if_pos (by omega)]; unfold foulE; rw [Int.toNat_natCast, ho]; first | rfl | simp)
              | (rw [if_neg (by omega), if_neg (by omega), if_neg (by omega), if_neg (by omega), if_pos (by omega)]; unfold foulC; first | (rw [if_pos (by omega)]; done) | (have eT := hT3 (by omega) (by omega); rw [if_neg (by omega), ← eT]; first | (rw [if_pos (by assumption)]; done) | (rw [if_pos (by simpa using ‹x.listensB oT.toNat ob = true›)]) | (rw [if_neg (by simp_all)]; done)))
              | (rw [if_neg (by omega), if_neg (by omega), if_neg (by omega), if_neg (by omega), if_neg (by omega)]; done)
          · try simp only [decide_eq_true_eq, decide_eq_false_iff_not, Bool.not_eq_true', Bool.not_eq_false', Int.not_lt, Int.not_le, Decidable.not_not, beq_iff_eq, bne_iff_ne, ne_eq, beq_eq_false_iff_ne, WA.wd] at h905_1
            refine c_skip ?_
            refine c_seq ?_
            refine c_seq ?_
            obtain ⟨c, rfl⟩ : ∃ c : Nat, oc = (c : Int) := ⟨oc.toNat, by omega⟩
            have c3 : c < 3 := by omega
            have ho := ho
            rw [Int.toNat_natCast] at ho
            refine c_region ?_
            refine o_T (y_fa fl_32_0 rfl) rfl ?_
            refine o_ld one_3 rfl m0 Opn.g0 rfl ?_
            refine o_nil1 24 rfl rfl ?_
            refine c_block ?_
            refine c_seq ?_
            refine c_region ?_
            refine o_T (y_eql rfl rfl) rfl ?_
            refine o_L (y_assign rfl) rfl rfl ?_
            refine o_nil0 rfl ?_
            refine c_cond rfl (fun h909 => ?_) (fun h909 => ?_)
            · try simp only [decide_eq_true_eq, decide_eq_false_iff_not, Bool.not_eq_true', Bool.not_eq_false', Int.not_lt, Int.not_le, Decidable.not_not, beq_iff_eq, bne_iff_ne, ne_eq, beq_eq_false_iff_ne, WA.wd] at h909
              refine c_seq ?_
              refine c_region ?_
              refine o_L (y_assign rfl) rfl rfl ?_
              refine o_nil0 rfl ?_
              refine c_ret ?_
              refine fun aX wX heX hsX => ret1 Tryz.results18 heX rfl (s_skip (s_take (s_take (s_take (s_take (s_take (s_take (s_take (s_take (s_take (s_take s_nil))))))))))) ?_
              refine ⟨congrArg Value.bool ?_, rfl⟩
              unfold foulB
              first
                | (exfalso; omega)
                | (rw [if_pos (by omega)]; done)
                | (rw [if_neg (by omega), if_pos (by omega)]; done)
                | (rw [if_neg (by omega), if_neg (by omega), if_pos (by omega)]; done)
                | (rw [if_neg (by omega), if_neg (by omega), if_neg (by omega), if_pos (by omega)]; unfold foulE; rw [Int.toNat_natCast, ho]; first | rfl | simp)
                | (rw [if_neg (by omega), if_neg (by omega), if_neg (by omega), if_neg (by omega), if_pos (by omega)]; unfold foulC; first | (rw [if_pos (by omega)]; done) | (have eT := hT3 (by omega) (by omega); rw [if_neg (by omega), ← eT]; first | (rw [if_pos (by assumption)]; done) | (rw [if_pos (by simpa using ‹x.listensB oT.toNat ob = true›)]) | (rw [if_neg (by simp_all)]; done)))
                | (rw [if_neg (by omega), if_neg (by omega), if_neg (by omega), if_neg (by omega), if_neg (by omega)]; done)
            · try simp only [decide_eq_true_eq, decide_eq_false_iff_not, Bool.not_eq_true', Bool.not_eq_false', Int.not_lt, Int.not_le, Decidable.not_not, beq_iff_eq, bne_iff_ne, ne_eq, beq_eq_false_iff_ne, WA.wd] at h909
              refine c_seq ?_
              refine c_region ?_
              refine o_T (y_eql rfl rfl) rfl ?_
              refine o_L (y_assign rfl) rfl rfl ?_
              refine o_nil0 rfl ?_
              refine c_cond rfl (fun h911 => ?_) (fun h911 => ?_)
              · try simp only [decide_eq_true_eq, decide_eq_false_iff_not, Bool.not_eq_true', Bool.not_eq_false', Int.not_lt, Int.not_le, Decidable.not_not, beq_iff_eq, bne_iff_ne, ne_eq, beq_eq_false_iff_ne, WA.wd] at h911
                refine c_seq ?_
                refine c_region ?_
                refine o_T (y_move rfl) rfl ?_
                refine o_T (y_fa fl_32_3 rfl) rfl ?_
                refine o_ld one_3 rfl m0 Opn.g3 rfl ?_
                refine o_T (y_fa fl_32_1 rfl) rfl ?_
                refine o_ld one_3 rfl m0 Opn.g1 rfl ?_
                refine o_call en_55 rfl (t55b _ _ _ _ _ _ c3 _ W.h hb.ok false ho) (s_skip (s_take (s_take s_nil))) rfl ?_
                rintro v S' ⟨pc_2, gc_2, rfl, hi_2, rfl⟩
                refine o_T (y_move rfl) rfl ?_
                refine o_T (y_extract rfl rfl) rfl ?_
                refine o_T (y_extract rfl rfl) rfl ?_
                refine o_alloc ze_69 rfl rfl (fun b_3 => ?_)
                refine o_sta ag_69 rfl rfl (si_plain hi_2) rfl r0 (setAll_full _ _ rfl) (of_ble rfl) ?_
                refine o_L (y_assign rfl) rfl rfl ?_
                refine o_nil0 rfl ?_
                refine c_seq ?_
                refine c_region ?_
                refine o_T (y_move rfl) rfl ?_
                refine o_T (y_not rfl) rfl ?_
                refine o_T (y_move rfl) rfl ?_
                refine o_pass rfl rfl rfl rfl rfl ?_
                refine o_pass rfl rfl rfl rfl rfl ?_
                refine o_pass rfl rfl rfl rfl rfl ?_
                refine o_pass rfl rfl rfl rfl rfl ?_
                refine o_pass rfl rfl rfl rfl rfl ?_
                refine o_pass rfl rfl rfl rfl rfl ?_
                refine o_T (y_pickT rfl rfl) rfl ?_
                refine o_L (y_assign rfl) rfl rfl ?_
                refine o_nil0 rfl ?_
                refine c_ret ?_
                refine fun aX wX heX hsX => ret1 Tryz.results18 heX rfl (s_skip (s_skip (s_take (s_take (s_skip (s_take (s_take (s_take (s_take (s_take (s_take (s_take (s_take s_nil))))))))))))) ?_
                refine ⟨congrArg Value.bool ?_, rfl⟩
                unfold foulB
                first
                  | (exfalso; omega)
                  | (rw [if_pos (by omega)]; done)
                  | (rw [if_neg (by omega), if_pos (by omega)]; done)
                  | (rw [if_neg (by omega), if_neg (by omega), if_pos (by omega)]; done)
                  | (rw [if_neg (by omega), if_neg (by omega), if_neg (by omega), if_pos (by omega)]; unfold foulE; rw [Int.toNat_natCast, ho]; first | rfl | simp)
                  | (rw [if_neg (by omega), if_neg (by omega), if_neg (by omega), if_neg (by omega), if_pos (by omega)]; unfold foulC; first | (rw [if_pos (by omega)]; done) | (have eT := hT3 (by omega) (by omega); rw [if_neg (by omega), ← eT]; first | (rw [if_pos (by assumption)]; done) | (rw [if_pos (by simpa using ‹x.listensB oT.toNat ob = true›)]) | (rw [if_neg (by simp_all)]; done)))
                  | (rw [if_neg (by omega), if_neg (by omega), if_neg (by omega), if_neg (by omega), if_neg (by omega)]; done)
              · try simp only [decide_eq_true_eq, decide_eq_false_iff_not, Bool.not_eq_true', Bool.not_eq_false', Int.not_lt, Int.not_le, Decidable.not_not, beq_iff_eq, bne_iff_ne, ne_eq, beq_eq_false_iff_ne, WA.wd] at h911
                refine c_seq ?_
                refine c_region ?_
                refine o_T (y_eql rfl rfl) rfl ?_
                refine o_L (y_assign rfl) rfl rfl ?_
                refine o_nil0 rfl ?_
                refine c_cond rfl (fun h914 => ?_) (fun h914 => ?_)
                · try simp only [decide_eq_true_eq, decide_eq_false_iff_not, Bool.not_eq_true', Bool.not_eq_false', Int.not_lt, Int.not_le, Decidable.not_not, beq_iff_eq, bne_iff_ne, ne_eq, beq_eq_false_iff_ne, WA.wd] at h914
                  refine c_seq ?_
                  refine c_region ?_
                  refine o_T (y_fa fl_32_1 rfl) rfl ?_
                  refine o_ld one_3 rfl m0 Opn.g1 rfl ?_
                  refine o_T (y_sub rfl rfl hT) rfl ?_
                  refine o_L (y_assign rfl) rfl rfl ?_
                  refine o_nil0 rfl ?_
                  refine c_seq ?_
                  refine c_seq ?_
                  refine c_region ?_
                  refine o_T (y_move rfl) rfl ?_
                  refine o_T (y_lss rfl rfl) rfl ?_
                  refine o_T (y_move rfl) rfl ?_
                  refine o_split 55 rfl (fun h916 => ?_) (fun h916 => ?_)
                  · try simp only [decide_eq_true_eq, decide_eq_false_iff_not, Bool.not_eq_true', Bool.not_eq_false', Int.not_lt, Int.not_le, Decidable.not_not, beq_iff_eq, bne_iff_ne, ne_eq, beq_eq_false_iff_ne, WA.wd] at h916
                    refine o_pass rfl rfl rfl rfl rfl ?_
                    refine o_pass rfl rfl rfl rfl rfl ?_
                    refine o_T (y_pickT rfl rfl) rfl ?_
                    refine o_T (y_move rfl) rfl ?_
                    refine o_pass rfl rfl rfl rfl rfl ?_
                    refine o_pass rfl rfl rfl rfl rfl ?_
                    refine o_pass rfl rfl rfl rfl rfl ?_
                    refine o_pass rfl rfl rfl rfl rfl ?_
                    refine o_T (y_pickT rfl rfl) rfl ?_
                    refine o_nil1 64 rfl rfl ?_
                    refine c_condT rfl ?_
                    refine c_seq ?_
                    refine c_region ?_
                    refine o_L (y_assign rfl) rfl rfl ?_
                    refine o_nil0 rfl ?_
                    refine c_ret ?_
                    refine fun aX wX heX hsX => ret1 Tryz.results18 heX rfl (s_skip (s_take (s_take (s_take (s_take (s_take (s_take (s_take (s_take (s_take (s_take s_nil))))))))))) ?_
                    refine ⟨congrArg Value.bool ?_, rfl⟩
                    unfold foulB
                    first
                      | (exfalso; omega)
                      | (rw [if_pos (by omega)]; done)
                      | (rw [if_neg (by omega), if_pos (by omega)]; done)
                      | (rw [if_neg (by omega), if_neg (by omega), if_pos (by omega)]; done)
                      | (rw [if_neg (by omega), if_neg (by omega), if_neg (by omega), if_pos (by omega)]; unfold foulE; rw [Int.toNat_natCast, ho]; first | rfl | simp)
                      | (rw [if_neg (by omega), if_neg (by omega), if_neg (by omega), if_neg (by omega), if_pos (by omega)]; unfold foulC; first | (rw [if_pos (by omega)]; done) | (have eT := hT3 (by omega) (by omega); rw [if_neg (by omega), ← eT]; first | (rw [if_pos (by assumption)]; done) | (rw [if_pos (by simpa using ‹x.listensB oT.toNat ob = true›)]) | (rw [if_neg (by simp_all)]; done)))
                      | (rw [if_neg (by omega), if_neg (by omega), if_neg (by omega), if_neg (by omega), if_neg (by omega)]; done)
                  · try simp only [decide_eq_true_eq, decide_eq_false_iff_not, Bool.not_eq_true', Bool.not_eq_false', Int.not_lt, Int.not_le, Decidable.not_not, beq_iff_eq, bne_iff_ne, ne_eq, beq_eq_false_iff_ne, WA.wd] at h916
                    refine o_take rfl rfl rfl ?_
                    refine o_T (y_move rfl) rfl ?_
                    refine o_take rfl rfl rfl ?_
                    refine o_T (y_geq rfl rfl) rfl ?_
                    refine o_T (y_pickF rfl rfl) rfl ?_
                    refine o_T (y_move rfl) rfl ?_
                    refine o_split 59 rfl (fun h916_1 => ?_) (fun h916_1 => ?_)
                    · try simp only [decide_eq_true_eq, decide_eq_false_iff_not, Bool.not_eq_true', Bool.not_eq_false', Int.not_lt, Int.not_le, Decidable.not_not, beq_iff_eq, bne_iff_ne, ne_eq, beq_eq_false_iff_ne, WA.wd] at h916_1
                      refine o_pass rfl rfl rfl rfl rfl ?_
                      refine o_pass rfl rfl rfl rfl rfl ?_
                      refine o_pass rfl rfl rfl rfl rfl ?_
                      refine o_pass rfl rfl rfl rfl rfl ?_
                      refine o_T (y_pickT rfl rfl) rfl ?_
                      refine o_nil1 64 rfl rfl ?_
                      refine c_condT rfl ?_
                      refine c_seq ?_
                      refine c_region ?_
                      refine o_L (y_assign rfl) rfl rfl ?_
                      refine o_nil0 rfl ?_
                      refine c_ret ?_
                      refine fun aX wX heX hsX => ret1 Tryz.results18 heX rfl (s_skip (s_take (s_take (s_take (s_take (s_take (s_take (s_take (s_take (s_take (s_take s_nil))))))))))) ?_
                      refine ⟨congrArg Value.bool ?_, rfl⟩
                      unfold foulB
                      first
                        | (exfalso; omega)
                        | (rw [if_pos (by omega)]; done)
                        | (rw [if_neg (by omega), if_pos (by omega)]; done)
                        | (rw [if_neg (by omega), if_neg (by omega), if_pos (by omega)]; done)
                        | (rw [if_neg (by omega), if_neg (by omega), if_neg (by omega), if_pos (by omega)]; unfold foulE; rw [Int.toNat_natCast, ho]; first | rfl | simp)
                        | (rw [if_neg (by omega), if_neg (by omega), if_neg (by omega), if_neg (by omega), if_pos (by omega)]; unfold foulC; first | (rw [if_pos (by omega)]; done) | (have eT := hT3 (by omega) (by omega); rw [if_neg (by omega), ← eT]; first | (rw [if_pos (by assumption)]; done) | (rw [if_pos (by simpa using ‹x.listensB oT.toNat ob = true›)]) | (rw [if_neg (by simp_all)]; done)))
                        | (rw [if_neg (by omega), if_neg (by omega), if_neg (by omega), if_neg (by omega), if_neg (by omega)]; done)
                    · try simp only [decide_eq_true_eq, decide_eq_false_iff_not, Bool.not_eq_true', Bool.not_eq_false', Int.not_lt, Int.not_le, Decidable.not_not, beq_iff_eq, bne_iff_ne, ne_eq, beq_eq_false_iff_ne, WA.wd] at h916_1
                      refine o_take rfl rfl rfl ?_
                      refine o_T (y_move rfl) rfl ?_
                      refine o_take rfl rfl rfl ?_
                      refine o_T (y_fa fl_32_3 rfl) rfl ?_
                      refine o_take rfl rfl rfl ?_
                      refine o_ld one_3 rfl m0 Opn.g3 rfl ?_
                      refine o_take rfl rfl rfl ?_
                      refine o_T (y_eql rfl rfl) rfl ?_
                      refine o_T (y_pickF rfl rfl) rfl ?_
                      refine o_nil1 64 rfl rfl ?_
                      refine c_cond rfl (fun h916_2 => ?_) (fun h916_2 => ?_)
                      · try simp only [decide_eq_true_eq, decide_eq_false_iff_not, Bool.not_eq_true', Bool.not_eq_false', Int.not_lt, Int.not_le, Decidable.not_not, beq_iff_eq, bne_iff_ne, ne_eq, beq_eq_false_iff_ne, WA.wd] at h916_2
                        refine c_seq ?_
                        refine c_region ?_
                        refine o_L (y_assign rfl) rfl rfl ?_
                        refine o_nil0 rfl ?_
                        refine c_ret ?_
                        refine fun aX wX heX hsX => ret1 Tryz.results18 heX rfl (s_skip (s_take (s_take (s_take (s_take (s_take (s_take (s_take (s_take (s_take (s_take s_nil))))))))))) ?_
                        refine ⟨congrArg Value.bool ?_, rfl⟩
                        unfold foulB
                        first
                          | (exfalso; omega)
                          | (rw [if_pos (by omega)]; done)
                          | (rw [if_neg (by omega), if_pos (by omega)]; done)
                          | (rw [if_neg (by omega), if_neg (by omega), if_pos (by omega)]; done)
                          | (rw [if_neg (by omega), if_neg (by omega), if_neg (by omega), if_pos (by omega)]; unfold foulE; rw [Int.toNat_natCast, ho]; first | rfl | simp)
                          | (rw [if_neg (by omega), if_neg (by omega), if_neg (by omega), if_neg (by omega), if_pos (by omega)]; unfold foulC; first | (rw [if_pos (by omega)]; done) | (have eT := hT3 (by omega) (by omega); rw [if_neg (by omega), ← eT]; first | (rw [if_pos (by assumption)]; done) | (rw [if_pos (by simpa using ‹x.listensB oT.toNat ob = true›)]) | (rw [if_neg (by simp_all)]; done)))
                          | (rw [if_neg (by omega), if_neg (by omega), if_neg (by omega), if_neg (by omega), if_neg (by omega)]; done)
                      · try simp only [decide_eq_true_eq, decide_eq_false_iff_not, Bool.not_eq_true', Bool.not_eq_false', Int.not_lt, Int.not_le, Decidable.not_not, beq_iff_eq, bne_iff_ne, ne_eq, beq_eq_false_iff_ne, WA.wd] at h916_2
                        refine c_skip ?_
                        refine c_seq ?_
                        refine c_seq ?_
                        refine c_region ?_
                        refine o_T (y_move rfl) rfl ?_
                        refine o_T (y_move rfl) rfl ?_
                        refine o_T (y_fa fl_32_2 rfl) rfl ?_
                        refine o_ld one_3 rfl m0 Opn.g2 rfl ?_
                        refine o_call en_56 rfl (i56v A q x V _ _ oT (by omega) (by omega) ob W.h hb.ok W.s) (s_skip (s_take (s_take (s_skip (s_skip (s_skip (s_take s_nil))))))) rfl ?_
                        rintro v S' ⟨rfl, rfl⟩
                        refine o_T (y_not rfl) rfl ?_
                        refine o_nil1 70 rfl rfl ?_
                        refine c_cond rfl (fun h919 => ?_) (fun h919 => ?_)
                        · try simp only [decide_eq_true_eq, decide_eq_false_iff_not, Bool.not_eq_true', Bool.not_eq_false', Int.not_lt, Int.not_le, Decidable.not_not, beq_iff_eq, bne_iff_ne, ne_eq, beq_eq_false_iff_ne, WA.wd] at h919
                          refine c_seq ?_
                          refine c_region ?_
                          refine o_L (y_assign rfl) rfl rfl ?_
                          refine o_nil0 rfl ?_
                          refine c_ret ?_
                          refine fun aX wX heX hsX => ret1 Tryz.results18 heX rfl (s_get k0 (s_get k0 (s_get (ks (ks k0)) (s_get (ks (ks k0)) (s_get (ks (ks k0)) (s_get k0 (s_get (ks k0) (s_get (ks k0) (s_get (ks k0) (s_get (ks k0) s_nil)))))))))) ?_
                          refine ⟨congrArg Value.bool ?_, rfl⟩
                          unfold foulB
                          first
                            | (exfalso; omega)
                            | (rw [if_pos (by omega)]; done)
                            | (rw [if_neg (by omega), if_pos (by omega)]; done)
                            | (rw [if_neg (by omega), if_neg (by omega), if_pos (by omega)]; done)
                            | (rw [if_neg (by omega), if_neg (by omega), if_neg (by omega), if_pos (by omega)]; unfold foulE; rw [Int.toNat_natCast, ho]; first | rfl | simp)
                            | (rw [if_neg (by omega), if_neg (by omega), if_neg (by omega), if_neg (by omega), if_pos (by omega)]; unfold foulC; first | (rw [if_pos (by omega)]; done) | (have eT := hT3 (by omega) (by omega); rw [if_neg (by omega), ← eT]; first | (rw [if_pos (by assumption)]; done) | (rw [if_pos (by simpa using ‹x.listensB oT.toNat ob = true›)]) | (rw [if_neg (by simp_all)]; done)))
                            | (rw [if_neg (by omega), if_neg (by omega), if_neg (by omega), if_neg (by omega), if_neg (by omega)]; done)
                        · try simp only [decide_eq_true_eq, decide_eq_false_iff_not, Bool.not_eq_true', Bool.not_eq_false', Int.not_lt, Int.not_le, Decidable.not_not, beq_iff_eq, bne_iff_ne, ne_eq, beq_eq_false_iff_ne, WA.wd] at h919
                          refine c_skip ?_
                          refine c_seq ?_
                          refine c_region ?_
                          refine o_T (y_move rfl) rfl ?_
                          refine o_T (y_nilck rfl) rfl ?_
                          refine o_T (y_fa fl_53_6 rfl) rfl ?_
                          refine o_ld one_44 rfl m0 Wd.g30 rfl ?_
                          refine o_callrv en_57 rfl (i57 W.n) (s_skip (s_skip (s_skip (s_skip (s_skip (s_skip (s_take s_nil))))))) rfl ?_
                          refine o_T (y_not rfl) rfl ?_
                          refine o_L (y_assign rfl) rfl rfl ?_
                          refine o_nil0 rfl ?_
                          refine c_ret ?_
                          refine fun aX wX heX hsX => ret1 Tryz.results18 heX rfl (s_get k0 (s_get k0 (s_get (ks (ks k0)) (s_get (ks (ks k0)) (s_get (ks (ks k0)) (s_get k0 (s_get (ks k0) (s_get (ks k0) (s_get (ks k0) (s_get (ks k0) s_nil)))))))))) ?_
                          refine ⟨congrArg Value.bool ?_, rfl⟩
                          unfold foulB
                          first
                            | (exfalso; omega)
                            | (rw [if_pos (by omega)]; done)
                            | (rw [if_neg (by omega), if_pos (by omega)]; done)
                            | (rw [if_neg (by omega), if_neg (by omega), if_pos (by omega)]; done)
                            | (rw [if_neg (by omega), if_neg (by omega), if_neg (by omega), if_pos (by omega)]; unfold foulE; rw [Int.toNat_natCast, ho]; first | rfl | simp)
                            | (rw [if_neg (by omega), if_neg (by omega), if_neg (by omega), if_neg (by omega), if_pos (by omega)]; unfold foulC; first | (rw [if_pos (by omega)]; done) | (have eT := hT3 (by omega) (by omega); rw [if_neg (by omega), ← eT]; first | (rw [if_pos (by assumption)]; done) | (rw [if_pos (by simpa using ‹x.listensB oT.toNat ob = true›)]) | (rw [if_neg (by simp_all)]; done)))
                            | (rw [if_neg (by omega), if_neg (by omega), if_neg (by omega), if_neg (by omega), if_neg (by omega)]; done)
                · try simp only [decide_eq_true_eq, decide_eq_false_iff_not, Bool.not_eq_true', Bool.not_eq_false', Int.not_lt, Int.not_le, Decidable.not_not, beq_iff_eq, bne_iff_ne, ne_eq, beq_eq_false_iff_ne, WA.wd] at h914
                  refine c_skip ?_
                  refine c_seq ?_
                  refine c_region ?_
                  refine o_L (y_assign rfl) rfl rfl ?_
                  refine o_nil0 rfl ?_
                  refine c_ret ?_
                  refine fun aX wX heX hsX => ret1 Tryz.results18 heX rfl (s_skip (s_take (s_take (s_take (s_take (s_take (s_take (s_take (s_take (s_take (s_take s_nil))))))))))) ?_
                  refine ⟨congrArg Value.bool ?_, rfl⟩
                  unfold foulB
                  first
                    | (exfalso; omega)
                    | (rw [if_pos (by omega)]; done)
                    | (rw [if_neg (by omega), if_pos (by omega)]; done)
                    | (rw [if_neg (by omega), if_neg (by omega), if_pos (by omega)]; done)
                    | (rw [if_neg (by omega), if_neg (by omega), if_neg (by omega), if_pos (by omega)]; unfold foulE; rw [Int.toNat_natCast, ho]; first | rfl | simp)
                    | (rw [if_neg (by omega), if_neg (by omega), if_neg (by omega), if_neg (by omega), if_pos (by omega)]; unfold foulC; first | (rw [if_pos (by omega)]; done) | (have eT := hT3 (by omega) (by omega); rw [if_neg (by omega), ← eT]; first | (rw [if_pos (by assumption)]; done) | (rw [if_pos (by simpa using ‹x.listensB oT.toNat ob = true›)]) | (rw [if_neg (by simp_all)]; done)))
                    | (rw [if_neg (by omega), if_neg (by omega), if_neg (by omega), if_neg (by omega), if_neg (by omega)]; done)
    · try simp only [decide_eq_true_eq, decide_eq_false_iff_not, Bool.not_eq_true', Bool.not_eq_false', Int.not_lt, Int.not_le, Decidable.not_not, beq_iff_eq, bne_iff_ne, ne_eq, beq_eq_false_iff_ne, WA.wd] at h902_1
      refine c_seq ?_
      refine c_region ?_
      refine o_T (y_eql rfl rfl) rfl ?_
      refine o_L (y_assign rfl) rfl rfl ?_
      refine o_nil0 rfl ?_
      refine c_cond rfl (fun h902_2 => ?_) (fun h902_2 => ?_)
      · try simp only [decide_eq_true_eq, decide_eq_false_iff_not, Bool.not_eq_true', Bool.not_eq_false', Int.not_lt, Int.not_le, Decidable.not_not, beq_iff_eq, bne_iff_ne, ne_eq, beq_eq_false_iff_ne, WA.wd] at h902_2
        refine c_skip ?_
        refine c_cond rfl (fun h902_3 => ?_) (fun h902_3 => ?_)
        · try simp only [decide_eq_true_eq, decide_eq_false_iff_not, Bool.not_eq_true', Bool.not_eq_false', Int.not_lt, Int.not_le, Decidable.not_not, beq_iff_eq, bne_iff_ne, ne_eq, beq_eq_false_iff_ne, WA.wd] at h902_3
          refine c_seq ?_
          refine c_region ?_
          refine o_L (y_assign rfl) rfl rfl ?_
          refine o_nil0 rfl ?_
          refine c_ret ?_
          refine fun aX wX heX hsX => ret1 Tryz.results18 heX rfl (s_skip (s_take (s_take (s_take (s_take (s_take (s_take (s_take (s_take (s_take (s_take s_nil))))))))))) ?_
          refine ⟨congrArg Value.bool ?_, rfl⟩
          unfold foulB
          first
            | (exfalso; omega)
            | (rw [if_pos (by omega)]; done)
            | (rw [if_neg (by omega), if_pos (by omega)]; done)
            | (rw [if_neg (by omega), if_neg (by omega), if_pos (by omega)]; done)
            | (rw [if_neg (by omega), if_neg (by omega), if_neg (by omega), if_pos (by omega)]; unfold foulE; rw [Int.toNat_natCast, ho]; first | rfl | simp)
            | (rw [if_neg (by omega), if_neg (by omega), if_neg (by omega), if_neg (by omega), if_pos (by omega)]; unfold foulC; first | (rw [if_pos (by omega)]; done) | (have eT := hT3 (by omega) (by omega); rw [if_neg (by omega), ← eT]; first | (rw [if_pos (by assumption)]; done) | (rw [if_pos (by simpa using ‹x.listensB oT.toNat ob = true›)]) | (rw [if_neg (by simp_all)]; done)))
            | (rw [if_neg (by omega), if_neg (by omega), if_neg (by omega), if_neg (by omega), if_neg (by omega)]; done)
        · try simp only [decide_eq_true_eq, decide_eq_false_iff_not, Bool.not_eq_true', Bool.not_eq_false', Int.not_lt, Int.not_le, Decidable.not_not, beq_iff_eq, bne_iff_ne, ne_eq, beq_eq_false_iff_ne, WA.wd] at h902_3
          refine c_skip ?_
          refine c_seq ?_
          refine c_seq ?_
          refine c_region ?_
          refine o_T (y_fa fl_32_3 rfl) rfl ?_
          refine o_ld one_3 rfl m0 Opn.g3 rfl ?_
          refine o_T (y_lss rfl rfl) rfl ?_
          refine o_T (y_move rfl) rfl ?_
          refine o_split 18 rfl (fun h905 => ?_) (fun h905 => ?_)
          · try simp only [decide_eq_true_eq, decide_eq_false_iff_not, Bool.not_eq_true', Bool.not_eq_false', Int.not_lt, Int.not_le, Decidable.not_not, beq_iff_eq, bne_iff_ne, ne_eq, beq_eq_false_iff_ne, WA.wd] at h905
            refine o_pass rfl rfl rfl rfl rfl ?_
            refine o_pass rfl rfl rfl rfl rfl ?_
            refine o_pass rfl rfl rfl rfl rfl ?_
            refine o_T (y_pickT rfl rfl) rfl ?_
            refine o_nil1 22 rfl rfl ?_
            refine c_condT rfl ?_
            refine c_seq ?_
            refine c_region ?_
            refine o_L (y_assign rfl) rfl rfl ?_
            refine o_nil0 rfl ?_
            refine c_ret ?_
            refine fun aX wX heX hsX => ret1 Tryz.results18 heX rfl (s_skip (s_take (s_take (s_take (s_take (s_take (s_take (s_take (s_take (s_take (s_take s_nil))))))))))) ?_
            refine ⟨congrArg Value.bool ?_, rfl⟩
            unfold foulB
            first
              | (exfalso; omega)
              | (rw [if_pos (by omega)]; done)
              | (rw [if_neg (by omega), if_pos (by omega)]; done)
              | (rw [if_neg (by omega), if_neg (by omega), if_pos (by omega)]; done)
              | (rw [if_neg (by omega), if_neg (by omega), if_neg (by omega), if_pos (by omega)]; unfold foulE; rw [Int.toNat_natCast, ho]; first | rfl | simp)
              | (rw [if_neg (by omega), if_neg (by omega), if_neg (by omega), if_neg (by omega), if_pos (by omega)]; unfold foulC; first | (rw [if_pos (by omega)]; done) | (have eT := hT3 (by omega) (by omega); rw [if_neg (by omega), ← eT]; first | (rw [if_pos (by assumption)]; done) | (rw [if_pos (by simpa using ‹x.listensB oT.toNat ob = true›)]) | (rw [if_neg (by simp_all)]; done)))
              | (rw [if_neg (by omega), if_neg (by omega), if_neg (by omega), if_neg (by omega), if_neg (by omega)]; done)
          · try simp only [decide_eq_true_eq, decide_eq_false_iff_not, Bool.not_eq_true', Bool.not_eq_false', Int.not_lt, Int.not_le, Decidable.not_not, beq_iff_eq, bne_iff_ne, ne_eq, beq_eq_false_iff_ne, WA.wd] at h905
            refine o_take rfl rfl rfl ?_
            refine o_T (y_fa fl_32_3 rfl) rfl ?_
            refine o_take rfl rfl rfl ?_
            refine o_ld one_3 rfl m0 Opn.g3 rfl ?_
            refine o_take rfl rfl rfl ?_
            refine o_T (y_geq rfl rfl) rfl ?_
            refine o_T (y_pickF rfl rfl) rfl ?_
            refine o_nil1 22 rfl rfl ?_
            refine c_cond rfl (fun h905_1 => ?_) (fun h905_1 => ?_)
            · try simp only [decide_eq_true_eq, decide_eq_false_iff_not, Bool.not_eq_true', Bool.not_eq_false', Int.not_lt, Int.not_le, Decidable.not_not, beq_iff_eq, bne_iff_ne, ne_eq, beq_eq_false_iff_ne, WA.wd] at h905_1
              refine c_seq ?_
              refine c_region ?_
              refine o_L (y_assign rfl) rfl rfl ?_
              refine o_nil0 rfl ?_
              refine c_ret ?_
              refine fun aX wX heX hsX => ret1 Tryz.results18 heX rfl (s_skip (s_take (s_take (s_take (s_take (s_take (s_take (s_take (s_take (s_take (s_take s_nil))))))))))) ?_
              refine ⟨congrArg Value.bool ?_, rfl⟩
              unfold foulB
              first
                | (exfalso; omega)
                | (rw [if_pos (by omega)]; done)
                | (rw [if_neg (by omega), if_pos (by omega)]; done)
                | (rw [if_neg (by omega), if_neg (by omega), if_pos (by omega)]; done)
                | (rw [if_neg (by omega), if_neg (by omega), if_neg (by omega), if_pos (by omega)]; unfold foulE; rw [Int.toNat_natCast, ho]; first | rfl | simp)
                | (rw [if_neg (by omega), if_neg (by omega), if_neg (by omega), if_neg (by omega), if_pos (by omega)]; unfold foulC; first | (rw [if_pos (by omega)]; done) | (have eT := hT3 (by omega) (by omega); rw [if_neg (by omega), ← eT]; first | (rw [if_pos (by assumption)]; done) | (rw [if_pos (by simpa using ‹x.listensB oT.toNat ob = true›)]) | (rw [if_neg (by simp_all)]; done)))
                | (rw [if_neg (by omega), if_neg (by omega), if_neg (by omega), if_neg (by omega), if_neg (by omega)]; done)
            · try simp only [decide_eq_true_eq, decide_eq_false_iff_not, Bool.not_eq_true', Bool.not_eq_false', Int.not_lt, Int.not_le, Decidable.not_not, beq_iff_eq, bne_iff_ne, ne_eq, beq_eq_false_iff_ne, WA.wd] at h905_1
              refine c_skip ?_
              refine c_seq ?_
              refine c_seq ?_
              obtain ⟨c, rfl⟩ : ∃ c : Nat, oc = (c : Int) := ⟨oc.toNat, by omega⟩
              have c3 : c < 3 := by omega
              have ho := ho
              rw [Int.toNat_natCast] at ho
              refine c_region ?_
              refine o_T (y_fa fl_32_0 rfl) rfl ?_
              refine o_ld one_3 rfl m0 Opn.g0 rfl ?_
              refine o_nil1 24 rfl rfl ?_
              refine c_block ?_
              refine c_seq ?_
              refine c_region ?_
              refine o_T (y_eql rfl rfl) rfl ?_
              refine o_L (y_assign rfl) rfl rfl ?_
              refine o_nil0 rfl ?_
              refine c_cond rfl (fun h909 => ?_) (fun h909 => ?_)
              · try simp only [decide_eq_true_eq, decide_eq_false_iff_not, Bool.not_eq_true', Bool.not_eq_false', Int.not_lt, Int.not_le, Decidable.not_not, beq_iff_eq, bne_iff_ne, ne_eq, beq_eq_false_iff_ne, WA.wd] at h909
                refine c_seq ?_
                refine c_region ?_
                refine o_L (y_assign rfl) rfl rfl ?_
                refine o_nil0 rfl ?_
                refine c_ret ?_
                refine fun aX wX heX hsX => ret1 Tryz.results18 heX rfl (s_skip (s_take (s_take (s_take (s_take (s_take (s_take (s_take (s_take (s_take (s_take s_nil))))))))))) ?_
                refine ⟨congrArg Value.bool ?_, rfl⟩
                unfold foulB
                first
                  | (exfalso; omega)
                  | (rw [if_pos (by omega)]; done)
                  | (rw [if_neg (by omega), if_pos (by omega)]; done)
                  | (rw [if_neg (by omega), if_neg (by omega), if_pos (by omega)]; done)
                  | (rw [if_neg (by omega), if_neg (by omega), if_neg (by omega), if_pos (by omega)]; unfold foulE; rw [Int.toNat_natCast, ho]; first | rfl | simp)
                  | (rw [if_neg (by omega), if_neg (by omega), if_neg (by omega), if_neg (by omega), if_pos (by omega)]; unfold foulC; first | (rw [if_pos (by omega)]; done) | (have eT := hT3 (by omega) (by omega); rw [if_neg (by omega), ← eT]; first | (rw [if_pos (by assumption)]; done) | (rw [if_pos (by simpa using ‹x.listensB oT.toNat ob = true›)]) | (rw [if_neg (by simp_all)]; done)))
                  | (rw [if_neg (by omega), if_neg (by omega), if_neg (by omega), if_neg (by omega), if_neg (by omega)]; done)
              · try simp only [decide_eq_true_eq, decide_eq_false_iff_not, Bool.not_eq_true', Bool.not_eq_false', Int.not_lt, Int.not_le, Decidable.not_not, beq_iff_eq, bne_iff_ne, ne_eq, beq_eq_false_iff_ne, WA.wd] at h909
                refine c_seq ?_
                refine c_region ?_
                refine o_T (y_eql rfl rfl) rfl ?_
                refine o_L (y_assign rfl) rfl rfl ?_
                refine o_nil0 rfl ?_
                refine c_cond rfl (fun h911 => ?_) (fun h911 => ?_)
                · try simp only [decide_eq_true_eq, decide_eq_false_iff_not, Bool.not_eq_true', Bool.not_eq_false', Int.not_lt, Int.not_le, Decidable.not_not, beq_iff_eq, bne_iff_ne, ne_eq, beq_eq_false_iff_ne, WA.wd] at h911
                  refine c_seq ?_
                  refine c_region ?_
                  refine o_T (y_move rfl) rfl ?_
                  refine o_T (y_fa fl_32_3 rfl) rfl ?_
                  refine o_ld one_3 rfl m0 Opn.g3 rfl ?_
                  refine o_T (y_fa fl_32_1 rfl) rfl ?_
                  refine o_ld one_3 rfl m0 Opn.g1 rfl ?_
                  refine o_call en_55 rfl (t55b _ _ _ _ _ _ c3 _ W.h hb.ok false ho) (s_skip (s_take (s_take s_nil))) rfl ?_
                  rintro v S' ⟨pc_3, gc_3, rfl, hi_3, rfl⟩
                  refine o_T (y_move rfl) rfl ?_
                  refine o_T (y_extract rfl rfl) rfl ?_
                  refine o_T (y_extract rfl rfl) rfl ?_
                  refine o_alloc ze_69 rfl rfl (fun b_4 => ?_)
                  refine o_sta ag_69 rfl rfl (si_plain hi_3) rfl r0 (setAll_full _ _ rfl) (of_ble rfl) ?_
                  refine o_L (y_assign rfl) rfl rfl ?_
                  refine o_nil0 rfl ?_
                  refine c_seq ?_
                  refine c_region ?_
                  refine o_T (y_move rfl) rfl ?_
                  refine o_T (y_not rfl) rfl ?_
                  refine o_T (y_move rfl) rfl ?_
                  refine o_pass rfl rfl rfl rfl rfl ?_
                  refine o_pass rfl rfl rfl rfl rfl ?_
                  refine o_pass rfl rfl rfl rfl rfl ?_
                  refine o_pass rfl rfl rfl rfl rfl ?_
                  refine o_pass rfl rfl rfl rfl rfl ?_
                  refine o_pass rfl rfl rfl rfl rfl ?_
                  refine o_T (y_pickT rfl rfl) rfl ?_
                  refine o_L (y_assign rfl) rfl rfl ?_
                  refine o_nil0 rfl ?_
                  refine c_ret ?_
                  refine fun aX wX heX hsX => ret1 Tryz.results18 heX rfl (s_skip (s_skip (s_take (s_take (s_skip (s_take (s_take (s_take (s_take (s_take (s_take (s_take (s_take s_nil))))))))))))) ?_
                  refine ⟨congrArg Value.bool ?_, rfl⟩
                  unfold foulB
                  first
                    | (exfalso; omega)
                    | (rw [if_pos (by omega)]; done)
                    | (rw [if_neg (by omega), if_pos (by omega)]; done)
                    | (rw [if_neg (by omega), if_neg (by omega), if_pos (by omega)]; done)
                    | (rw [if_neg (by omega), if_neg (by omega), if_neg (by omega), if_pos (by omega)]; unfold foulE; rw [Int.toNat_natCast, ho]; first | rfl | simp)
                    | (rw [if_neg (by omega), if_neg (by omega), if_neg (by omega), if_neg (by omega), if_pos (by omega)]; unfold foulC; first | (rw [if_pos (by omega)]; done) | (have eT := hT3 (by omega) (by omega); rw [if_neg (by omega), ← eT]; first | (rw [if_pos (by assumption)]; done) | (rw [if_pos (by simpa using ‹x.listensB oT.toNat ob = true›)]) | (rw [if_neg (by simp_all)]; done)))
                    | (rw [if_neg (by omega), if_neg (by omega), if_neg (by omega), if_neg (by omega), if_neg (by omega)]; done)
                · try simp only [decide_eq_true_eq, decide_eq_false_iff_not, Bool.not_eq_true', Bool.not_eq_false', Int.not_lt, Int.not_le, Decidable.not_not, beq_iff_eq, bne_iff_ne, ne_eq, beq_eq_false_iff_ne, WA.wd] at h911
                  refine c_seq ?_
                  refine c_region ?_
                  refine o_T (y_eql rfl rfl) rfl ?_
                  refine o_L (y_assign rfl) rfl rfl ?_
                  refine o_nil0 rfl ?_
                  refine c_cond rfl (fun h914 => ?_) (fun h914 => ?_)
                  · try simp only [decide_eq_true_eq, decide_eq_false_iff_not, Bool.not_eq_true', Bool.not_eq_false', Int.not_lt, Int.not_le, Decidable.not_not, beq_iff_eq, bne_iff_ne, ne_eq, beq_eq_false_iff_ne, WA.wd] at h914
                    refine c_seq ?_
                    refine c_region ?_
                    refine o_T (y_fa fl_32_1 rfl) rfl ?_
                    refine o_ld one_3 rfl m0 Opn.g1 rfl ?_
                    refine o_T (y_sub rfl rfl hT) rfl ?_
                    refine o_L (y_assign rfl) rfl rfl ?_
                    refine o_nil0 rfl ?_
                    refine c_seq ?_
                    refine c_seq ?_
                    refine c_region ?_
                    refine o_T (y_move rfl) rfl ?_
                    refine o_T (y_lss rfl rfl) rfl ?_
                    refine o_T (y_move rfl) rfl ?_
                    refine o_split 55 rfl (fun h916 => ?_) (fun h916 => ?_)
                    · try simp only [decide_eq_true_eq, decide_eq_false_iff_not, Bool.not_eq_true', Bool.not_eq_false', Int.not_lt, Int.not_le, Decidable.not_not, beq_iff_eq, bne_iff_ne, ne_eq, beq_eq_false_iff_ne, WA.wd] at h916
                      refine o_pass rfl rfl rfl rfl rfl ?_
                      refine o_pass rfl rfl rfl rfl rfl ?_
                      refine o_T (y_pickT rfl rfl) rfl ?_
                      refine o_T (y_move rfl) rfl ?_
                      refine o_pass rfl rfl rfl rfl rfl ?_
                      refine o_pass rfl rfl rfl rfl rfl ?_
                      refine o_pass rfl rfl rfl rfl rfl ?_
                      refine o_pass rfl rfl rfl rfl rfl ?_
                      refine o_T (y_pickT rfl rfl) rfl ?_
                      refine o_nil1 64 rfl rfl ?_
                      refine c_condT rfl ?_
                      refine c_seq ?_
                      refine c_region ?_
                      refine o_L (y_assign rfl) rfl rfl ?_
                      refine o_nil0 rfl ?_
                      refine c_ret ?_
                      refine fun aX wX heX hsX => ret1 Tryz.results18 heX rfl (s_skip (s_take (s_take (s_take (s_take (s_take (s_take (s_take (s_take (s_take (s_take s_nil))))))))))) ?_
                      refine ⟨congrArg Value.bool ?_, rfl⟩
                      unfold foulB
                      first
                        | (exfalso; omega)
                        | (rw [if_pos (by omega)]; done)
                        | (rw [if_neg (by omega), if_pos (by omega)]; done)
                        | (rw [if_neg (by omega), if_neg (by omega), if_pos (by omega)]; done)
                        | (rw [if_neg (by omega), if_neg (by omega), if_neg (by omega), if_pos (by omega)]; unfold foulE; rw [Int.toNat_natCast, ho]; first | rfl | simp)
                        | (rw [if_neg (by omega), if_neg (by omega), if_neg (by omega), if_neg (by omega), if_pos (by omega)]; unfold foulC; first | (rw [if_pos (by omega)]; done) | (have eT := hT3 (by omega) (by omega); rw [if_neg (by omega), ← eT]; first | (rw [if_pos (by assumption)]; done) | (rw [if_pos (by simpa using ‹x.listensB oT.toNat ob = true›)]) | (rw [if_neg (by simp_all)]; done)))
                        | (rw [if_neg (by omega), if_neg (by omega), if_neg (by omega), if_neg (by omega), if_neg (by omega)]; done)
                    · try simp only [decide_eq_true_eq, decide_eq_false_iff_not, Bool.not_eq_true', Bool.not_eq_false', Int.not_lt, Int.not_le, Decidable.not_not, beq_iff_eq, bne_iff_ne, ne_eq, beq_eq_false_iff_ne, WA.wd] at h916
                      refine o_take rfl rfl rfl ?_
                      refine o_T (y_move rfl) rfl ?_
                      refine o_take rfl rfl rfl ?_
                      refine o_T (y_geq rfl rfl) rfl ?_
                      refine o_T (y_pickF rfl rfl) rfl ?_
                      refine o_T (y_move rfl) rfl ?_
                      refine o_split 59 rfl (fun h916_1 => ?_) (fun h916_1 => ?_)
                      · try simp only [decide_eq_true_eq, decide_eq_false_iff_not, Bool.not_eq_true', Bool.not_eq_false', Int.not_lt, Int.not_le, Decidable.not_not, beq_iff_eq, bne_iff_ne, ne_eq, beq_eq_false_iff_ne, WA.wd] at h916_1
                        refine o_pass rfl rfl rfl rfl rfl ?_
                        refine o_pass rfl rfl rfl rfl rfl ?_
                        refine o_pass rfl rfl rfl rfl rfl ?_
                        refine o_pass rfl rfl rfl rfl rfl ?_
                        refine o_T (y_pickT rfl rfl) rfl ?_
                        refine o_nil1 64 rfl rfl ?_
                        refine c_condT rfl ?_
                        refine c_seq ?_
                        refine c_region ?_
                        refine o_L (y_assign rfl) rfl rfl ?_
                        refine o_nil0 rfl ?_
                        refine c_ret ?_
                        refine fun aX wX heX hsX => ret1 Tryz.results18 heX rfl (s_skip (s_take (s_take (s_take (s_take (s_take (s_take (s_take (s_take (s_take (s_take s_nil))))))))))) ?_
                        refine ⟨congrArg Value.bool ?_, rfl⟩
                        unfold foulB
                        first
                          | (exfalso; omega)
                          | (rw [if_pos (by omega)]; done)
                          | (rw [if_neg (by omega), if_pos (by omega)]; done)
                          | (rw [if_neg (by omega), if_neg (by omega), if_pos (by omega)]; done)
                          | (rw [if_neg (by omega), if_neg (by omega), if_neg (by omega), if_pos (by omega)]; unfold foulE; rw [Int.toNat_natCast, ho]; first | rfl | simp)
                          | (rw [if_neg (by omega), if_neg (by omega), if_neg (by omega), if_neg (by omega), if_pos (by omega)]; unfold foulC; first | (rw [if_pos (by omega)]; done) | (have eT := hT3 (by omega) (by omega); rw [if_neg (by omega), ← eT]; first | (rw [if_pos (by assumption)]; done) | (rw [if_pos (by simpa using ‹x.listensB oT.toNat ob = true›)]) | (rw [if_neg (by simp_all)]; done)))
                          | (rw [if_neg (by omega), if_neg (by omega), if_neg (by omega), if_neg (by omega), if_neg (by omega)]; done)
                      · try simp only [decide_eq_true_eq, decide_eq_false_iff_not, Bool.not_eq_true', Bool.not_eq_false', Int.not_lt, Int.not_le, Decidable.not_not, beq_iff_eq, bne_iff_ne, ne_eq, beq_eq_false_iff_ne, WA.wd] at h916_1
                        refine o_take rfl rfl rfl ?_
                        refine o_T (y_move rfl) rfl ?_
                        refine o_take rfl rfl rfl ?_
                        refine o_T (y_fa fl_32_3 rfl) rfl ?_
                        refine o_take rfl rfl rfl ?_
                        refine o_ld one_3 rfl m0 Opn.g3 rfl ?_
                        refine o_take rfl rfl rfl ?_
                        refine o_T (y_eql rfl rfl) rfl ?_
                        refine o_T (y_pickF rfl rfl) rfl ?_
                        refine o_nil1 64 rfl rfl ?_
                        refine c_cond rfl (fun h916_2 => ?_) (fun h916_2 => ?_)
                        · try simp only [decide_eq_true_eq, decide_eq_false_iff_not, Bool.not_eq_true', Bool.not_eq_false', Int.not_lt, Int.not_le, Decidable.not_not, beq_iff_eq, bne_iff_ne, ne_eq, beq_eq_false_iff_ne, WA.wd] at h916_2
                          refine c_seq ?_
                          refine c_region ?_
                          refine o_L (y_assign rfl) rfl rfl ?_
                          refine o_nil0 rfl ?_
                          refine c_ret ?_
                          refine fun aX wX heX hsX => ret1 Tryz.results18 heX rfl (s_skip (s_take (s_take (s_take (s_take (s_take (s_take (s_take (s_take (s_take (s_take s_nil))))))))))) ?_
                          refine ⟨congrArg Value.bool ?_, rfl⟩
                          unfold foulB
                          first
                            | (exfalso; omega)
                            | (rw [if_pos (by omega)]; done)
                            | (rw [if_neg (by omega), if_pos (by omega)]; done)
                            | (rw [if_neg (by omega), if_neg (by omega), if_pos (by omega)]; done)
                            | (rw [if_neg (by omega), if_neg (by omega), if_neg (by omega), if_pos (by omega)]; unfold foulE; rw [Int.toNat_natCast, ho]; first | rfl | simp)
                            | (rw [if_neg (by omega), if_neg (by omega), if_neg (by omega), if_neg (by omega), if_pos (by omega)]; unfold foulC; first | (rw [if_pos (by omega)]; done) | (have eT := hT3 (by omega) (by omega); rw [if_neg (by omega), ← eT]; first | (rw [if_pos (by assumption)]; done) | (rw [if_pos (by simpa using ‹x.listensB oT.toNat ob = true›)]) | (rw [if_neg (by simp_all)]; done)))
                            | (rw [if_neg (by omega), if_neg (by omega), if_neg (by omega), if_neg (by omega), if_neg (by omega)]; done)
                        · try simp only [decide_eq_true_eq, decide_eq_false_iff_not, Bool.not_eq_true', Bool.not_eq_false', Int.not_lt, Int.not_le, Decidable.not_not, beq_iff_eq, bne_iff_ne, ne_eq, beq_eq_false_iff_ne, WA.wd] at h916_2
                          refine c_skip ?_
                          refine c_seq ?_
                          refine c_seq ?_
                          refine c_region ?_
                          refine o_T (y_move rfl) rfl ?_
                          refine o_T (y_move rfl) rfl ?_
                          refine o_T (y_fa fl_32_2 rfl) rfl ?_
                          refine o_ld one_3 rfl m0 Opn.g2 rfl ?_
                          refine o_call en_56 rfl (i56v A q x V _ _ oT (by omega) (by omega) ob W.h hb.ok W.s) (s_skip (s_take (s_take (s_skip (s_skip (s_skip (s_take s_nil))))))) rfl ?_
                          rintro v S' ⟨rfl, rfl⟩
                          refine o_T (y_not rfl) rfl ?_
                          refine o_nil1 70 rfl rfl ?_
                          refine c_cond rfl (fun h919 => ?_) (fun h919 => ?_)
                          · try simp only [decide_eq_true_eq, decide_eq_false_iff_not, Bool.not_eq_true', Bool.not_eq_false', Int.not_lt, Int.not_le, Decidable.not_not, beq_iff_eq, bne_iff_ne, ne_eq, beq_eq_false_iff_ne, WA.wd] at h919
                            refine c_seq ?_
                            refine c_region ?_
                            refine o_L (y_assign rfl) rfl rfl ?_
                            refine o_nil0 rfl ?_
                            refine c_ret ?_
                            refine fun aX wX heX hsX => ret1 Tryz.results18 heX rfl (s_get k0 (s_get k0 (s_get (ks (ks k0)) (s_get (ks (ks k0)) (s_get (ks (ks k0)) (s_get k0 (s_get (ks k0) (s_get (ks k0) (s_get (ks k0) (s_get (ks k0) s_nil)))))))))) ?_
                            refine ⟨congrArg Value.bool ?_, rfl⟩
                            unfold foulB
                            first
                              | (exfalso; omega)
                              | (rw [if_pos (by omega)]; done)
                              | (rw [if_neg (by omega), if_pos (by omega)]; done)
                              | (rw [if_neg (by omega), if_neg (by omega), if_pos (by omega)]; done)
                              | (rw [if_neg (by omega), if_neg (by omega), if_neg (by omega), if_pos (by omega)]; unfold foulE; rw [Int.toNat_natCast, ho]; first | rfl | simp)
                              | (rw [if_neg (by omega), if_neg (by omega), if_neg (by omega), if_neg (by omega), if_pos (by omega)]; unfold foulC; first | (rw [if_pos (by omega)]; done) | (have eT := hT3 (by omega) (by omega); rw [if_neg (by omega), ← eT]; first | (rw [if_pos (by assumption)]; done) | (rw [if_pos (by simpa using ‹x.listensB oT.toNat ob = true›)]) | (rw [if_neg (by simp_all)]; done)))
                              | (rw [if_neg (by omega), if_neg (by omega), if_neg (by omega), if_neg (by omega), if_neg (by omega)]; done)
                          · try simp only [decide_eq_true_eq, decide_eq_false_iff_not, Bool.not_eq_true', Bool.not_eq_false', Int.not_lt, Int.not_le, Decidable.not_not, beq_iff_eq, bne_iff_ne, ne_eq, beq_eq_false_iff_ne, WA.wd] at h919
                            refine c_skip ?_
                            refine c_seq ?_
                            refine c_region ?_
                            refine o_T (y_move rfl) rfl ?_
                            refine o_T (y_nilck rfl) rfl ?_
                            refine o_T (y_fa fl_53_6 rfl) rfl ?_
                            refine o_ld one_44 rfl m0 Wd.g30 rfl ?_
                            refine o_callrv en_57 rfl (i57 W.n) (s_skip (s_skip (s_skip (s_skip (s_skip (s_skip (s_take s_nil))))))) rfl ?_
                            refine o_T (y_not rfl) rfl ?_
                            refine o_L (y_assign rfl) rfl rfl ?_
                            refine o_nil0 rfl ?_
                            refine c_ret ?_
                            refine fun aX wX heX hsX => ret1 Tryz.results18 heX rfl (s_get k0 (s_get k0 (s_get (ks (ks k0)) (s_get (ks (ks k0)) (s_get (ks (ks k0)) (s_get k0 (s_get (ks k0) (s_get (ks k0) (s_get (ks k0) (s_get (ks k0) s_nil)))))))))) ?_
                            refine ⟨congrArg Value.bool ?_, rfl⟩
                            unfold foulB
                            first
                              | (exfalso; omega)
                              | (rw [if_pos (by omega)]; done)
                              | (rw [if_neg (by omega), if_pos (by omega)]; done)
                              | (rw [if_neg (by omega), if_neg (by omega), if_pos (by omega)]; done)
                              | (rw [if_neg (by omega), if_neg (by omega), if_neg (by omega), if_pos (by omega)]; unfold foulE; rw [Int.toNat_natCast, ho]; first | rfl | simp)
                              | (rw [if_neg (by omega), if_neg (by omega), if_neg (by omega), if_neg (by omega), if_pos (by omega)]; unfold foulC; first | (rw [if_pos (by omega)]; done) | (have eT := hT3 (by omega) (by omega); rw [if_neg (by omega), ← eT]; first | (rw [if_pos (by assumption)]; done) | (rw [if_pos (by simpa using ‹x.listensB oT.toNat ob = true›)]) | (rw [if_neg (by simp_all)]; done)))
                              | (rw [if_neg (by omega), if_neg (by omega), if_neg (by omega), if_neg (by omega), if_neg (by omega)]; done)
                  · try simp only [decide_eq_true_eq, decide_eq_false_iff_not, Bool.not_eq_true', Bool.not_eq_false', Int.not_lt, Int.not_le, Decidable.not_not, beq_iff_eq, bne_iff_ne, ne_eq, beq_eq_false_iff_ne, WA.wd] at h914
                    refine c_skip ?_
                    refine c_seq ?_
                    refine c_region ?_
                    refine o_L (y_assign rfl) rfl rfl ?_
                    refine o_nil0 rfl ?_
                    refine c_ret ?_
                    refine fun aX wX heX hsX => ret1 Tryz.results18 heX rfl (s_skip (s_take (s_take (s_take (s_take (s_take (s_take (s_take (s_take (s_take (s_take s_nil))))))))))) ?_
                    refine ⟨congrArg Value.bool ?_, rfl⟩
                    unfold foulB
                    first
                      | (exfalso; omega)
                      | (rw [if_pos (by omega)]; done)
                      | (rw [if_neg (by omega), if_pos (by omega)]; done)
                      | (rw [if_neg (by omega), if_neg (by omega), if_pos (by omega)]; done)
                      | (rw [if_neg (by omega), if_neg (by omega), if_neg (by omega), if_pos (by omega)]; unfold foulE; rw [Int.toNat_natCast, ho]; first | rfl | simp)
                      | (rw [if_neg (by omega), if_neg (by omega), if_neg (by omega), if_neg (by omega), if_pos (by omega)]; unfold foulC; first | (rw [if_pos (by omega)]; done) | (have eT := hT3 (by omega) (by omega); rw [if_neg (by omega), ← eT]; first | (rw [if_pos (by assumption)]; done) | (rw [if_pos (by simpa using ‹x.listensB oT.toNat ob = true›)]) | (rw [if_neg (by simp_all)]; done)))
                      | (rw [if_neg (by omega), if_neg (by omega), if_neg (by omega), if_neg (by omega), if_neg (by omega)]; done)
      · try simp only [decide_eq_true_eq, decide_eq_false_iff_not, Bool.not_eq_true', Bool.not_eq_false', Int.not_lt, Int.not_le, Decidable.not_not, beq_iff_eq, bne_iff_ne, ne_eq, beq_eq_false_iff_ne, WA.wd] at h902_2
        refine c_region ?_
        refine o_T (y_eql rfl rfl) rfl ?_
        refine o_L (y_assign rfl) rfl rfl ?_
        refine o_nil0 rfl ?_
        refine c_cond rfl (fun h902_3 => ?_) (fun h902_3 => ?_)
        · try simp only [decide_eq_true_eq, decide_eq_false_iff_not, Bool.not_eq_true', Bool.not_eq_false', Int.not_lt, Int.not_le, Decidable.not_not, beq_iff_eq, bne_iff_ne, ne_eq, beq_eq_false_iff_ne, WA.wd] at h902_3
          refine c_seq ?_
          refine c_region ?_
          refine o_L (y_assign rfl) rfl rfl ?_
          refine o_nil0 rfl ?_
          refine c_ret ?_
          refine fun aX wX heX hsX => ret1 Tryz.results18 heX rfl (s_skip (s_take (s_take (s_take (s_take (s_take (s_take (s_take (s_take (s_take (s_take s_nil))))))))))) ?_
          refine ⟨congrArg Value.bool ?_, rfl⟩
          unfold foulB
          first
            | (exfalso; omega)
            | (rw [if_pos (by omega)]; done)
            | (rw [if_neg (by omega), if_pos (by omega)]; done)
            | (rw [if_neg (by omega), if_neg (by omega), if_pos (by omega)]; done)
            | (rw [if_neg (by omega), if_neg (by omega), if_neg (by omega), if_pos (by omega)]; unfold foulE; rw [Int.toNat_natCast, ho]; first | rfl | simp)
            | (rw [if_neg (by omega), if_neg (by omega), if_neg (by omega), if_neg (by omega), if_pos (by omega)]; unfold foulC; first | (rw [if_pos (by omega)]; done) | (have eT := hT3 (by omega) (by omega); rw [if_neg (by omega), ← eT]; first | (rw [if_pos (by assumption)]; done) | (rw [if_pos (by simpa using ‹x.listensB oT.toNat ob = true›)]) | (rw [if_neg (by simp_all)]; done)))
            | (rw [if_neg (by omega), if_neg (by omega), if_neg (by omega), if_neg (by omega), if_neg (by omega)]; done)
        · try simp only [decide_eq_true_eq, decide_eq_false_iff_not, Bool.not_eq_true', Bool.not_eq_false', Int.not_lt, Int.not_le, Decidable.not_not, beq_iff_eq, bne_iff_ne, ne_eq, beq_eq_false_iff_ne, WA.wd] at h902_3
          refine c_skip ?_
          refine c_seq ?_
          refine c_seq ?_
          refine c_region ?_
          refine o_T (y_fa fl_32_3 rfl) rfl ?_
          refine o_ld one_3 rfl m0 Opn.g3 rfl ?_
          refine o_T (y_lss rfl rfl) rfl ?_
          refine o_T (y_move rfl) rfl ?_
          refine o_split 18 rfl (fun h905 => ?_) (fun h905 => ?_)
          · try simp only [decide_eq_true_eq, decide_eq_false_iff_not, Bool.not_eq_true', Bool.not_eq_false', Int.not_lt, Int.not_le, Decidable.not_not, beq_iff_eq, bne_iff_ne, ne_eq, beq_eq_false_iff_ne, WA.wd] at h905
            refine o_pass rfl rfl rfl rfl rfl ?_
            refine o_pass rfl rfl rfl rfl rfl ?_
            refine o_pass rfl rfl rfl rfl rfl ?_
            refine o_T (y_pickT rfl rfl) rfl ?_
            refine o_nil1 22 rfl rfl ?_
            refine c_condT rfl ?_
            refine c_seq ?_
            refine c_region ?_
            refine o_L (y_assign rfl) rfl rfl ?_
            refine o_nil0 rfl ?_
            refine c_ret ?_
            refine fun aX wX heX hsX => ret1 Tryz.results18 heX rfl (s_skip (s_take (s_take (s_take (s_take (s_take (s_take (s_take (s_take (s_take (s_take s_nil))))))))))) ?_
            refine ⟨congrArg Value.bool ?_, rfl⟩
            unfold foulB
            first
              | (exfalso; omega)
              | (rw [if_pos (by omega)]; done)
              | (rw [if_neg (by omega), if_pos (by omega)]; done)
              | (rw [if_neg (by omega), if_neg (by omega), if_pos (by omega)]; done)
              | (rw [if_neg (by omega), if_neg (by omega), if_neg (by omega), if_pos (by omega)]; unfold foulE; rw [Int.toNat_natCast, ho]; first | rfl | simp)
              | (rw [if_neg (by omega), if_neg (by omega), if_neg (by omega), if_neg (by omega), if_pos (by omega)]; unfold foulC; first | (rw [if_pos (by omega)]; done) | (have eT := hT3 (by omega) (by omega); rw [if_neg (by omega), ← eT]; first | (rw [if_pos (by assumption)]; done) | (rw [if_pos (by simpa using ‹x.listensB oT.toNat ob = true›)]) | (rw [if_neg (by simp_all)]; done)))
              | (rw [if_neg (by omega), if_neg (by omega), if_neg (by omega), if_neg (by omega), if_neg (by omega)]; done)
          · try simp only [decide_eq_true_eq, decide_eq_false_iff_not, Bool.not_eq_true', Bool.not_eq_false', Int.not_lt, Int.not_le, Decidable.not_not, beq_iff_eq, bne_iff_ne, ne_eq, beq_eq_false_iff_ne, WA.wd] at h905
            refine o_take rfl rfl rfl ?_
            refine o_T (y_fa fl_32_3 rfl) rfl ?_
            refine o_take rfl rfl rfl ?_
            refine o_ld one_3 rfl m0 Opn.g3 rfl ?_
            refine o_take rfl rfl rfl ?_
            refine o_T (y_geq rfl rfl) rfl ?_
            refine o_T (y_pickF rfl rfl) rfl ?_
            refine o_nil1 22 rfl rfl ?_
            refine c_cond rfl (fun h905_1 => ?_) (fun h905_1 => ?_)
            · try simp only [decide_eq_true_eq, decide_eq_false_iff_not, Bool.not_eq_true', Bool.not_eq_false', Int.not_lt, Int.not_le, Decidable.not_not, beq_iff_eq, bne_iff_ne, ne_eq, beq_eq_false_iff_ne, WA.wd] at h905_1
              refine c_seq ?_
              refine c_region ?_
              refine o_L (y_assign rfl) rfl rfl ?_
              refine o_nil0 rfl ?_
              refine c_ret ?_
              refine fun aX wX heX hsX => ret1 Tryz.results18 heX rfl (s_skip (s_take (s_take (s_take (s_take (s_take (s_take (s_take (s_take (s_take (s_take s_nil))))))))))) ?_
              refine ⟨congrArg Value.bool ?_, rfl⟩
              unfold foulB
              first
                | (exfalso; omega)
                | (rw [if_pos (by omega)]; done)
                | (rw [if_neg (by omega), if_pos (by omega)]; done)
                | (rw [if_neg (by omega), if_neg (by omega), if_pos (by omega)]; done)
                | (rw [if_neg (by omega), if_neg (by omega), if_neg (by omega), if_pos (by omega)]; unfold foulE; rw [Int.toNat_natCast, ho]; first | rfl | simp)
                | (rw [if_neg (by omega), if_neg (by omega), if_neg (by omega), if_neg (by omega), if_pos (by omega)]; unfold foulC; first | (rw [if_pos (by omega)]; done) | (have eT := hT3 (by omega) (by omega); rw [if_neg (by omega), ← eT]; first | (rw [if_pos (by assumption)]; done) | (rw [if_pos (by simpa using ‹x.listensB oT.toNat ob = true›)]) | (rw [if_neg (by simp_all)]; done)))
                | (rw [if_neg (by omega), if_neg (by omega), if_neg (by omega), if_neg (by omega), if_neg (by omega)]; done)
            · try simp only [decide_eq_true_eq, decide_eq_false_iff_not, Bool.not_eq_true', Bool.not_eq_false', Int.not_lt, Int.not_le, Decidable.not_not, beq_iff_eq, bne_iff_ne, ne_eq, beq_eq_false_iff_ne, WA.wd] at h905_1
              refine c_skip ?_
              refine c_seq ?_
              refine c_seq ?_
              obtain ⟨c, rfl⟩ : ∃ c : Nat, oc = (c : Int) := ⟨oc.toNat, by omega⟩
              have c3 : c < 3 := by omega
              have ho := ho
              rw [Int.toNat_natCast] at ho
              refine c_region ?_
              refine o_T (y_fa fl_32_0 rfl) rfl ?_
              refine o_ld one_3 rfl m0 Opn.g0 rfl ?_
              refine o_nil1 24 rfl rfl ?_
              refine c_block ?_
              refine c_seq ?_
              refine c_region ?_
              refine o_T (y_eql rfl rfl) rfl ?_
              refine o_L (y_assign rfl) rfl rfl ?_
              refine o_nil0 rfl ?_
              refine c_cond rfl (fun h909 => ?_) (fun h909 => ?_)
              · try simp only [decide_eq_true_eq, decide_eq_false_iff_not, Bool.not_eq_true', Bool.not_eq_false', Int.not_lt, Int.not_le, Decidable.not_not, beq_iff_eq, bne_iff_ne, ne_eq, beq_eq_false_iff_ne, WA.wd] at h909
                refine c_seq ?_
                refine c_region ?_
                refine o_L (y_assign rfl) rfl rfl ?_
                refine o_nil0 rfl ?_
                refine c_ret ?_
                refine fun aX wX heX hsX => ret1 Tryz.results18 heX rfl (s_skip (s_take (s_take (s_take (s_take (s_take (s_take (s_take (s_take (s_take (s_take s_nil))))))))))) ?_
                refine ⟨congrArg Value.bool ?_, rfl⟩
                unfold foulB
                first
                  | (exfalso; omega)
                  | (rw [if_pos (by omega)]; done)
                  | (rw [if_neg (by omega), if_pos (by omega)]; done)
                  | (rw [if_neg (by omega), if_neg (by omega), if_pos (by omega)]; done)
                  | (rw [if_neg (by omega), if_neg (by omega), if_neg (by omega), if_pos (by omega)]; unfold foulE; rw [Int.toNat_natCast, ho]; first | rfl | simp)
                  | (rw [if_neg (by omega), if_neg (by omega), if_neg (by omega), if_neg (by omega), if_pos (by omega)]; unfold foulC; first | (rw [if_pos (by omega)]; done) | (have eT := hT3 (by omega) (by omega); rw [if_neg (by omega), ← eT]; first | (rw [if_pos (by assumption)]; done) | (rw [if_pos (by simpa using ‹x.listensB oT.toNat ob = true›)]) | (rw [if_neg (by simp_all)]; done)))
                  | (rw [if_neg (by omega), if_neg (by omega), if_neg (by omega), if_neg (by omega), if_neg (by omega)]; done)
              · try simp only [decide_eq_true_eq, decide_eq_false_iff_not, Bool.not_eq_true', Bool.not_eq_false', Int.not_lt, Int.not_le, Decidable.not_not, beq_iff_eq, bne_iff_ne, ne_eq, beq_eq_false_iff_ne, WA.wd] at h909
                refine c_seq ?_
                refine c_region ?_
                refine o_T (y_eql rfl rfl) rfl ?_
                refine o_L (y_assign rfl) rfl rfl ?_
                refine o_nil0 rfl ?_
                refine c_cond rfl (fun h911 => ?_) (fun h911 => ?_)
                · try simp only [decide_eq_true_eq, decide_eq_false_iff_not, Bool.not_eq_true', Bool.not_eq_false', Int.not_lt, Int.not_le, Decidable.not_not, beq_iff_eq, bne_iff_ne, ne_eq, beq_eq_false_iff_ne, WA.wd] at h911
                  refine c_seq ?_
                  refine c_region ?_
                  refine o_T (y_move rfl) rfl ?_
                  refine o_T (y_fa fl_32_3 rfl) rfl ?_
                  refine o_ld one_3 rfl m0 Opn.g3 rfl ?_
                  refine o_T (y_fa fl_32_1 rfl) rfl ?_
                  refine o_ld one_3 rfl m0 Opn.g1 rfl ?_
                  refine o_call en_55 rfl (t55b _ _ _ _ _ _ c3 _ W.h hb.ok false ho) (s_skip (s_take (s_take s_nil))) rfl ?_
                  rintro v S' ⟨pc_4, gc_4, rfl, hi_4, rfl⟩
                  refine o_T (y_move rfl) rfl ?_
                  refine o_T (y_extract rfl rfl) rfl ?_
                  refine o_T (y_extract rfl rfl) rfl ?_
                  refine o_alloc ze_69 rfl rfl (fun b_5 => ?_)
                  refine o_sta ag_69 rfl rfl (si_plain hi_4) rfl r0 (setAll_full _ _ rfl) (of_ble rfl) ?_
                  refine o_L (y_assign rfl) rfl rfl ?_
                  refine o_nil0 rfl ?_
                  refine c_seq ?_
                  refine c_region ?_
                  refine o_T (y_move rfl) rfl ?_
                  refine o_T (y_not rfl) rfl ?_
                  refine o_T (y_move rfl) rfl ?_
                  refine o_pass rfl rfl rfl rfl rfl ?_
                  refine o_pass rfl rfl rfl rfl rfl ?_
                  refine o_pass rfl rfl rfl rfl rfl ?_
                  refine o_pass rfl rfl rfl rfl rfl ?_
                  refine o_pass rfl rfl rfl rfl rfl ?_
                  refine o_pass rfl rfl rfl rfl rfl ?_
                  refine o_T (y_pickT rfl rfl) rfl ?_
                  refine o_L (y_assign rfl) rfl rfl ?_
                  refine o_nil0 rfl ?_
                  refine c_ret ?_
                  refine fun aX wX heX hsX => ret1 Tryz.results18 heX rfl (s_skip (s_skip (s_take (s_take (s_skip (s_take (s_take (s_take (s_take (s_take (s_take (s_take (s_take s_nil))))))))))))) ?_
                  refine ⟨congrArg Value.bool ?_, rfl⟩
                  unfold foulB
                  first
                    | (exfalso; omega)
                    | (rw [if_pos (by omega)]; done)
                    | (rw [if_neg (by omega), if_pos (by omega)]; done)
                    | (rw [if_neg (by omega), if_neg (by omega), if_pos (by omega)]; done)
                    | (rw [if_neg (by omega), if_neg (by omega), if_neg (by omega), if_pos (by omega)]; unfold foulE; rw [Int.toNat_natCast, ho]; first | rfl | simp)
                    | (rw [if_neg (by omega), if_neg (by omega), if_neg (by omega), if_neg (by omega), if_pos (by omega)]; unfold foulC; first | (rw [if_pos (by omega)]; done) | (have eT := hT3 (by omega) (by omega); rw [if_neg (by omega), ← eT]; first | (rw [if_pos (by assumption)]; done) | (rw [if_pos (by simpa using ‹x.listensB oT.toNat ob = true›)]) | (rw [if_neg (by simp_all)]; done)))
                    | (rw [if_neg (by omega), if_neg (by omega), if_neg (by omega), if_neg (by omega), if_neg (by omega)]; done)
                · try simp only [decide_eq_true_eq, decide_eq_false_iff_not, Bool.not_eq_true', Bool.not_eq_false', Int.not_lt, Int.not_le, Decidable.not_not, beq_iff_eq, bne_iff_ne, ne_eq, beq_eq_false_iff_ne, WA.wd] at h911
                  refine c_seq ?_
                  refine c_region ?_
                  refine o_T (y_eql rfl rfl) rfl ?_
                  refine o_L (y_assign rfl) rfl rfl ?_
                  refine o_nil0 rfl ?_
                  refine c_cond rfl (fun h914 => ?_) (fun h914 => ?_)
                  · try simp only [decide_eq_true_eq, decide_eq_false_iff_not, Bool.not_eq_true', Bool.not_eq_false', Int.not_lt, Int.not_le, Decidable.not_not, beq_iff_eq, bne_iff_ne, ne_eq, beq_eq_false_iff_ne, WA.wd] at h914
                    refine c_seq ?_
                    refine c_region ?_
                    refine o_T (y_fa fl_32_1 rfl) rfl ?_
                    refine o_ld one_3 rfl m0 Opn.g1 rfl ?_
                    refine o_T (y_sub rfl rfl hT) rfl ?_
                    refine o_L (y_assign rfl) rfl rfl ?_
                    refine o_nil0 rfl ?_
                    refine c_seq ?_
                    refine c_seq ?_
                    refine c_region ?_
                    refine o_T (y_move rfl) rfl ?_
                    refine o_T (y_lss rfl rfl) rfl ?_
                    refine o_T (y_move rfl) rfl ?_
                    refine o_split 55 rfl (fun h916 => ?_) (fun h916 => ?_)
                    · try simp only [decide_eq_true_eq, decide_eq_false_iff_not, Bool.not_eq_true', Bool.not_eq_false', Int.not_lt, Int.not_le, Decidable.not_not, beq_iff_eq, bne_iff_ne, ne_eq, beq_eq_false_iff_ne, WA.wd] at h916
                      refine o_pass rfl rfl rfl rfl rfl ?_
                      refine o_pass rfl rfl rfl rfl rfl ?_
                      refine o_T (y_pickT rfl rfl) rfl ?_
                      refine o_T (y_move rfl) rfl ?_
                      refine o_pass rfl rfl rfl rfl rfl ?_
                      refine o_pass rfl rfl rfl rfl rfl ?_
                      refine o_pass rfl rfl rfl rfl rfl ?_
                      refine o_pass rfl rfl rfl rfl rfl ?_
                      refine o_T (y_pickT rfl rfl) rfl ?_
                      refine o_nil1 64 rfl rfl ?_
                      refine c_condT rfl ?_
                      refine c_seq ?_
                      refine c_region ?_
                      refine o_L (y_assign rfl) rfl rfl ?_
                      refine o_nil0 rfl ?_
                      refine c_ret ?_
                      refine fun aX wX heX hsX => ret1 Tryz.results18 heX rfl (s_skip (s_take (s_take (s_take (s_take (s_take (s_take (s_take (s_take (s_take (s_take s_nil))))))))))) ?_
                      refine ⟨congrArg Value.bool ?_, rfl⟩
                      unfold foulB
                      first
                        | (exfalso; omega)
                        | (rw [if_pos (by omega)]; done)
                        | (rw [if_neg (by omega), if_pos (by omega)]; done)
                        | (rw [if_neg (by omega), if_neg (by omega), if_pos (by omega)]; done)
                        | (rw [if_neg (by omega), if_neg (by omega), if_neg (by omega), if_pos (by omega)]; unfold foulE; rw [Int.toNat_natCast, ho]; first | rfl | simp)
                        | (rw [if_neg (by omega), if_neg (by omega), if_neg (by omega), if_neg (by omega), if_pos (by omega)]; unfold foulC; first | (rw [if_pos (by omega)]; done) | (have eT := hT3 (by omega) (by omega); rw [if_neg (by omega), ← eT]; first | (rw [if_pos (by assumption)]; done) | (rw [if_pos (by simpa using ‹x.listensB oT.toNat ob = true›)]) | (rw [if_neg (by simp_all)]; done)))
                        | (rw [if_neg (by omega), if_neg (by omega), if_neg (by omega), if_neg (by omega), if_neg (by omega)]; done)
                    · try simp only [decide_eq_true_eq, decide_eq_false_iff_not, Bool.not_eq_true', Bool.not_eq_false', Int.not_lt, Int.not_le, Decidable.not_not, beq_iff_eq, bne_iff_ne, ne_eq, beq_eq_false_iff_ne, WA.wd] at h916
                      refine o_take rfl rfl rfl ?_
                      refine o_T (y_move rfl) rfl ?_
                      refine o_take rfl rfl rfl ?_
                      refine o_T (y_geq rfl rfl) rfl ?_
                      refine o_T (y_pickF rfl rfl) rfl ?_
                      refine o_T (y_move rfl) rfl ?_
                      refine o_split 59 rfl (fun h916_1 => ?_) (fun h916_1 => ?_)
                      · try simp only [decide_eq_true_eq, decide_eq_false_iff_not, Bool.not_eq_true', Bool.not_eq_false', Int.not_lt, Int.not_le, Decidable.not_not, beq_iff_eq, bne_iff_ne, ne_eq, beq_eq_false_iff_ne, WA.wd] at h916_1
                        refine o_pass rfl rfl rfl rfl rfl ?_
                        refine o_pass rfl rfl rfl rfl rfl ?_
                        refine o_pass rfl rfl rfl rfl rfl ?_
                        refine o_pass rfl rfl rfl rfl rfl ?_
                        refine o_T (y_pickT rfl rfl) rfl ?_
                        refine o_nil1 64 rfl rfl ?_
                        refine c_condT rfl ?_
                        refine c_seq ?_
                        refine c_region ?_
                        refine o_L (y_assign rfl) rfl rfl ?_
                        refine o_nil0 rfl ?_
                        refine c_ret ?_
                        refine fun aX wX heX hsX => ret1 Tryz.results18 heX rfl (s_skip (s_take (s_take (s_take (s_take (s_take (s_take (s_take (s_take (s_take (s_take s_nil))))))))))) ?_
                        refine ⟨congrArg Value.bool ?_, rfl⟩
                        unfold foulB
                        first
                          | (exfalso; omega)
                          | (rw [if_pos (by omega)]; done)
                          | (rw [if_neg (by omega), if_pos (by omega)]; done)
                          | (rw [if_neg (by omega), if_neg (by omega), if_pos (by omega)]; done)
                          | (rw [if_neg (by omega), if_neg (by omega), if_neg (by omega), if_pos (by omega)]; unfold foulE; rw [Int.toNat_natCast, ho]; first | rfl | simp)
                          | (rw [if_neg (by omega), if_neg (by omega), if_neg (by omega), if_neg (by omega), if_pos (by omega)]; unfold foulC; first | (rw [if_pos (by omega)]; done) | (have eT := hT3 (by omega) (by omega); rw [if_neg (by omega), ← eT]; first | (rw [if_pos (by assumption)]; done) | (rw [if_pos (by simpa using ‹x.listensB oT.toNat ob = true›)]) | (rw [if_neg (by simp_all)]; done)))
                          | (rw [if_neg (by omega), if_neg (by omega), if_neg (by omega), if_neg (by omega), if_neg (by omega)]; done)
                      · try simp only [decide_eq_true_eq, decide_eq_false_iff_not, Bool.not_eq_true', Bool.not_eq_false', Int.not_lt, Int.not_le, Decidable.not_not, beq_iff_eq, bne_iff_ne, ne_eq, beq_eq_false_iff_ne, WA.wd] at h916_1
                        refine o_take rfl rfl rfl ?_
                        refine o_T (y_move rfl) rfl ?_
                        refine o_take rfl rfl rfl ?_
                        refine o_T (y_fa fl_32_3 rfl) rfl ?_
                        refine o_take rfl rfl rfl ?_
                        refine o_ld one_3 rfl m0 Opn.g3 rfl ?_
                        refine o_take rfl rfl rfl ?_
                        refine o_T (y_eql rfl rfl) rfl ?_
                        refine o_T (y_pickF rfl rfl) rfl ?_
                        refine o_nil1 64 rfl rfl ?_
                        refine c_cond rfl (fun h916_2 => ?_) (fun h916_2 => ?_)
                        · try simp only [decide_eq_true_eq, decide_eq_false_iff_not, Bool.not_eq_true', Bool.not_eq_false', Int.not_lt, Int.not_le, Decidable.not_not, beq_iff_eq, bne_iff_ne, ne_eq, beq_eq_false_iff_ne, WA.wd] at h916_2
                          refine c_seq ?_
                          refine c_region ?_
                          refine o_L (y_assign rfl) rfl rfl ?_
                          refine o_nil0 rfl ?_
                          refine c_ret ?_
                          refine fun aX wX heX hsX => ret1 Tryz.results18 heX rfl (s_skip (s_take (s_take (s_take (s_take (s_take (s_take (s_take (s_take (s_take (s_take s_nil))))))))))) ?_
                          refine ⟨congrArg Value.bool ?_, rfl⟩
                          unfold foulB
                          first
                            | (exfalso; omega)
                            | (rw [if_pos (by omega)]; done)
                            | (rw [if_neg (by omega), if_pos (by omega)]; done)
                            | (rw [if_neg (by omega), if_neg (by omega), if_pos (by omega)]; done)
                            | (rw [if_neg (by omega), if_neg (by omega), if_neg (by omega), if_pos (by omega)]; unfold foulE; rw [Int.toNat_natCast, ho]; first | rfl | simp)
                            | (rw [if_neg (by omega), if_neg (by omega), if_neg (by omega), if_neg (by omega), if_pos (by omega)]; unfold foulC; first | (rw [if_pos (by omega)]; done) | (have eT := hT3 (by omega) (by omega); rw [if_neg (by omega), ← eT]; first | (rw [if_pos (by assumption)]; done) | (rw [if_pos (by simpa using ‹x.listensB oT.toNat ob = true›)]) | (rw [if_neg (by simp_all)]; done)))
                            | (rw [if_neg (by omega), if_neg (by omega), if_neg (by omega), if_neg (by omega), if_neg (by omega)]; done)
                        · try simp only [decide_eq_true_eq, decide_eq_false_iff_not, Bool.not_eq_true', Bool.not_eq_false', Int.not_lt, Int.not_le, Decidable.not_not, beq_iff_eq, bne_iff_ne, ne_eq, beq_eq_false_iff_ne, WA.wd] at h916_2
                          refine c_skip ?_
                          refine c_seq ?_
                          refine c_seq ?_
                          refine c_region ?_
                          refine o_T (y_move rfl) rfl ?_
                          refine o_T (y_move rfl) rfl ?_
                          refine o_T (y_fa fl_32_2 rfl) rfl ?_
                          refine o_ld one_3 rfl m0 Opn.g2 rfl ?_
                          refine o_call en_56 rfl (i56v A q x V _ _ oT (by omega) (by omega) ob W.h hb.ok W.s) (s_skip (s_take (s_take (s_skip (s_skip (s_skip (s_take s_nil))))))) rfl ?_
                          rintro v S' ⟨rfl, rfl⟩
                          refine o_T (y_not rfl) rfl ?_
                          refine o_nil1 70 rfl rfl ?_
                          refine c_cond rfl (fun h919 => ?_) (fun h919 => ?_)
                          · try simp only [decide_eq_true_eq, decide_eq_false_iff_not, Bool.not_eq_true', Bool.not_eq_false', Int.not_lt, Int.not_le, Decidable.not_not, beq_iff_eq, bne_iff_ne, ne_eq, beq_eq_false_iff_ne, WA.wd] at h919
                            refine c_seq ?_
                            refine c_region ?_
                            refine o_L (y_assign rfl) rfl rfl ?_
                            refine o_nil0 rfl ?_
                            refine c_ret ?_
                            refine fun aX wX heX hsX => ret1 Tryz.results18 heX rfl (s_get k0 (s_get k0 (s_get (ks (ks k0)) (s_get (ks (ks k0)) (s_get (ks (ks k0)) (s_get k0 (s_get (ks k0) (s_get (ks k0) (s_get (ks k0) (s_get (ks k0) s_nil)))))))))) ?_
                            refine ⟨congrArg Value.bool ?_, rfl⟩
                            unfold foulB
                            first
                              | (exfalso; omega)
                              | (rw [if_pos (by omega)]; done)
                              | (rw [if_neg (by omega), if_pos (by omega)]; done)
                              | (rw [if_neg (by omega), if_neg (by omega), if_pos (by omega)]; done)
                              | (rw [if_neg (by omega), if_neg (by omega), if_neg (by omega), if_pos (by omega)]; unfold foulE; rw [Int.toNat_natCast, ho]; first | rfl | simp)
                              | (rw [if_neg (by omega), if_neg (by omega), if_neg (by omega), if_neg (by omega), if_pos (by omega)]; unfold foulC; first | (rw [if_pos (by omega)]; done) | (have eT := hT3 (by omega) (by omega); rw [if_neg (by omega), ← eT]; first | (rw [if_pos (by assumption)]; done) | (rw [if_pos (by simpa using ‹x.listensB oT.toNat ob = true›)]) | (rw [if_neg (by simp_all)]; done)))
                              | (rw [if_neg (by omega), if_neg (by omega), if_neg (by omega), if_neg (by omega), if_neg (by omega)]; done)
                          · try simp only [decide_eq_true_eq, decide_eq_false_iff_not, Bool.not_eq_true', Bool.not_eq_false', Int.not_lt, Int.not_le, Decidable.not_not, beq_iff_eq, bne_iff_ne, ne_eq, beq_eq_false_iff_ne, WA.wd] at h919
                            refine c_skip ?_
                            refine c_seq ?_
                            refine c_region ?_
                            refine o_T (y_move rfl) rfl ?_
                            refine o_T (y_nilck rfl) rfl ?_
                            refine o_T (y_fa fl_53_6 rfl) rfl ?_
                            refine o_ld one_44 rfl m0 Wd.g30 rfl ?_
                            refine o_callrv en_57 rfl (i57 W.n) (s_skip (s_skip (s_skip (s_skip (s_skip (s_skip (s_take s_nil))))))) rfl ?_
                            refine o_T (y_not rfl) rfl ?_
                            refine o_L (y_assign rfl) rfl rfl ?_
                            refine o_nil0 rfl ?_
                            refine c_ret ?_
                            refine fun aX wX heX hsX => ret1 Tryz.results18 heX rfl (s_get k0 (s_get k0 (s_get (ks (ks k0)) (s_get (ks (ks k0)) (s_get (ks (ks k0)) (s_get k0 (s_get (ks k0) (s_get (ks k0) (s_get (ks k0) (s_get (ks k0) s_nil)))))))))) ?_
                            refine ⟨congrArg Value.bool ?_, rfl⟩
                            unfold foulB
                            first
                              | (exfalso; omega)
                              | (rw [if_pos (by omega)]; done)
                              | (rw [if_neg (by omega), if_pos (by omega)]; done)
                              | (rw [if_neg (by omega), if_neg (by omega), if_pos (by omega)]; done)
                              | (rw [if_neg (by omega), if_neg (by omega), if_neg (by omega), if_pos (by omega)]; unfold foulE; rw [Int.toNat_natCast, ho]; first | rfl | simp)
                              | (rw [if_neg (by omega), if_neg (by omega), if_neg (by omega), if_neg (by omega), if_pos (by omega)]; unfold foulC; first | (rw [if_pos (by omega)]; done) | (have eT := hT3 (by omega) (by omega); rw [if_neg (by omega), ← eT]; first | (rw [if_pos (by assumption)]; done) | (rw [if_pos (by simpa using ‹x.listensB oT.toNat ob = true›)]) | (rw [if_neg (by simp_all)]; done)))
                              | (rw [if_neg (by omega), if_neg (by omega), if_neg (by omega), if_neg (by omega), if_neg (by omega)]; done)
                  · try simp only [decide_eq_true_eq, decide_eq_false_iff_not, Bool.not_eq_true', Bool.not_eq_false', Int.not_lt, Int.not_le, Decidable.not_not, beq_iff_eq, bne_iff_ne, ne_eq, beq_eq_false_iff_ne, WA.wd] at h914
                    refine c_skip ?_
                    refine c_seq ?_
                    refine c_region ?_
                    refine o_L (y_assign rfl) rfl rfl ?_
                    refine o_nil0 rfl ?_
                    refine c_ret ?_
                    refine fun aX wX heX hsX => ret1 Tryz.results18 heX rfl (s_skip (s_take (s_take (s_take (s_take (s_take (s_take (s_take (s_take (s_take (s_take s_nil))))))))))) ?_
                    refine ⟨congrArg Value.bool ?_, rfl⟩
                    unfold foulB
                    first
                      | (exfalso; omega)
                      | (rw [if_pos (by omega)]; done)
                      | (rw [if_neg (by omega), if_pos (by omega)]; done)
                      | (rw [if_neg (by omega), if_neg (by omega), if_pos (by omega)]; done)
                      | (rw [if_neg (by omega), if_neg (by omega), if_neg (by omega), if_pos (by omega)]; unfold foulE; rw [Int.toNat_natCast, ho]; first | rfl | simp)
                      | (rw [if_neg (by omega), if_neg (by omega), if_neg (by omega), if_neg (by omega), if_pos (by omega)]; unfold foulC; first | (rw [if_pos (by omega)]; done) | (have eT := hT3 (by omega) (by omega); rw [if_neg (by omega), ← eT]; first | (rw [if_pos (by assumption)]; done) | (rw [if_pos (by simpa using ‹x.listensB oT.toNat ob = true›)]) | (rw [if_neg (by simp_all)]; done)))
                      | (rw [if_neg (by omega), if_neg (by omega), if_neg (by omega), if_neg (by omega), if_neg (by omega)]; done)

/-- (*e2e/towerlaw.World).Foul -/
theorem t18y (A : WA) (q : Bool) (x : Wrld) (V : WV) (m : Nat) (gh gq gw gn gs gr gi go gm : List Chunk) (W : WG A q x V m gh gq gw gn gs gr gi go gm) (hm : m ≤ 2700000000000) (hb : HBnd x) (kd oa ob oc : Int) (os ot : ByteArray) (oT : Int) (hT : IntKind.wrap .i64 (oa - 1) = oT) (hT2 : (oT < 0 ∨ 3 ≤ oT) ↔ (oa - 1 < 0 ∨ 3 ≤ oa - 1)) (hT3 : 0 ≤ oT → oT < 3 → oT = oa - 1) (ho : (x.H oc.toNat).oursB oa = true) : Trip Tryz.prog 18 #[.pointer (some ⟨A.b, 0, none⟩), .agg (Opn.mk kd oa ob oc os ot).enc] [[(A.b, .cells (A.wd q x V).enc 53 (0, 0))], gh, gq, gw, gn, gs, gr, gi, go, gm] (fun u S' => u = .bool (foulB x kd oa ob oc) ∧ S' = [[(A.b, .cells (A.wd q x V).enc 53 (0, 0))], gh, gq, gw, gn, gs, gr, gi, go, gm]) := by
  refine fn_entry (args := [.pointer (some ⟨A.b, 0, none⟩), .agg (Opn.mk kd oa ob oc os ot).enc]) Tryz.func18 rfl Tryz.ntmps18 rfl (fun w0 => ?_)
  refine c_seq ?_
  refine c_region ?_
  refine o_box rfl rfl rfl rfl (fun b_1 => ?_)
  refine o_L (y_assign rfl) rfl rfl ?_
  refine o_nil0 rfl ?_
  refine c_seq ?_
  refine c_seq ?_
  refine c_region ?_
  refine o_T (y_fa fl_32_0 rfl) rfl ?_
  refine o_ld one_3 rfl m0 Opn.g0 rfl ?_
  refine o_nil1 9 rfl rfl ?_
  refine c_block ?_
  refine c_seq ?_
  refine c_seq ?_
  refine c_region ?_
  refine o_T (y_eql rfl rfl) rfl ?_
  refine o_L (y_assign rfl) rfl rfl ?_
  refine o_nil0 rfl ?_
  refine c_cond rfl (fun h902 => ?_) (fun h902 => ?_)
  · try simp only [decide_eq_true_eq, decide_eq_false_iff_not, Bool.not_eq_true', Bool.not_eq_false', Int.not_lt, Int.not_le, Decidable.not_not, beq_iff_eq, bne_iff_ne, ne_eq, beq_eq_false_iff_ne, WA.wd] at h902
    refine c_skip ?_
    refine c_cond rfl (fun h902_1 => ?_) (fun h902_1 => ?_)
    · try simp only [decide_eq_true_eq, decide_eq_false_iff_not, Bool.not_eq_true', Bool.not_eq_false', Int.not_lt, Int.not_le, Decidable.not_not, beq_iff_eq, bne_iff_ne, ne_eq, beq_eq_false_iff_ne, WA.wd] at h902_1
      refine c_seq ?_
      refine c_region ?_
      refine o_L (y_assign rfl) rfl rfl ?_
      refine o_nil0 rfl ?_
      refine c_ret ?_
      refine fun aX wX heX hsX => ret1 Tryz.results18 heX rfl (s_skip (s_take (s_take (s_take (s_take (s_take (s_take (s_take (s_take (s_take (s_take s_nil))))))))))) ?_
      refine ⟨congrArg Value.bool ?_, rfl⟩
      unfold foulB
      first
        | (exfalso; omega)
        | (rw [if_pos (by omega)]; done)
        | (rw [if_neg (by omega), if_pos (by omega)]; done)
        | (rw [if_neg (by omega), if_neg (by omega), if_pos (by omega)]; done)
        | (rw [if_neg (by omega), if_neg (by omega), if_neg (by omega), if_pos (by omega)]; unfold foulE; rw [Int.toNat_natCast, ho]; first | rfl | simp)
        | (rw [if_neg (by omega), if_neg (by omega), if_neg (by omega), if_neg (by omega), if_pos (by omega)]; unfold foulC; first | (rw [if_pos (by omega)]; done) | (have eT := hT3 (by omega) (by omega); rw [if_neg (by omega), ← eT]; first | (rw [if_pos (by assumption)]; done) | (rw [if_pos (by simpa using ‹x.listensB oT.toNat ob = true›)]) | (rw [if_neg (by simp_all)]; done)))
        | (rw [if_neg (by omega), if_neg (by omega), if_neg (by omega), if_neg (by omega), if_neg (by omega)]; done)
    · try simp only [decide_eq_true_eq, decide_eq_false_iff_not, Bool.not_eq_true', Bool.not_eq_false', Int.not_lt, Int.not_le, Decidable.not_not, beq_iff_eq, bne_iff_ne, ne_eq, beq_eq_false_iff_ne, WA.wd] at h902_1
      refine c_skip ?_
      refine c_seq ?_
      refine c_seq ?_
      refine c_region ?_
      refine o_T (y_fa fl_32_3 rfl) rfl ?_
      refine o_ld one_3 rfl m0 Opn.g3 rfl ?_
      refine o_T (y_lss rfl rfl) rfl ?_
      refine o_T (y_move rfl) rfl ?_
      refine o_split 18 rfl (fun h905 => ?_) (fun h905 => ?_)
      · try simp only [decide_eq_true_eq, decide_eq_false_iff_not, Bool.not_eq_true', Bool.not_eq_false', Int.not_lt, Int.not_le, Decidable.not_not, beq_iff_eq, bne_iff_ne, ne_eq, beq_eq_false_iff_ne, WA.wd] at h905
        refine o_pass rfl rfl rfl rfl rfl ?_
        refine o_pass rfl rfl rfl rfl rfl ?_
        refine o_pass rfl rfl rfl rfl rfl ?_
        refine o_T (y_pickT rfl rfl) rfl ?_
        refine o_nil1 22 rfl rfl ?_
        refine c_condT rfl ?_
        refine c_seq ?_
        refine c_region ?_
        refine o_L (y_assign rfl) rfl rfl ?_
        refine o_nil0 rfl ?_
        refine c_ret ?_
        refine fun aX wX heX hsX => ret1 Tryz.results18 heX rfl (s_skip (s_take (s_take (s_take (s_take (s_take (s_take (s_take (s_take (s_take (s_take s_nil))))))))))) ?_
        refine ⟨congrArg Value.bool ?_, rfl⟩
        unfold foulB
        first
          | (exfalso; omega)
          | (rw [if_pos (by omega)]; done)
          | (rw [if_neg (by omega), if_pos (by omega)]; done)
          | (rw [if_neg (by omega), if_neg (by omega), if_pos (by omega)]; done)
          | (rw [if_neg (by omega), if_neg (by omega), if_neg (by omega), if_pos (by omega)]; unfold foulE; rw [Int.toNat_natCast, ho]; first | rfl | simp)
          | (rw [if_neg (by omega), if_neg (by omega), if_neg (by omega), if_neg (by omega), if_pos (by omega)]; unfold foulC; first | (rw [if_pos (by omega)]; done) | (have eT := hT3 (by omega) (by omega); rw [if_neg (by omega), ← eT]; first | (rw [if_pos (by assumption)]; done) | (rw [if_pos (by simpa using ‹x.listensB oT.toNat ob = true›)]) | (rw [if_neg (by simp_all)]; done)))
          | (rw [if_neg (by omega), if_neg (by omega), if_neg (by omega), if_neg (by omega), if_neg (by omega)]; done)
      · try simp only [decide_eq_true_eq, decide_eq_false_iff_not, Bool.not_eq_true', Bool.not_eq_false', Int.not_lt, Int.not_le, Decidable.not_not, beq_iff_eq, bne_iff_ne, ne_eq, beq_eq_false_iff_ne, WA.wd] at h905
        refine o_take rfl rfl rfl ?_
        refine o_T (y_fa fl_32_3 rfl) rfl ?_
        refine o_take rfl rfl rfl ?_
        refine o_ld one_3 rfl m0 Opn.g3 rfl ?_
        refine o_take rfl rfl rfl ?_
        refine o_T (y_geq rfl rfl) rfl ?_
        refine o_T (y_pickF rfl rfl) rfl ?_
        refine o_nil1 22 rfl rfl ?_
        refine c_cond rfl (fun h905_1 => ?_) (fun h905_1 => ?_)
        · try simp only [decide_eq_true_eq, decide_eq_false_iff_not, Bool.not_eq_true', Bool.not_eq_false', Int.not_lt, Int.not_le, Decidable.not_not, beq_iff_eq, bne_iff_ne, ne_eq, beq_eq_false_iff_ne, WA.wd] at h905_1
          refine c_seq ?_
          refine c_region ?_
          refine o_L (y_assign rfl) rfl rfl ?_
          refine o_nil0 rfl ?_
          refine c_ret ?_
          refine fun aX wX heX hsX => ret1 Tryz.results18 heX rfl (s_skip (s_take (s_take (s_take (s_take (s_take (s_take (s_take (s_take (s_take (s_take s_nil))))))))))) ?_
          refine ⟨congrArg Value.bool ?_, rfl⟩
          unfold foulB
          first
            | (exfalso; omega)
            | (rw [if_pos (by omega)]; done)
            | (rw [if_neg (by omega), if_pos (by omega)]; done)
            | (rw [if_neg (by omega), if_neg (by omega), if_pos (by omega)]; done)
            | (rw [if_neg (by omega), if_neg (by omega), if_neg (by omega), if_pos (by omega)]; unfold foulE; rw [Int.toNat_natCast, ho]; first | rfl | simp)
            | (rw [if_neg (by omega), if_neg (by omega), if_neg (by omega), if_neg (by omega), if_pos (by omega)]; unfold foulC; first | (rw [if_pos (by omega)]; done) | (have eT := hT3 (by omega) (by omega); rw [if_neg (by omega), ← eT]; first | (rw [if_pos (by assumption)]; done) | (rw [if_pos (by simpa using ‹x.listensB oT.toNat ob = true›)]) | (rw [if_neg (by simp_all)]; done)))
            | (rw [if_neg (by omega), if_neg (by omega), if_neg (by omega), if_neg (by omega), if_neg (by omega)]; done)
        · try simp only [decide_eq_true_eq, decide_eq_false_iff_not, Bool.not_eq_true', Bool.not_eq_false', Int.not_lt, Int.not_le, Decidable.not_not, beq_iff_eq, bne_iff_ne, ne_eq, beq_eq_false_iff_ne, WA.wd] at h905_1
          refine c_skip ?_
          refine c_seq ?_
          refine c_seq ?_
          obtain ⟨c, rfl⟩ : ∃ c : Nat, oc = (c : Int) := ⟨oc.toNat, by omega⟩
          have c3 : c < 3 := by omega
          have ho := ho
          rw [Int.toNat_natCast] at ho
          refine c_region ?_
          refine o_T (y_fa fl_32_0 rfl) rfl ?_
          refine o_ld one_3 rfl m0 Opn.g0 rfl ?_
          refine o_nil1 24 rfl rfl ?_
          refine c_block ?_
          refine c_seq ?_
          refine c_region ?_
          refine o_T (y_eql rfl rfl) rfl ?_
          refine o_L (y_assign rfl) rfl rfl ?_
          refine o_nil0 rfl ?_
          refine c_cond rfl (fun h909 => ?_) (fun h909 => ?_)
          · try simp only [decide_eq_true_eq, decide_eq_false_iff_not, Bool.not_eq_true', Bool.not_eq_false', Int.not_lt, Int.not_le, Decidable.not_not, beq_iff_eq, bne_iff_ne, ne_eq, beq_eq_false_iff_ne, WA.wd] at h909
            refine c_seq ?_
            refine c_region ?_
            refine o_L (y_assign rfl) rfl rfl ?_
            refine o_nil0 rfl ?_
            refine c_ret ?_
            refine fun aX wX heX hsX => ret1 Tryz.results18 heX rfl (s_skip (s_take (s_take (s_take (s_take (s_take (s_take (s_take (s_take (s_take (s_take s_nil))))))))))) ?_
            refine ⟨congrArg Value.bool ?_, rfl⟩
            unfold foulB
            first
              | (exfalso; omega)
              | (rw [if_pos (by omega)]; done)
              | (rw [if_neg (by omega), if_pos (by omega)]; done)
              | (rw [if_neg (by omega), if_neg (by omega), if_pos (by omega)]; done)
              | (rw [if_neg (by omega), if_neg (by omega), if_neg (by omega), if_pos (by omega)]; unfold foulE; rw [Int.toNat_natCast, ho]; first | rfl | simp)
              | (rw [if_neg (by omega), if_neg (by omega), if_neg (by omega), if_neg (by omega), if_pos (by omega)]; unfold foulC; first | (rw [if_pos (by omega)]; done) | (have eT := hT3 (by omega) (by omega); rw [if_neg (by omega), ← eT]; first | (rw [if_pos (by assumption)]; done) | (rw [if_pos (by simpa using ‹x.listensB oT.toNat ob = true›)]) | (rw [if_neg (by simp_all)]; done)))
              | (rw [if_neg (by omega), if_neg (by omega), if_neg (by omega), if_neg (by omega), if_neg (by omega)]; done)
          · try simp only [decide_eq_true_eq, decide_eq_false_iff_not, Bool.not_eq_true', Bool.not_eq_false', Int.not_lt, Int.not_le, Decidable.not_not, beq_iff_eq, bne_iff_ne, ne_eq, beq_eq_false_iff_ne, WA.wd] at h909
            refine c_seq ?_
            refine c_region ?_
            refine o_T (y_eql rfl rfl) rfl ?_
            refine o_L (y_assign rfl) rfl rfl ?_
            refine o_nil0 rfl ?_
            refine c_cond rfl (fun h911 => ?_) (fun h911 => ?_)
            · try simp only [decide_eq_true_eq, decide_eq_false_iff_not, Bool.not_eq_true', Bool.not_eq_false', Int.not_lt, Int.not_le, Decidable.not_not, beq_iff_eq, bne_iff_ne, ne_eq, beq_eq_false_iff_ne, WA.wd] at h911
              refine c_seq ?_
              refine c_region ?_
              refine o_T (y_move rfl) rfl ?_
              refine o_T (y_fa fl_32_3 rfl) rfl ?_
              refine o_ld one_3 rfl m0 Opn.g3 rfl ?_
              refine o_T (y_fa fl_32_1 rfl) rfl ?_
              refine o_ld one_3 rfl m0 Opn.g1 rfl ?_
              refine o_call en_55 rfl (t55b _ _ _ _ _ _ c3 _ W.h hb.ok true ho) (s_skip (s_take (s_take s_nil))) rfl ?_
              rintro v S' ⟨pc_1, gc_1, rfl, hi_1, rfl⟩
              refine o_T (y_move rfl) rfl ?_
              refine o_T (y_extract rfl rfl) rfl ?_
              refine o_T (y_extract rfl rfl) rfl ?_
              refine o_alloc ze_69 rfl rfl (fun b_2 => ?_)
              refine o_sta ag_69 rfl rfl (si_plain hi_1) rfl r0 (setAll_full _ _ rfl) (of_ble rfl) ?_
              refine o_L (y_assign rfl) rfl rfl ?_
              refine o_nil0 rfl ?_
              refine c_seq ?_
              have he0 := ours_err ho
              obtain ⟨bi_1, hpcbi_1, hgcbi_1⟩ := InfG.ok hi_1 he0
              subst hpcbi_1 hgcbi_1
              refine c_region ?_
              refine o_T (y_move rfl) rfl ?_
              refine o_T (y_not rfl) rfl ?_
              refine o_T (y_move rfl) rfl ?_
              refine o_take rfl rfl rfl ?_
              refine o_T (y_fa fl_69_1 rfl) rfl ?_
              refine o_take rfl rfl rfl ?_
              refine o_ld one_67 rfl m0 Si.g8 rfl ?_
              refine o_take rfl rfl rfl ?_
              refine o_T (y_nilck rfl) rfl ?_
              refine o_take rfl rfl rfl ?_
              refine o_T (y_fa fl_95_0 rfl) rfl ?_
              refine o_take rfl rfl rfl ?_
              refine o_ld one_3 rfl (ms m0) Ci.g0 rfl ?_
              refine o_take rfl rfl rfl ?_
              refine o_T (y_neq rfl rfl) rfl ?_
              refine o_T (y_pickF rfl rfl) rfl ?_
              refine o_L (y_assign rfl) rfl rfl ?_
              refine o_nil0 rfl ?_
              refine c_ret ?_
              refine fun aX wX heX hsX => ret1 Tryz.results18 heX rfl (s_skip (s_skip (s_take (s_take (s_skip (s_take (s_take (s_take (s_take (s_take (s_take (s_take (s_take s_nil))))))))))))) ?_
              refine ⟨congrArg Value.bool ?_, rfl⟩
              unfold foulB
              first
                | (exfalso; omega)
                | (rw [if_pos (by omega)]; done)
                | (rw [if_neg (by omega), if_pos (by omega)]; done)
                | (rw [if_neg (by omega), if_neg (by omega), if_pos (by omega)]; done)
                | (rw [if_neg (by omega), if_neg (by omega), if_neg (by omega), if_pos (by omega)]; unfold foulE; rw [Int.toNat_natCast, ho]; first | rfl | simp)
                | (rw [if_neg (by omega), if_neg (by omega), if_neg (by omega), if_neg (by omega), if_pos (by omega)]; unfold foulC; first | (rw [if_pos (by omega)]; done) | (have eT := hT3 (by omega) (by omega); rw [if_neg (by omega), ← eT]; first | (rw [if_pos (by assumption)]; done) | (rw [if_pos (by simpa using ‹x.listensB oT.toNat ob = true›)]) | (rw [if_neg (by simp_all)]; done)))
                | (rw [if_neg (by omega), if_neg (by omega), if_neg (by omega), if_neg (by omega), if_neg (by omega)]; done)
            · try simp only [decide_eq_true_eq, decide_eq_false_iff_not, Bool.not_eq_true', Bool.not_eq_false', Int.not_lt, Int.not_le, Decidable.not_not, beq_iff_eq, bne_iff_ne, ne_eq, beq_eq_false_iff_ne, WA.wd] at h911
              refine c_seq ?_
              refine c_region ?_
              refine o_T (y_eql rfl rfl) rfl ?_
              refine o_L (y_assign rfl) rfl rfl ?_
              refine o_nil0 rfl ?_
              refine c_cond rfl (fun h914 => ?_) (fun h914 => ?_)
              · try simp only [decide_eq_true_eq, decide_eq_false_iff_not, Bool.not_eq_true', Bool.not_eq_false', Int.not_lt, Int.not_le, Decidable.not_not, beq_iff_eq, bne_iff_ne, ne_eq, beq_eq_false_iff_ne, WA.wd] at h914
                refine c_seq ?_
                refine c_region ?_
                refine o_T (y_fa fl_32_1 rfl) rfl ?_
                refine o_ld one_3 rfl m0 Opn.g1 rfl ?_
                refine o_T (y_sub rfl rfl hT) rfl ?_
                refine o_L (y_assign rfl) rfl rfl ?_
                refine o_nil0 rfl ?_
                refine c_seq ?_
                refine c_seq ?_
                refine c_region ?_
                refine o_T (y_move rfl) rfl ?_
                refine o_T (y_lss rfl rfl) rfl ?_
                refine o_T (y_move rfl) rfl ?_
                refine o_split 55 rfl (fun h916 => ?_) (fun h916 => ?_)
                · try simp only [decide_eq_true_eq, decide_eq_false_iff_not, Bool.not_eq_true', Bool.not_eq_false', Int.not_lt, Int.not_le, Decidable.not_not, beq_iff_eq, bne_iff_ne, ne_eq, beq_eq_false_iff_ne, WA.wd] at h916
                  refine o_pass rfl rfl rfl rfl rfl ?_
                  refine o_pass rfl rfl rfl rfl rfl ?_
                  refine o_T (y_pickT rfl rfl) rfl ?_
                  refine o_T (y_move rfl) rfl ?_
                  refine o_pass rfl rfl rfl rfl rfl ?_
                  refine o_pass rfl rfl rfl rfl rfl ?_
                  refine o_pass rfl rfl rfl rfl rfl ?_
                  refine o_pass rfl rfl rfl rfl rfl ?_
                  refine o_T (y_pickT rfl rfl) rfl ?_
                  refine o_nil1 64 rfl rfl ?_
                  refine c_condT rfl ?_
                  refine c_seq ?_
                  refine c_region ?_
                  refine o_L (y_assign rfl) rfl rfl ?_
                  refine o_nil0 rfl ?_
                  refine c_ret ?_
                  refine fun aX wX heX hsX => ret1 Tryz.results18 heX rfl (s_skip (s_take (s_take (s_take (s_take (s_take (s_take (s_take (s_take (s_take (s_take s_nil))))))))))) ?_
                  refine ⟨congrArg Value.bool ?_, rfl⟩
                  unfold foulB
                  first
                    | (exfalso; omega)
                    | (rw [if_pos (by omega)]; done)
                    | (rw [if_neg (by omega), if_pos (by omega)]; done)
                    | (rw [if_neg (by omega), if_neg (by omega), if_pos (by omega)]; done)
                    | (rw [if_neg (by omega), if_neg (by omega), if_neg (by omega), if_pos (by omega)]; unfold foulE; rw [Int.toNat_natCast, ho]; first | rfl | simp)
                    | (rw [if_neg (by omega), if_neg (by omega), if_neg (by omega), if_neg (by omega), if_pos (by omega)]; unfold foulC; first | (rw [if_pos (by omega)]; done) | (have eT := hT3 (by omega) (by omega); rw [if_neg (by omega), ← eT]; first | (rw [if_pos (by assumption)]; done) | (rw [if_pos (by simpa using ‹x.listensB oT.toNat ob = true›)]) | (rw [if_neg (by simp_all)]; done)))
                    | (rw [if_neg (by omega), if_neg (by omega), if_neg (by omega), if_neg (by omega), if_neg (by omega)]; done)
                · try simp only [decide_eq_true_eq, decide_eq_false_iff_not, Bool.not_eq_true', Bool.not_eq_false', Int.not_lt, Int.not_le, Decidable.not_not, beq_iff_eq, bne_iff_ne, ne_eq, beq_eq_false_iff_ne, WA.wd] at h916
                  refine o_take rfl rfl rfl ?_
                  refine o_T (y_move rfl) rfl ?_
                  refine o_take rfl rfl rfl ?_
                  refine o_T (y_geq rfl rfl) rfl ?_
                  refine o_T (y_pickF rfl rfl) rfl ?_
                  refine o_T (y_move rfl) rfl ?_
                  refine o_split 59 rfl (fun h916_1 => ?_) (fun h916_1 => ?_)
                  · try simp only [decide_eq_true_eq, decide_eq_false_iff_not, Bool.not_eq_true', Bool.not_eq_false', Int.not_lt, Int.not_le, Decidable.not_not, beq_iff_eq, bne_iff_ne, ne_eq, beq_eq_false_iff_ne, WA.wd] at h916_1
                    refine o_pass rfl rfl rfl rfl rfl ?_
                    refine o_pass rfl rfl rfl rfl rfl ?_
                    refine o_pass rfl rfl rfl rfl rfl ?_
                    refine o_pass rfl rfl rfl rfl rfl ?_
                    refine o_T (y_pickT rfl rfl) rfl ?_
                    refine o_nil1 64 rfl rfl ?_
                    refine c_condT rfl ?_
                    refine c_seq ?_
                    refine c_region ?_
                    refine o_L (y_assign rfl) rfl rfl ?_
                    refine o_nil0 rfl ?_
                    refine c_ret ?_
                    refine fun aX wX heX hsX => ret1 Tryz.results18 heX rfl (s_skip (s_take (s_take (s_take (s_take (s_take (s_take (s_take (s_take (s_take (s_take s_nil))))))))))) ?_
                    refine ⟨congrArg Value.bool ?_, rfl⟩
                    unfold foulB
                    first
                      | (exfalso; omega)
                      | (rw [if_pos (by omega)]; done)
                      | (rw [if_neg (by omega), if_pos (by omega)]; done)
                      | (rw [if_neg (by omega), if_neg (by omega), if_pos (by omega)]; done)
                      | (rw [if_neg (by omega), if_neg (by omega), if_neg (by omega), if_pos (by omega)]; unfold foulE; rw [Int.toNat_natCast, ho]; first | rfl | simp)
                      | (rw [if_neg (by omega), if_neg (by omega), if_neg (by omega), if_neg (by omega), if_pos (by omega)]; unfold foulC; first | (rw [if_pos (by omega)]; done) | (have eT := hT3 (by omega) (by omega); rw [if_neg (by omega), ← eT]; first | (rw [if_pos (by assumption)]; done) | (rw [if_pos (by simpa using ‹x.listensB oT.toNat ob = true›)]) | (rw [if_neg (by simp_all)]; done)))
                      | (rw [if_neg (by omega), if_neg (by omega), if_neg (by omega), if_neg (by omega), if_neg (by omega)]; done)
                  · try simp only [decide_eq_true_eq, decide_eq_false_iff_not, Bool.not_eq_true', Bool.not_eq_false', Int.not_lt, Int.not_le, Decidable.not_not, beq_iff_eq, bne_iff_ne, ne_eq, beq_eq_false_iff_ne, WA.wd] at h916_1
                    refine o_take rfl rfl rfl ?_
                    refine o_T (y_move rfl) rfl ?_
                    refine o_take rfl rfl rfl ?_
                    refine o_T (y_fa fl_32_3 rfl) rfl ?_
                    refine o_take rfl rfl rfl ?_
                    refine o_ld one_3 rfl m0 Opn.g3 rfl ?_
                    refine o_take rfl rfl rfl ?_
                    refine o_T (y_eql rfl rfl) rfl ?_
                    refine o_T (y_pickF rfl rfl) rfl ?_
                    refine o_nil1 64 rfl rfl ?_
                    refine c_cond rfl (fun h916_2 => ?_) (fun h916_2 => ?_)
                    · try simp only [decide_eq_true_eq, decide_eq_false_iff_not, Bool.not_eq_true', Bool.not_eq_false', Int.not_lt, Int.not_le, Decidable.not_not, beq_iff_eq, bne_iff_ne, ne_eq, beq_eq_false_iff_ne, WA.wd] at h916_2
                      refine c_seq ?_
                      refine c_region ?_
                      refine o_L (y_assign rfl) rfl rfl ?_
                      refine o_nil0 rfl ?_
                      refine c_ret ?_
                      refine fun aX wX heX hsX => ret1 Tryz.results18 heX rfl (s_skip (s_take (s_take (s_take (s_take (s_take (s_take (s_take (s_take (s_take (s_take s_nil))))))))))) ?_
                      refine ⟨congrArg Value.bool ?_, rfl⟩
                      unfold foulB
                      first
                        | (exfalso; omega)
                        | (rw [if_pos (by omega)]; done)
                        | (rw [if_neg (by omega), if_pos (by omega)]; done)
                        | (rw [if_neg (by omega), if_neg (by omega), if_pos (by omega)]; done)
                        | (rw [if_neg (by omega), if_neg (by omega), if_neg (by omega), if_pos (by omega)]; unfold foulE; rw [Int.toNat_natCast, ho]; first | rfl | simp)
                        | (rw [if_neg (by omega), if_neg (by omega), if_neg (by omega), if_neg (by omega), if_pos (by omega)]; unfold foulC; first | (rw [if_pos (by omega)]; done) | (have eT := hT3 (by omega) (by omega); rw [if_neg (by omega), ← eT]; first | (rw [if_pos (by assumption)]; done) | (rw [if_pos (by simpa using ‹x.listensB oT.toNat ob = true›)]) | (rw [if_neg (by simp_all)]; done)))
                        | (rw [if_neg (by omega), if_neg (by omega), if_neg (by omega), if_neg (by omega), if_neg (by omega)]; done)
                    · try simp only [decide_eq_true_eq, decide_eq_false_iff_not, Bool.not_eq_true', Bool.not_eq_false', Int.not_lt, Int.not_le, Decidable.not_not, beq_iff_eq, bne_iff_ne, ne_eq, beq_eq_false_iff_ne, WA.wd] at h916_2
                      refine c_skip ?_
                      refine c_seq ?_
                      refine c_seq ?_
                      refine c_region ?_
                      refine o_T (y_move rfl) rfl ?_
                      refine o_T (y_move rfl) rfl ?_
                      refine o_T (y_fa fl_32_2 rfl) rfl ?_
                      refine o_ld one_3 rfl m0 Opn.g2 rfl ?_
                      refine o_call en_56 rfl (i56v A q x V _ _ oT (by omega) (by omega) ob W.h hb.ok W.s) (s_skip (s_take (s_take (s_skip (s_skip (s_skip (s_take s_nil))))))) rfl ?_
                      rintro v S' ⟨rfl, rfl⟩
                      refine o_T (y_not rfl) rfl ?_
                      refine o_nil1 70 rfl rfl ?_
                      refine c_cond rfl (fun h919 => ?_) (fun h919 => ?_)
                      · try simp only [decide_eq_true_eq, decide_eq_false_iff_not, Bool.not_eq_true', Bool.not_eq_false', Int.not_lt, Int.not_le, Decidable.not_not, beq_iff_eq, bne_iff_ne, ne_eq, beq_eq_false_iff_ne, WA.wd] at h919
                        refine c_seq ?_
                        refine c_region ?_
                        refine o_L (y_assign rfl) rfl rfl ?_
                        refine o_nil0 rfl ?_
                        refine c_ret ?_
                        refine fun aX wX heX hsX => ret1 Tryz.results18 heX rfl (s_get k0 (s_get k0 (s_get (ks (ks k0)) (s_get (ks (ks k0)) (s_get (ks (ks k0)) (s_get k0 (s_get (ks k0) (s_get (ks k0) (s_get (ks k0) (s_get (ks k0) s_nil)))))))))) ?_
                        refine ⟨congrArg Value.bool ?_, rfl⟩
                        unfold foulB
                        first
                          | (exfalso; omega)
                          | (rw [if_pos (by omega)]; done)
                          | (rw [if_neg (by omega), if_pos (by omega)]; done)
                          | (rw [if_neg (by omega), if_neg (by omega), if_pos (by omega)]; done)
                          | (rw [if_neg (by omega), if_neg (by omega), if_neg (by omega), if_pos (by omega)]; unfold foulE; rw [Int.toNat_natCast, ho]; first | rfl | simp)
                          | (rw [if_neg (by omega), if_neg (by omega), if_neg (by omega), if_neg (by omega), if_pos (by omega)]; unfold foulC; first | (rw [if_pos (by omega)]; done) | (have eT := hT3 (by omega) (by omega); rw [if_neg (by omega), ← eT]; first | (rw [if_pos (by assumption)]; done) | (rw [if_pos (by simpa using ‹x.listensB oT.toNat ob = true›)]) | (rw [if_neg (by simp_all)]; done)))
                          | (rw [if_neg (by omega), if_neg (by omega), if_neg (by omega), if_neg (by omega), if_neg (by omega)]; done)
                      · try simp only [decide_eq_true_eq, decide_eq_false_iff_not, Bool.not_eq_true', Bool.not_eq_false', Int.not_lt, Int.not_le, Decidable.not_not, beq_iff_eq, bne_iff_ne, ne_eq, beq_eq_false_iff_ne, WA.wd] at h919
                        refine c_skip ?_
                        refine c_seq ?_
                        refine c_region ?_
                        refine o_T (y_move rfl) rfl ?_
                        refine o_T (y_nilck rfl) rfl ?_
                        refine o_T (y_fa fl_53_6 rfl) rfl ?_
                        refine o_ld one_44 rfl m0 Wd.g30 rfl ?_
                        refine o_callrv en_57 rfl (i57 W.n) (s_skip (s_skip (s_skip (s_skip (s_skip (s_skip (s_take s_nil))))))) rfl ?_
                        refine o_T (y_not rfl) rfl ?_
                        refine o_L (y_assign rfl) rfl rfl ?_
                        refine o_nil0 rfl ?_
                        refine c_ret ?_
                        refine fun aX wX heX hsX => ret1 Tryz.results18 heX rfl (s_get k0 (s_get k0 (s_get (ks (ks k0)) (s_get (ks (ks k0)) (s_get (ks (ks k0)) (s_get k0 (s_get (ks k0) (s_get (ks k0) (s_get (ks k0) (s_get (ks k0) s_nil)))))))))) ?_
                        refine ⟨congrArg Value.bool ?_, rfl⟩
                        unfold foulB
                        first
                          | (exfalso; omega)
                          | (rw [if_pos (by omega)]; done)
                          | (rw [if_neg (by omega), if_pos (by omega)]; done)
                          | (rw [if_neg (by omega), if_neg (by omega), if_pos (by omega)]; done)
                          | (rw [if_neg (by omega), if_neg (by omega), if_neg (by omega), if_pos (by omega)]; unfold foulE; rw [Int.toNat_natCast, ho]; first | rfl | simp)
                          | (rw [if_neg (by omega), if_neg (by omega), if_neg (by omega), if_neg (by omega), if_pos (by omega)]; unfold foulC; first | (rw [if_pos (by omega)]; done) | (have eT := hT3 (by omega) (by omega); rw [if_neg (by omega), ← eT]; first | (rw [if_pos (by assumption)]; done) | (rw [if_pos (by simpa using ‹x.listensB oT.toNat ob = true›)]) | (rw [if_neg (by simp_all)]; done)))
                          | (rw [if_neg (by omega), if_neg (by omega), if_neg (by omega), if_neg (by omega), if_neg (by omega)]; done)
              · try simp only [decide_eq_true_eq, decide_eq_false_iff_not, Bool.not_eq_true', Bool.not_eq_false', Int.not_lt, Int.not_le, Decidable.not_not, beq_iff_eq, bne_iff_ne, ne_eq, beq_eq_false_iff_ne, WA.wd] at h914
                refine c_skip ?_
                refine c_seq ?_
                refine c_region ?_
                refine o_L (y_assign rfl) rfl rfl ?_
                refine o_nil0 rfl ?_
                refine c_ret ?_
                refine fun aX wX heX hsX => ret1 Tryz.results18 heX rfl (s_skip (s_take (s_take (s_take (s_take (s_take (s_take (s_take (s_take (s_take (s_take s_nil))))))))))) ?_
                refine ⟨congrArg Value.bool ?_, rfl⟩
                unfold foulB
                first
                  | (exfalso; omega)
                  | (rw [if_pos (by omega)]; done)
                  | (rw [if_neg (by omega), if_pos (by omega)]; done)
                  | (rw [if_neg (by omega), if_neg (by omega), if_pos (by omega)]; done)
                  | (rw [if_neg (by omega), if_neg (by omega), if_neg (by omega), if_pos (by omega)]; unfold foulE; rw [Int.toNat_natCast, ho]; first | rfl | simp)
                  | (rw [if_neg (by omega), if_neg (by omega), if_neg (by omega), if_neg (by omega), if_pos (by omega)]; unfold foulC; first | (rw [if_pos (by omega)]; done) | (have eT := hT3 (by omega) (by omega); rw [if_neg (by omega), ← eT]; first | (rw [if_pos (by assumption)]; done) | (rw [if_pos (by simpa using ‹x.listensB oT.toNat ob = true›)]) | (rw [if_neg (by simp_all)]; done)))
                  | (rw [if_neg (by omega), if_neg (by omega), if_neg (by omega), if_neg (by omega), if_neg (by omega)]; done)
  · try simp only [decide_eq_true_eq, decide_eq_false_iff_not, Bool.not_eq_true', Bool.not_eq_false', Int.not_lt, Int.not_le, Decidable.not_not, beq_iff_eq, bne_iff_ne, ne_eq, beq_eq_false_iff_ne, WA.wd] at h902
    refine c_seq ?_
    refine c_region ?_
    refine o_T (y_eql rfl rfl) rfl ?_
    refine o_L (y_assign rfl) rfl rfl ?_
    refine o_nil0 rfl ?_
    refine c_cond rfl (fun h902_1 => ?_) (fun h902_1 => ?_)
    · try simp only [decide_eq_true_eq, decide_eq_false_iff_not, Bool.not_eq_true', Bool.not_eq_false', Int.not_lt, Int.not_le, Decidable.not_not, beq_iff_eq, bne_iff_ne, ne_eq, beq_eq_false_iff_ne, WA.wd] at h902_1
      refine c_skip ?_
      refine c_cond rfl (fun h902_2 => ?_) (fun h902_2 => ?_)
      · try simp only [decide_eq_true_eq, decide_eq_false_iff_not, Bool.not_eq_true', Bool.not_eq_false', Int.not_lt, Int.not_le, Decidable.not_not, beq_iff_eq, bne_iff_ne, ne_eq, beq_eq_false_iff_ne, WA.wd] at h902_2
        refine c_seq ?_
        refine c_region ?_
        refine o_L (y_assign rfl) rfl rfl ?_
        refine o_nil0 rfl ?_
        refine c_ret ?_
        refine fun aX wX heX hsX => ret1 Tryz.results18 heX rfl (s_skip (s_take (s_take (s_take (s_take (s_take (s_take (s_take (s_take (s_take (s_take s_nil))))))))))) ?_
        refine ⟨congrArg Value.bool ?_, rfl⟩
        unfold foulB
        first
          | (exfalso; omega)
          | (rw [if_pos (by omega)]; done)
          | (rw [if_neg (by omega), if_pos (by omega)]; done)
          | (rw [if_neg (by omega), if_neg (by omega), if_pos (by omega)]; done)
          | (rw [if_neg (by omega), if_neg (by omega), if_neg (by omega), if_pos (by omega)]; unfold foulE; rw [Int.toNat_natCast, ho]; first | rfl | simp)
          | (rw [if_neg (by omega), if_neg (by omega), if_neg (by omega), if_neg (by omega), if_pos (by omega)]; unfold foulC; first | (rw [if_pos (by omega)]; done) | (have eT := hT3 (by omega) (by omega); rw [if_neg (by omega), ← eT]; first | (rw [if_pos (by assumption)]; done) | (rw [if_pos (by simpa using ‹x.listensB oT.toNat ob = true›)]) | (rw [if_neg (by simp_all)]; done)))
          | (rw [if_neg (by omega), if_neg (by omega), if_neg (by omega), if_neg (by omega), if_neg (by omega)]; done)
      · try simp only [decide_eq_true_eq, decide_eq_false_iff_not, Bool.not_eq_true', Bool.not_eq_false', Int.not_lt, Int.not_le, Decidable.not_not, beq_iff_eq, bne_iff_ne, ne_eq, beq_eq_false_iff_ne, WA.wd] at h902_2
        refine c_skip ?_
        refine c_seq ?_
        refine c_seq ?_
        refine c_region ?_
        refine o_T (y_fa fl_32_3 rfl) rfl ?_
        refine o_ld one_3 rfl m0 Opn.g3 rfl ?_
        refine o_T (y_lss rfl rfl) rfl ?_
        refine o_T (y_move rfl) rfl ?_
        refine o_split 18 rfl (fun h905 => ?_) (fun h905 => ?_)
        · try simp only [decide_eq_true_eq, decide_eq_false_iff_not, Bool.not_eq_true', Bool.not_eq_false', Int.not_lt, Int.not_le, Decidable.not_not, beq_iff_eq, bne_iff_ne, ne_eq, beq_eq_false_iff_ne, WA.wd] at h905
          refine o_pass rfl rfl rfl rfl rfl ?_
          refine o_pass rfl rfl rfl rfl rfl ?_
          refine o_pass rfl rfl rfl rfl rfl ?_
          refine o_T (y_pickT rfl rfl) rfl ?_
          refine o_nil1 22 rfl rfl ?_
          refine c_condT rfl ?_
          refine c_seq ?_
          refine c_region ?_
          refine o_L (y_assign rfl) rfl rfl ?_
          refine o_nil0 rfl ?_
          refine c_ret ?_
          refine fun aX wX heX hsX => ret1 Tryz.results18 heX rfl (s_skip (s_take (s_take (s_take (s_take (s_take (s_take (s_take (s_take (s_take (s_take s_nil))))))))))) ?_
          refine ⟨congrArg Value.bool ?_, rfl⟩
          unfold foulB
          first
            | (exfalso; omega)
            | (rw [if_pos (by omega)]; done)
            | (rw [if_neg (by omega), if_pos (by omega)]; done)
            | (rw [if_neg (by omega), if_neg (by omega), if_pos (by omega)]; done)
            | (rw [if_neg (by omega), if_neg (by omega), if_neg (by omega), if_pos (by omega)]; unfold foulE; rw [Int.toNat_natCast, ho]; first | rfl | simp)
            | (rw [if_neg (by omega), if_neg (by omega), if_neg (by omega), if_neg (by omega), if_pos (by omega)]; unfold foulC; first | (rw [if_pos (by omega)]; done) | (have eT := hT3 (by omega) (by omega); rw [if_neg (by omega), ← eT]; first | (rw [if_pos (by assumption)]; done) | (rw [if_pos (by simpa using ‹x.listensB oT.toNat ob = true›)]) | (rw [if_neg (by simp_all)]; done)))
            | (rw [if_neg (by omega), if_neg (by omega), if_neg (by omega), if_neg (by omega), if_neg (by omega)]; done)
        · try simp only [decide_eq_true_eq, decide_eq_false_iff_not, Bool.not_eq_true', Bool.not_eq_false', Int.not_lt, Int.not_le, Decidable.not_not, beq_iff_eq, bne_iff_ne, ne_eq, beq_eq_false_iff_ne, WA.wd] at h905
          refine o_take rfl rfl rfl ?_
          refine o_T (y_fa fl_32_3 rfl) rfl ?_
          refine o_take rfl rfl rfl ?_
          refine o_ld one_3 rfl m0 Opn.g3 rfl ?_
          refine o_take rfl rfl rfl ?_
          refine o_T (y_geq rfl rfl) rfl ?_
          refine o_T (y_pickF rfl rfl) rfl ?_
          refine o_nil1 22 rfl rfl ?_
          refine c_cond rfl (fun h905_1 => ?_) (fun h905_1 => ?_)
          · try simp only [decide_eq_true_eq, decide_eq_false_iff_not, Bool.not_eq_true', Bool.not_eq_false', Int.not_lt, Int.not_le, Decidable.not_not, beq_iff_eq, bne_iff_ne, ne_eq, beq_eq_false_iff_ne, WA.wd] at h905_1
            refine c_seq ?_
            refine c_region ?_
            refine o_L (y_assign rfl) rfl rfl ?_
            refine o_nil0 rfl ?_
            refine c_ret ?_
            refine fun aX wX heX hsX => ret1 Tryz.results18 heX rfl (s_skip (s_take (s_take (s_take (s_take (s_take (s_take (s_take (s_take (s_take (s_take s_nil))))))))))) ?_
            refine ⟨congrArg Value.bool ?_, rfl⟩
            unfold foulB
            first
              | (exfalso; omega)
              | (rw [if_pos (by omega)]; done)
              | (rw [if_neg (by omega), if_pos (by omega)]; done)
              | (rw [if_neg (by omega), if_neg (by omega), if_pos (by omega)]; done)
              | (rw [if_neg (by omega), if_neg (by omega), if_neg (by omega), if_pos (by omega)]; unfold foulE; rw [Int.toNat_natCast, ho]; first | rfl | simp)
              | (rw [if_neg (by omega), if_neg (by omega), if_neg (by omega), if_neg (by omega), if_pos (by omega)]; unfold foulC; first | (rw [if_pos (by omega)]; done) | (have eT := hT3 (by omega) (by omega); rw [if_neg (by omega), ← eT]; first | (rw [if_pos (by assumption)]; done) | (rw [if_pos (by simpa using ‹x.listensB oT.toNat ob = true›)]) | (rw [if_neg (by simp_all)]; done)))
              | (rw [if_neg (by omega), if_neg (by omega), if_neg (by omega), if_neg (by omega), if_neg (by omega)]; done)
          · try simp only [decide_eq_true_eq, decide_eq_false_iff_not, Bool.not_eq_true', Bool.not_eq_false', Int.not_lt, Int.not_le, Decidable.not_not, beq_iff_eq, bne_iff_ne, ne_eq, beq_eq_false_iff_ne, WA.wd] at h905_1
            refine c_skip ?_
            refine c_seq ?_
            refine c_seq ?_
            obtain ⟨c, rfl⟩ : ∃ c : Nat, oc = (c : Int) := ⟨oc.toNat, by omega⟩
            have c3 : c < 3 := by omega
            have ho := ho
            rw [Int.toNat_natCast] at ho
            refine c_region ?_
            refine o_T (y_fa fl_32_0 rfl) rfl ?_
            refine o_ld one_3 rfl m0 Opn.g0 rfl ?_
            refine o_nil1 24 rfl rfl ?_
            refine c_block ?_
            refine c_seq ?_
            refine c_region ?_
            refine o_T (y_eql rfl rfl) rfl ?_
            refine o_L (y_assign rfl) rfl rfl ?_
            refine o_nil0 rfl ?_
            refine c_cond rfl (fun h909 => ?_) (fun h909 => ?_)
            · try simp only [decide_eq_true_eq, decide_eq_false_iff_not, Bool.not_eq_true', Bool.not_eq_false', Int.not_lt, Int.not_le, Decidable.not_not, beq_iff_eq, bne_iff_ne, ne_eq, beq_eq_false_iff_ne, WA.wd] at h909
              refine c_seq ?_
              refine c_region ?_
              refine o_L (y_assign rfl) rfl rfl ?_
              refine o_nil0 rfl ?_
              refine c_ret ?_
              refine fun aX wX heX hsX => ret1 Tryz.results18 heX rfl (s_skip (s_take (s_take (s_take (s_take (s_take (s_take (s_take (s_take (s_take (s_take s_nil))))))))))) ?_
              refine ⟨congrArg Value.bool ?_, rfl⟩
              unfold foulB
              first
                | (exfalso; omega)
                | (rw [if_pos (by omega)]; done)
                | (rw [if_neg (by omega), if_pos (by omega)]; done)
                | (rw [if_neg (by omega), if_neg (by omega), if_pos (by omega)]; done)
                | (rw [if_neg (by omega), if_neg (by omega), if_neg (by omega), if_pos (by omega)]; unfold foulE; rw [Int.toNat_natCast, ho]; first | rfl | simp)
                | (rw [if_neg (by omega), if_neg (by omega), if_neg (by omega), if_neg (by omega), if_pos (by omega)]; unfold foulC; first | (rw [if_pos (by omega)]; done) | (have eT := hT3 (by omega) (by omega); rw [if_neg (by omega), ← eT]; first | (rw [if_pos (by assumption)]; done) | (rw [if_pos (by simpa using ‹x.listensB oT.toNat ob = true›)]) | (rw [if_neg (by simp_all)]; done)))
                | (rw [if_neg (by omega), if_neg (by omega), if_neg (by omega), if_neg (by omega), if_neg (by omega)]; done)
            · try simp only [decide_eq_true_eq, decide_eq_false_iff_not, Bool.not_eq_true', Bool.not_eq_false', Int.not_lt, Int.not_le, Decidable.not_not, beq_iff_eq, bne_iff_ne, ne_eq, beq_eq_false_iff_ne, WA.wd] at h909
              refine c_seq ?_
              refine c_region ?_
              refine o_T (y_eql rfl rfl) rfl ?_
              refine o_L (y_assign rfl) rfl rfl ?_
              refine o_nil0 rfl ?_
              refine c_cond rfl (fun h911 => ?_) (fun h911 => ?_)
              · try simp only [decide_eq_true_eq, decide_eq_false_iff_not, Bool.not_eq_true', Bool.not_eq_false', Int.not_lt, Int.not_le, Decidable.not_not, beq_iff_eq, bne_iff_ne, ne_eq, beq_eq_false_iff_ne, WA.wd] at h911
                refine c_seq ?_
                refine c_region ?_
                refine o_T (y_move rfl) rfl ?_
                refine o_T (y_fa fl_32_3 rfl) rfl ?_
                refine o_ld one_3 rfl m0 Opn.g3 rfl ?_
                refine o_T (y_fa fl_32_1 rfl) rfl ?_
                refine o_ld one_3 rfl m0 Opn.g1 rfl ?_
                refine o_call en_55 rfl (t55b _ _ _ _ _ _ c3 _ W.h hb.ok true ho) (s_skip (s_take (s_take s_nil))) rfl ?_
                rintro v S' ⟨pc_2, gc_2, rfl, hi_2, rfl⟩
                refine o_T (y_move rfl) rfl ?_
                refine o_T (y_extract rfl rfl) rfl ?_
                refine o_T (y_extract rfl rfl) rfl ?_
                refine o_alloc ze_69 rfl rfl (fun b_3 => ?_)
                refine o_sta ag_69 rfl rfl (si_plain hi_2) rfl r0 (setAll_full _ _ rfl) (of_ble rfl) ?_
                refine o_L (y_assign rfl) rfl rfl ?_
                refine o_nil0 rfl ?_
                refine c_seq ?_
                have he0 := ours_err ho
                obtain ⟨bi_2, hpcbi_2, hgcbi_2⟩ := InfG.ok hi_2 he0
                subst hpcbi_2 hgcbi_2
                refine c_region ?_
                refine o_T (y_move rfl) rfl ?_
                refine o_T (y_not rfl) rfl ?_
                refine o_T (y_move rfl) rfl ?_
                refine o_take rfl rfl rfl ?_
                refine o_T (y_fa fl_69_1 rfl) rfl ?_
                refine o_take rfl rfl rfl ?_
                refine o_ld one_67 rfl m0 Si.g8 rfl ?_
                refine o_take rfl rfl rfl ?_
                refine o_T (y_nilck rfl) rfl ?_
                refine o_take rfl rfl rfl ?_
                refine o_T (y_fa fl_95_0 rfl) rfl ?_
                refine o_take rfl rfl rfl ?_
                refine o_ld one_3 rfl (ms m0) Ci.g0 rfl ?_
                refine o_take rfl rfl rfl ?_
                refine o_T (y_neq rfl rfl) rfl ?_
                refine o_T (y_pickF rfl rfl) rfl ?_
                refine o_L (y_assign rfl) rfl rfl ?_
                refine o_nil0 rfl ?_
                refine c_ret ?_
                refine fun aX wX heX hsX => ret1 Tryz.results18 heX rfl (s_skip (s_skip (s_take (s_take (s_skip (s_take (s_take (s_take (s_take (s_take (s_take (s_take (s_take s_nil))))))))))))) ?_
                refine ⟨congrArg Value.bool ?_, rfl⟩
                unfold foulB
                first
                  | (exfalso; omega)
                  | (rw [if_pos (by omega)]; done)
                  | (rw [if_neg (by omega), if_pos (by omega)]; done)
                  | (rw [if_neg (by omega), if_neg (by omega), if_pos (by omega)]; done)
                  | (rw [if_neg (by omega), if_neg (by omega), if_neg (by omega), if_pos (by omega)]; unfold foulE; rw [Int.toNat_natCast, ho]; first | rfl | simp)
                  | (rw [if_neg (by omega), if_neg (by omega), if_neg (by omega), if_neg (by omega), if_pos (by omega)]; unfold foulC; first | (rw [if_pos (by omega)]; done) | (have eT := hT3 (by omega) (by omega); rw [if_neg (by omega), ← eT]; first | (rw [if_pos (by assumption)]; done) | (rw [if_pos (by simpa using ‹x.listensB oT.toNat ob = true›)]) | (rw [if_neg (by simp_all)]; done)))
                  | (rw [if_neg (by omega), if_neg (by omega), if_neg (by omega), if_neg (by omega), if_neg (by omega)]; done)
              · try simp only [decide_eq_true_eq, decide_eq_false_iff_not, Bool.not_eq_true', Bool.not_eq_false', Int.not_lt, Int.not_le, Decidable.not_not, beq_iff_eq, bne_iff_ne, ne_eq, beq_eq_false_iff_ne, WA.wd] at h911
                refine c_seq ?_
                refine c_region ?_
                refine o_T (y_eql rfl rfl) rfl ?_
                refine o_L (y_assign rfl) rfl rfl ?_
                refine o_nil0 rfl ?_
                refine c_cond rfl (fun h914 => ?_) (fun h914 => ?_)
                · try simp only [decide_eq_true_eq, decide_eq_false_iff_not, Bool.not_eq_true', Bool.not_eq_false', Int.not_lt, Int.not_le, Decidable.not_not, beq_iff_eq, bne_iff_ne, ne_eq, beq_eq_false_iff_ne, WA.wd] at h914
                  refine c_seq ?_
                  refine c_region ?_
                  refine o_T (y_fa fl_32_1 rfl) rfl ?_
                  refine o_ld one_3 rfl m0 Opn.g1 rfl ?_
                  refine o_T (y_sub rfl rfl hT) rfl ?_
                  refine o_L (y_assign rfl) rfl rfl ?_
                  refine o_nil0 rfl ?_
                  refine c_seq ?_
                  refine c_seq ?_
                  refine c_region ?_
                  refine o_T (y_move rfl) rfl ?_
                  refine o_T (y_lss rfl rfl) rfl ?_
                  refine o_T (y_move rfl) rfl ?_
                  refine o_split 55 rfl (fun h916 => ?_) (fun h916 => ?_)
                  · try simp only [decide_eq_true_eq, decide_eq_false_iff_not, Bool.not_eq_true', Bool.not_eq_false', Int.not_lt, Int.not_le, Decidable.not_not, beq_iff_eq, bne_iff_ne, ne_eq, beq_eq_false_iff_ne, WA.wd] at h916
                    refine o_pass rfl rfl rfl rfl rfl ?_
                    refine o_pass rfl rfl rfl rfl rfl ?_
                    refine o_T (y_pickT rfl rfl) rfl ?_
                    refine o_T (y_move rfl) rfl ?_
                    refine o_pass rfl rfl rfl rfl rfl ?_
                    refine o_pass rfl rfl rfl rfl rfl ?_
                    refine o_pass rfl rfl rfl rfl rfl ?_
                    refine o_pass rfl rfl rfl rfl rfl ?_
                    refine o_T (y_pickT rfl rfl) rfl ?_
                    refine o_nil1 64 rfl rfl ?_
                    refine c_condT rfl ?_
                    refine c_seq ?_
                    refine c_region ?_
                    refine o_L (y_assign rfl) rfl rfl ?_
                    refine o_nil0 rfl ?_
                    refine c_ret ?_
                    refine fun aX wX heX hsX => ret1 Tryz.results18 heX rfl (s_skip (s_take (s_take (s_take (s_take (s_take (s_take (s_take (s_take (s_take (s_take s_nil))))))))))) ?_
                    refine ⟨congrArg Value.bool ?_, rfl⟩
                    unfold foulB
                    first
                      | (exfalso; omega)
                      | (rw [if_pos (by omega)]; done)
                      | (rw [if_neg (by omega), if_pos (by omega)]; done)
                      | (rw [if_neg (by omega), if_neg (by omega), if_pos (by omega)]; done)
                      | (rw [if_neg (by omega), if_neg (by omega), if_neg (by omega), if_pos (by omega)]; unfold foulE; rw [Int.toNat_natCast, ho]; first | rfl | simp)
                      | (rw [if_neg (by omega), if_neg (by omega), if_neg (by omega), if_neg (by omega), if_pos (by omega)]; unfold foulC; first | (rw [if_pos (by omega)]; done) | (have eT := hT3 (by omega) (by omega); rw [if_neg (by omega), ← eT]; first | (rw [if_pos (by assumption)]; done) | (rw [if_pos (by simpa using ‹x.listensB oT.toNat ob = true›)]) | (rw [if_neg (by simp_all)]; done)))
                      | (rw [if_neg (by omega), if_neg (by omega), if_neg (by omega), if_neg (by omega), if_neg (by omega)]; done)
                  · try simp only [decide_eq_true_eq, decide_eq_false_iff_not, Bool.not_eq_true', Bool.not_eq_false', Int.not_lt, Int.not_le, Decidable.not_not, beq_iff_eq, bne_iff_ne, ne_eq, beq_eq_false_iff_ne, WA.wd] at h916
                    refine o_take rfl rfl rfl ?_
                    refine o_T (y_move rfl) rfl ?_
                    refine o_take rfl rfl rfl ?_
                    refine o_T (y_geq rfl rfl) rfl ?_
                    refine o_T (y_pickF rfl rfl) rfl ?_
                    refine o_T (y_move rfl) rfl ?_
                    refine o_split 59 rfl (fun h916_1 => ?_) (fun h916_1 => ?_)
                    · try simp only [decide_eq_true_eq, decide_eq_false_iff_not, Bool.not_eq_true', Bool.not_eq_false', Int.not_lt, Int.not_le, Decidable.not_not, beq_iff_eq, bne_iff_ne, ne_eq, beq_eq_false_iff_ne, WA.wd] at h916_1
                      refine o_pass rfl rfl rfl rfl rfl ?_
                      refine o_pass rfl rfl rfl rfl rfl ?_
                      refine o_pass rfl rfl rfl rfl rfl ?_
                      refine o_pass rfl rfl rfl rfl rfl ?_
                      refine o_T (y_pickT rfl rfl) rfl ?_
                      refine o_nil1 64 rfl rfl ?_
                      refine c_condT rfl ?_
                      refine c_seq ?_
                      refine c_region ?_
                      refine o_L (y_assign rfl) rfl rfl ?_
                      refine o_nil0 rfl ?_
                      refine c_ret ?_
                      refine fun aX wX heX hsX => ret1 Tryz.results18 heX rfl (s_skip (s_take (s_take (s_take (s_take (s_take (s_take (s_take (s_take (s_take (s_take s_nil))))))))))) ?_
                      refine ⟨congrArg Value.bool ?_, rfl⟩
                      unfold foulB
                      first
                        | (exfalso; omega)
                        | (rw [if_pos (by omega)]; done)
                        | (rw [if_neg (by omega), if_pos (by omega)]; done)
                        | (rw [if_neg (by omega), if_neg (by omega), if_pos (by omega)]; done)
                        | (rw [if_neg (by omega), if_neg (by omega), if_neg (by omega), if_pos (by omega)]; unfold foulE; rw [Int.toNat_natCast, ho]; first | rfl | simp)
                        | (rw [if_neg (by omega), if_neg (by omega), if_neg (by omega), if_neg (by omega), if_pos (by omega)]; unfold foulC; first | (rw [if_pos (by omega)]; done) | (have eT := hT3 (by omega) (by omega); rw [if_neg (by omega), ← eT]; first | (rw [if_pos (by assumption)]; done) | (rw [if_pos (by simpa using ‹x.listensB oT.toNat ob = true›)]) | (rw [if_neg (by simp_all)]; done)))
                        | (rw [if_neg (by omega), if_neg (by omega), if_neg (by omega), if_neg (by omega), if_neg (by omega)]; done)
                    · try simp only [decide_eq_true_eq, decide_eq_false_iff_not, Bool.not_eq_true', Bool.not_eq_false', Int.not_lt, Int.not_le, Decidable.not_not, beq_iff_eq, bne_iff_ne, ne_eq, beq_eq_false_iff_ne, WA.wd] at h916_1
                      refine o_take rfl rfl rfl ?_
                      refine o_T (y_move rfl) rfl ?_
                      refine o_take rfl rfl rfl ?_
                      refine o_T (y_fa fl_32_3 rfl) rfl ?_
                      refine o_take rfl rfl rfl ?_
                      refine o_ld one_3 rfl m0 Opn.g3 rfl ?_
                      refine o_take rfl rfl rfl ?_
                      refine o_T (y_eql rfl rfl) rfl ?_
                      refine o_T (y_pickF rfl rfl) rfl ?_
                      refine o_nil1 64 rfl rfl ?_
                      refine c_cond rfl (fun h916_2 => ?_) (fun h916_2 => ?_)
                      · try simp only [decide_eq_true_eq, decide_eq_false_iff_not, Bool.not_eq_true', Bool.not_eq_false', Int.not_lt, Int.not_le, Decidable.not_not, beq_iff_eq, bne_iff_ne, ne_eq, beq_eq_false_iff_ne, WA.wd] at h916_2
                        refine c_seq ?_
                        refine c_region ?_
                        refine o_L (y_assign rfl) rfl rfl ?_
                        refine o_nil0 rfl ?_
                        refine c_ret ?_
                        refine fun aX wX heX hsX => ret1 Tryz.results18 heX rfl (s_skip (s_take (s_take (s_take (s_take (s_take (s_take (s_take (s_take (s_take (s_take s_nil))))))))))) ?_
                        refine ⟨congrArg Value.bool ?_, rfl⟩
                        unfold foulB
                        first
                          | (exfalso; omega)
                          | (rw [if_pos (by omega)]; done)
                          | (rw [if_neg (by omega), if_pos (by omega)]; done)
                          | (rw [if_neg (by omega), if_neg (by omega), if_pos (by omega)]; done)
                          | (rw [if_neg (by omega), if_neg (by omega), if_neg (by omega), if_pos (by omega)]; unfold foulE; rw [Int.toNat_natCast, ho]; first | rfl | simp)
                          | (rw [if_neg (by omega), if_neg (by omega), if_neg (by omega), if_neg (by omega), if_pos (by omega)]; unfold foulC; first | (rw [if_pos (by omega)]; done) | (have eT := hT3 (by omega) (by omega); rw [if_neg (by omega), ← eT]; first | (rw [if_pos (by assumption)]; done) | (rw [if_pos (by simpa using ‹x.listensB oT.toNat ob = true›)]) | (rw [if_neg (by simp_all)]; done)))
                          | (rw [if_neg (by omega), if_neg (by omega), if_neg (by omega), if_neg (by omega), if_neg (by omega)]; done)
                      · try simp only [decide_eq_true_eq, decide_eq_false_iff_not, Bool.not_eq_true', Bool.not_eq_false', Int.not_lt, Int.not_le, Decidable.not_not, beq_iff_eq, bne_iff_ne, ne_eq, beq_eq_false_iff_ne, WA.wd] at h916_2
                        refine c_skip ?_
                        refine c_seq ?_
                        refine c_seq ?_
                        refine c_region ?_
                        refine o_T (y_move rfl) rfl ?_
                        refine o_T (y_move rfl) rfl ?_
                        refine o_T (y_fa fl_32_2 rfl) rfl ?_
                        refine o_ld one_3 rfl m0 Opn.g2 rfl ?_
                        refine o_call en_56 rfl (i56v A q x V _ _ oT (by omega) (by omega) ob W.h hb.ok W.s) (s_skip (s_take (s_take (s_skip (s_skip (s_skip (s_take s_nil))))))) rfl ?_
                        rintro v S' ⟨rfl, rfl⟩
                        refine o_T (y_not rfl) rfl ?_
                        refine o_nil1 70 rfl rfl ?_
                        refine c_cond rfl (fun h919 => ?_) (fun h919 => ?_)
                        · try simp only [decide_eq_true_eq, decide_eq_false_iff_not, Bool.not_eq_true', Bool.not_eq_false', Int.not_lt, Int.not_le, Decidable.not_not, beq_iff_eq, bne_iff_ne, ne_eq, beq_eq_false_iff_ne, WA.wd] at h919
                          refine c_seq ?_
                          refine c_region ?_
                          refine o_L (y_assign rfl) rfl rfl ?_
                          refine o_nil0 rfl ?_
                          refine c_ret ?_
                          refine fun aX wX heX hsX => ret1 Tryz.results18 heX rfl (s_get k0 (s_get k0 (s_get (ks (ks k0)) (s_get (ks (ks k0)) (s_get (ks (ks k0)) (s_get k0 (s_get (ks k0) (s_get (ks k0) (s_get (ks k0) (s_get (ks k0) s_nil)))))))))) ?_
                          refine ⟨congrArg Value.bool ?_, rfl⟩
                          unfold foulB
                          first
                            | (exfalso; omega)
                            | (rw [if_pos (by omega)]; done)
                            | (rw [if_neg (by omega), if_pos (by omega)]; done)
                            | (rw [if_neg (by omega), if_neg (by omega), if_pos (by omega)]; done)
                            | (rw [if_neg (by omega), if_neg (by omega), if_neg (by omega), if_pos (by omega)]; unfold foulE; rw [Int.toNat_natCast, ho]; first | rfl | simp)
                            | (rw [if_neg (by omega), if_neg (by omega), if_neg (by omega), if_neg (by omega), if_pos (by omega)]; unfold foulC; first | (rw [if_pos (by omega)]; done) | (have eT := hT3 (by omega) (by omega); rw [if_neg (by omega), ← eT]; first | (rw [if_pos (by assumption)]; done) | (rw [if_pos (by simpa using ‹x.listensB oT.toNat ob = true›)]) | (rw [if_neg (by simp_all)]; done)))
                            | (rw [if_neg (by omega), if_neg (by omega), if_neg (by omega), if_neg (by omega), if_neg (by omega)]; done)
                        · try simp only [decide_eq_true_eq, decide_eq_false_iff_not, Bool.not_eq_true', Bool.not_eq_false', Int.not_lt, Int.not_le, Decidable.not_not, beq_iff_eq, bne_iff_ne, ne_eq, beq_eq_false_iff_ne, WA.wd] at h919
                          refine c_skip ?_
                          refine c_seq ?_
                          refine c_region ?_
                          refine o_T (y_move rfl) rfl ?_
                          refine o_T (y_nilck rfl) rfl ?_
                          refine o_T (y_fa fl_53_6 rfl) rfl ?_
                          refine o_ld one_44 rfl m0 Wd.g30 rfl ?_
                          refine o_callrv en_57 rfl (i57 W.n) (s_skip (s_skip (s_skip (s_skip (s_skip (s_skip (s_take s_nil))))))) rfl ?_
                          refine o_T (y_not rfl) rfl ?_
                          refine o_L (y_assign rfl) rfl rfl ?_
                          refine o_nil0 rfl ?_
                          refine c_ret ?_
                          refine fun aX wX heX hsX => ret1 Tryz.results18 heX rfl (s_get k0 (s_get k0 (s_get (ks (ks k0)) (s_get (ks (ks k0)) (s_get (ks (ks k0)) (s_get k0 (s_get (ks k0) (s_get (ks k0) (s_get (ks k0) (s_get (ks k0) s_nil)))))))))) ?_
                          refine ⟨congrArg Value.bool ?_, rfl⟩
                          unfold foulB
                          first
                            | (exfalso; omega)
                            | (rw [if_pos (by omega)]; done)
                            | (rw [if_neg (by omega), if_pos (by omega)]; done)
                            | (rw [if_neg (by omega), if_neg (by omega), if_pos (by omega)]; done)
                            | (rw [if_neg (by omega), if_neg (by omega), if_neg (by omega), if_pos (by omega)]; unfold foulE; rw [Int.toNat_natCast, ho]; first | rfl | simp)
                            | (rw [if_neg (by omega), if_neg (by omega), if_neg (by omega), if_neg (by omega), if_pos (by omega)]; unfold foulC; first | (rw [if_pos (by omega)]; done) | (have eT := hT3 (by omega) (by omega); rw [if_neg (by omega), ← eT]; first | (rw [if_pos (by assumption)]; done) | (rw [if_pos (by simpa using ‹x.listensB oT.toNat ob = true›)]) | (rw [if_neg (by simp_all)]; done)))
                            | (rw [if_neg (by omega), if_neg (by omega), if_neg (by omega), if_neg (by omega), if_neg (by omega)]; done)
                · try simp only [decide_eq_true_eq, decide_eq_false_iff_not, Bool.not_eq_true', Bool.not_eq_false', Int.not_lt, Int.not_le, Decidable.not_not, beq_iff_eq, bne_iff_ne, ne_eq, beq_eq_false_iff_ne, WA.wd] at h914
                  refine c_skip ?_
                  refine c_seq ?_
                  refine c_region ?_
                  refine o_L (y_assign rfl) rfl rfl ?_
                  refine o_nil0 rfl ?_
                  refine c_ret ?_
                  refine fun aX wX heX hsX => ret1 Tryz.results18 heX rfl (s_skip (s_take (s_take (s_take (s_take (s_take (s_take (s_take (s_take (s_take (s_take s_nil))))))))))) ?_
                  refine ⟨congrArg Value.bool ?_, rfl⟩
                  unfold foulB
                  first
                    | (exfalso; omega)
                    | (rw [if_pos (by omega)]; done)
                    | (rw [if_neg (by omega), if_pos (by omega)]; done)
                    | (rw [if_neg (by omega), if_neg (by omega), if_pos (by omega)]; done)
                    | (rw [if_neg (by omega), if_neg (by omega), if_neg (by omega), if_pos (by omega)]; unfold foulE; rw [Int.toNat_natCast, ho]; first | rfl | simp)
                    | (rw [if_neg (by omega), if_neg (by omega), if_neg (by omega), if_neg (by omega), if_pos (by omega)]; unfold foulC; first | (rw [if_pos (by omega)]; done) | (have eT := hT3 (by omega) (by omega); rw [if_neg (by omega), ← eT]; first | (rw [if_pos (by assumption)]; done) | (rw [if_pos (by simpa using ‹x.listensB oT.toNat ob = true›)]) | (rw [if_neg (by simp_all)]; done)))
                    | (rw [if_neg (by omega), if_neg (by omega), if_neg (by omega), if_neg (by omega), if_neg (by omega)]; done)
    · try simp only [decide_eq_true_eq, decide_eq_false_iff_not, Bool.not_eq_true', Bool.not_eq_false', Int.not_lt, Int.not_le, Decidable.not_not, beq_iff_eq, bne_iff_ne, ne_eq, beq_eq_false_iff_ne, WA.wd] at h902_1
      refine c_seq ?_
      refine c_region ?_
      refine o_T (y_eql rfl rfl) rfl ?_
      refine o_L (y_assign rfl) rfl rfl ?_
      refine o_nil0 rfl ?_
      refine c_cond rfl (fun h902_2 => ?_) (fun h902_2 => ?_)
      · try simp only [decide_eq_true_eq, decide_eq_false_iff_not, Bool.not_eq_true', Bool.not_eq_false', Int.not_lt, Int.not_le, Decidable.not_not, beq_iff_eq, bne_iff_ne, ne_eq, beq_eq_false_iff_ne, WA.wd] at h902_2
        refine c_skip ?_
        refine c_cond rfl (fun h902_3 => ?_) (fun h902_3 => ?_)
        · try simp only [decide_eq_true_eq, decide_eq_false_iff_not, Bool.not_eq_true', Bool.not_eq_false', Int.not_lt, Int.not_le, Decidable.not_not, beq_iff_eq, bne_iff_ne, ne_eq, beq_eq_false_iff_ne, WA.wd] at h902_3
          refine c_seq ?_
          refine c_region ?_
          refine o_L (y_assign rfl) rfl rfl ?_
          refine o_nil0 rfl ?_
          refine c_ret ?_
          refine fun aX wX heX hsX => ret1 Tryz.results18 heX rfl (s_skip (s_take (s_take (s_take (s_take (s_take (s_take (s_take (s_take (s_take (s_take s_nil))))))))))) ?_
          refine ⟨congrArg Value.bool ?_, rfl⟩
          unfold foulB
          first
            | (exfalso; omega)
            | (rw [if_pos (by omega)]; done)
            | (rw [if_neg (by omega), if_pos (by omega)]; done)
            | (rw [if_neg (by omega), if_neg (by omega), if_pos (by omega)]; done)
            | (rw [if_neg (by omega), if_neg (by omega), if_neg (by omega), if_pos (by omega)]; unfold foulE; rw [Int.toNat_natCast, ho]; first | rfl | simp)
            | (rw [if_neg (by omega), if_neg (by omega), if_neg (by omega), if_neg (by omega), if_pos (by omega)]; unfold foulC; first | (rw [if_pos (by omega)]; done) | (have eT := hT3 (by omega) (by omega); rw [if_neg (by omega), ← eT]; first | (rw [if_pos (by assumption)]; done) | (rw [if_pos (by simpa using ‹x.listensB oT.toNat ob = true›)]) | (rw [if_neg (by simp_all)]; done)))
            | (rw [if_neg (by omega), if_neg (by omega), if_neg (by omega), if_neg (by omega), if_neg (by omega)]; done)
        · try simp only [decide_eq_true_eq, decide_eq_false_iff_not, Bool.not_eq_true', Bool.not_eq_false', Int.not_lt, Int.not_le, Decidable.not_not, beq_iff_eq, bne_iff_ne, ne_eq, beq_eq_false_iff_ne, WA.wd] at h902_3
          refine c_skip ?_
          refine c_seq ?_
          refine c_seq ?_
          refine c_region ?_
          refine o_T (y_fa fl_32_3 rfl) rfl ?_
          refine o_ld one_3 rfl m0 Opn.g3 rfl ?_
          refine o_T (y_lss rfl rfl) rfl ?_
          refine o_T (y_move rfl) rfl ?_
          refine o_split 18 rfl (fun h905 => ?_) (fun h905 => ?_)
          · try simp only [decide_eq_true_eq, decide_eq_false_iff_not, Bool.not_eq_true', Bool.not_eq_false', Int.not_lt, Int.not_le, Decidable.not_not, beq_iff_eq, bne_iff_ne, ne_eq, beq_eq_false_iff_ne, WA.wd] at h905
            refine o_pass rfl rfl rfl rfl rfl ?_
            refine o_pass rfl rfl rfl rfl rfl ?_
            refine o_pass rfl rfl rfl rfl rfl ?_
            refine o_T (y_pickT rfl rfl) rfl ?_
            refine o_nil1 22 rfl rfl ?_
            refine c_condT rfl ?_
            refine c_seq ?_
            refine c_region ?_
            refine o_L (y_assign rfl) rfl rfl ?_
            refine o_nil0 rfl ?_
            refine c_ret ?_
            refine fun aX wX heX hsX => ret1 Tryz.results18 heX rfl (s_skip (s_take (s_take (s_take (s_take (s_take (s_take (s_take (s_take (s_take (s_take s_nil))))))))))) ?_
            refine ⟨congrArg Value.bool ?_, rfl⟩
            unfold foulB
            first
              | (exfalso; omega)
              | (rw [if_pos (by omega)]; done)
              | (rw [if_neg (by omega), if_pos (by omega)]; done)
              | (rw [if_neg (by omega), if_neg (by omega), if_pos (by omega)]; done)
              | (rw [if_neg (by omega), if_neg (by omega), if_neg (by omega), if_pos (by omega)]; unfold foulE; rw [Int.toNat_natCast, ho]; first | rfl | simp)
              | (rw [if_neg (by omega), if_neg (by omega), if_neg (by omega), if_neg (by omega), if_pos (by omega)]; unfold foulC; first | (rw [if_pos (by omega)]; done) | (have eT := hT3 (by omega) (by omega); rw [if_neg (by omega), ← eT]; first | (rw [if_pos (by assumption)]; done) | (rw [if_pos (by simpa using ‹x.listensB oT.toNat ob = true›)]) | (rw [if_neg (by simp_all)]; done)))
              | (rw [if_neg (by omega), if_neg (by omega), if_neg (by omega), if_neg (by omega), if_neg (by omega)]; done)
          · try simp only [decide_eq_true_eq, decide_eq_false_iff_not, Bool.not_eq_true', Bool.not_eq_false', Int.not_lt, Int.not_le, Decidable.not_not, beq_iff_eq, bne_iff_ne, ne_eq, beq_eq_false_iff_ne, WA.wd] at h905
            refine o_take rfl rfl rfl ?_
            refine o_T (y_fa fl_32_3 rfl) rfl ?_
            refine o_take rfl rfl rfl ?_
            refine o_ld one_3 rfl m0 Opn.g3 rfl ?_
            refine o_take rfl rfl rfl ?_
            refine o_T (y_geq rfl rfl) rfl ?_
            refine o_T (y_pickF rfl rfl) rfl ?_
            refine o_nil1 22 rfl rfl ?_
            refine c_cond rfl (fun h905_1 => ?_) (fun h905_1 => ?_)
            · try simp only [decide_eq_true_eq, decide_eq_false_iff_not, Bool.not_eq_true', Bool.not_eq_false', Int.not_lt, Int.not_le, Decidable.not_not, beq_iff_eq, bne_iff_ne, ne_eq, beq_eq_false_iff_ne, WA.wd] at h905_1
              refine c_seq ?_
              refine c_region ?_
              refine o_L (y_assign rfl) rfl rfl ?_
              refine o_nil0 rfl ?_
              refine c_ret ?_
              refine fun aX wX heX hsX => ret1 Tryz.results18 heX rfl (s_skip (s_take (s_take (s_take (s_take (s_take (s_take (s_take (s_take (s_take (s_take s_nil))))))))))) ?_
              refine ⟨congrArg Value.bool ?_, rfl⟩
              unfold foulB
              first
                | (exfalso; omega)
                | (rw [if_pos (by omega)]; done)
                | (rw [if_neg (by omega), if_pos (by omega)]; done)
                | (rw [if_neg (by omega), if_neg (by omega), if_pos (by omega)]; done)
                | (rw [if_neg (by omega), if_neg (by omega), if_neg (by omega), if_pos (by omega)]; unfold foulE; rw [Int.toNat_natCast, ho]; first | rfl | simp)
                | (rw [if_neg (by omega), if_neg (by omega), if_neg (by omega), if_neg (by omega), if_pos (by omega)]; unfold foulC; first | (rw [if_pos (by omega)]; done) | (have eT := hT3 (by omega) (by omega); rw [if_neg (by omega), ← eT]; first | (rw [if_pos (by assumption)]; done) | (rw [if_pos (by simpa using ‹x.listensB oT.toNat ob = true›)]) | (rw [if_neg (by simp_all)]; done)))
                | (rw [if_neg (by omega), if_neg (by omega), if_neg (by omega), if_neg (by omega), if_neg (by omega)]; done)
            · try simp only [decide_eq_true_eq, decide_eq_false_iff_not, Bool.not_eq_true', Bool.not_eq_false', Int.not_lt, Int.not_le, Decidable.not_not, beq_iff_eq, bne_iff_ne, ne_eq, beq_eq_false_iff_ne, WA.wd] at h905_1
              refine c_skip ?_
              refine c_seq ?_
              refine c_seq ?_
              obtain ⟨c, rfl⟩ : ∃ c : Nat, oc = (c : Int) := ⟨oc.toNat, by omega⟩
              have c3 : c < 3 := by omega
              have ho := ho
              rw [Int.toNat_natCast] at ho
              refine c_region ?_
              refine o_T (y_fa fl_32_0 rfl) rfl ?_
              refine o_ld one_3 rfl m0 Opn.g0 rfl ?_
              refine o_nil1 24 rfl rfl ?_
              refine c_block ?_
              refine c_seq ?_
              refine c_region ?_
              refine o_T (y_eql rfl rfl) rfl ?_
              refine o_L (y_assign rfl) rfl rfl ?_
              refine o_nil0 rfl ?_
              refine c_cond rfl (fun h909 => ?_) (fun h909 => ?_)
              · try simp only [decide_eq_true_eq, decide_eq_false_iff_not, Bool.not_eq_true', Bool.not_eq_false', Int.not_lt, Int.not_le, Decidable.not_not, beq_iff_eq, bne_iff_ne, ne_eq, beq_eq_false_iff_ne, WA.wd] at h909
                refine c_seq ?_
                refine c_region ?_
                refine o_L (y_assign rfl) rfl rfl ?_
                refine o_nil0 rfl ?_
                refine c_ret ?_
                refine fun aX wX heX hsX => ret1 Tryz.results18 heX rfl (s_skip (s_take (s_take (s_take (s_take (s_take (s_take (s_take (s_take (s_take (s_take s_nil))))))))))) ?_
                refine ⟨congrArg Value.bool ?_, rfl⟩
                unfold foulB
                first
                  | (exfalso; omega)
                  | (rw [if_pos (by omega)]; done)
                  | (rw [if_neg (by omega), if_pos (by omega)]; done)
                  | (rw [if_neg (by omega), if_neg (by omega), if_pos (by omega)]; done)
                  | (rw [if_neg (by omega), if_neg (by omega), if_neg (by omega), if_pos (by omega)]; unfold foulE; rw [Int.toNat_natCast, ho]; first | rfl | simp)
                  | (rw [if_neg (by omega), if_neg (by omega), if_neg (by omega), if_neg (by omega), if_pos (by omega)]; unfold foulC; first | (rw [if_pos (by omega)]; done) | (have eT := hT3 (by omega) (by omega); rw [if_neg (by omega), ← eT]; first | (rw [if_pos (by assumption)]; done) | (rw [if_pos (by simpa using ‹x.listensB oT.toNat ob = true›)]) | (rw [if_neg (by simp_all)]; done)))
                  | (rw [if_neg (by omega), if_neg (by omega), if_neg (by omega), if_neg (by omega), if_neg (by omega)]; done)
              · try simp only [decide_eq_true_eq, decide_eq_false_iff_not, Bool.not_eq_true', Bool.not_eq_false', Int.not_lt, Int.not_le, Decidable.not_not, beq_iff_eq, bne_iff_ne, ne_eq, beq_eq_false_iff_ne, WA.wd] at h909
                refine c_seq ?_
                refine c_region ?_
                refine o_T (y_eql rfl rfl) rfl ?_
                refine o_L (y_assign rfl) rfl rfl ?_
                refine o_nil0 rfl ?_
                refine c_cond rfl (fun h911 => ?_) (fun h911 => ?_)
                · try simp only [decide_eq_true_eq, decide_eq_false_iff_not, Bool.not_eq_true', Bool.not_eq_false', Int.not_lt, Int.not_le, Decidable.not_not, beq_iff_eq, bne_iff_ne, ne_eq, beq_eq_false_iff_ne, WA.wd] at h911
                  refine c_seq ?_
                  refine c_region ?_
                  refine o_T (y_move rfl) rfl ?_
                  refine o_T (y_fa fl_32_3 rfl) rfl ?_
                  refine o_ld one_3 rfl m0 Opn.g3 rfl ?_
                  refine o_T (y_fa fl_32_1 rfl) rfl ?_
                  refine o_ld one_3 rfl m0 Opn.g1 rfl ?_
                  refine o_call en_55 rfl (t55b _ _ _ _ _ _ c3 _ W.h hb.ok true ho) (s_skip (s_take (s_take s_nil))) rfl ?_
                  rintro v S' ⟨pc_3, gc_3, rfl, hi_3, rfl⟩
                  refine o_T (y_move rfl) rfl ?_
                  refine o_T (y_extract rfl rfl) rfl ?_
                  refine o_T (y_extract rfl rfl) rfl ?_
                  refine o_alloc ze_69 rfl rfl (fun b_4 => ?_)
                  refine o_sta ag_69 rfl rfl (si_plain hi_3) rfl r0 (setAll_full _ _ rfl) (of_ble rfl) ?_
                  refine o_L (y_assign rfl) rfl rfl ?_
                  refine o_nil0 rfl ?_
                  refine c_seq ?_
                  have he0 := ours_err ho
                  obtain ⟨bi_3, hpcbi_3, hgcbi_3⟩ := InfG.ok hi_3 he0
                  subst hpcbi_3 hgcbi_3
                  refine c_region ?_
                  refine o_T (y_move rfl) rfl ?_
                  refine o_T (y_not rfl) rfl ?_
                  refine o_T (y_move rfl) rfl ?_
                  refine o_take rfl rfl rfl ?_
                  refine o_T (y_fa fl_69_1 rfl) rfl ?_
                  refine o_take rfl rfl rfl ?_
                  refine o_ld one_67 rfl m0 Si.g8 rfl ?_
                  refine o_take rfl rfl rfl ?_
                  refine o_T (y_nilck rfl) rfl ?_
                  refine o_take rfl rfl rfl ?_
                  refine o_T (y_fa fl_95_0 rfl) rfl ?_
                  refine o_take rfl rfl rfl ?_
                  refine o_ld one_3 rfl (ms m0) Ci.g0 rfl ?_
                  refine o_take rfl rfl rfl ?_
                  refine o_T (y_neq rfl rfl) rfl ?_
                  refine o_T (y_pickF rfl rfl) rfl ?_
                  refine o_L (y_assign rfl) rfl rfl ?_
                  refine o_nil0 rfl ?_
                  refine c_ret ?_
                  refine fun aX wX heX hsX => ret1 Tryz.results18 heX rfl (s_skip (s_skip (s_take (s_take (s_skip (s_take (s_take (s_take (s_take (s_take (s_take (s_take (s_take s_nil))))))))))))) ?_
                  refine ⟨congrArg Value.bool ?_, rfl⟩
                  unfold foulB
                  first
                    | (exfalso; omega)
                    | (rw [if_pos (by omega)]; done)
                    | (rw [if_neg (by omega), if_pos (by omega)]; done)
                    | (rw [if_neg (by omega), if_neg (by omega), if_pos (by omega)]; done)
                    | (rw [if_neg (by omega), if_neg (by omega), if_neg (by omega), if_pos (by omega)]; unfold foulE; rw [Int.toNat_natCast, ho]; first | rfl | simp)
                    | (rw [if_neg (by omega), if_neg (by omega), if_neg (by omega), if_neg (by omega), if_pos (by omega)]; unfold foulC; first | (rw [if_pos (by omega)]; done) | (have eT := hT3 (by omega) (by omega); rw [if_neg (by omega), ← eT]; first | (rw [if_pos (by assumption)]; done) | (rw [if_pos (by simpa using ‹x.listensB oT.toNat ob = true›)]) | (rw [if_neg (by simp_all)]; done)))
                    | (rw [if_neg (by omega), if_neg (by omega), if_neg (by omega), if_neg (by omega), if_neg (by omega)]; done)
                · try simp only [decide_eq_true_eq, decide_eq_false_iff_not, Bool.not_eq_true', Bool.not_eq_false', Int.not_lt, Int.not_le, Decidable.not_not, beq_iff_eq, bne_iff_ne, ne_eq, beq_eq_false_iff_ne, WA.wd] at h911
                  refine c_seq ?_
                  refine c_region ?_
                  refine o_T (y_eql rfl rfl) rfl ?_
                  refine o_L (y_assign rfl) rfl rfl ?_
                  refine o_nil0 rfl ?_
                  refine c_cond rfl (fun h914 => ?_) (fun h914 => ?_)
                  · try simp only [decide_eq_true_eq, decide_eq_false_iff_not, Bool.not_eq_true', Bool.not_eq_false', Int.not_lt, Int.not_le, Decidable.not_not, beq_iff_eq, bne_iff_ne, ne_eq, beq_eq_false_iff_ne, WA.wd] at h914
                    refine c_seq ?_
                    refine c_region ?_
                    refine o_T (y_fa fl_32_1 rfl) rfl ?_
                    refine o_ld one_3 rfl m0 Opn.g1 rfl ?_
                    refine o_T (y_sub rfl rfl hT) rfl ?_
                    refine o_L (y_assign rfl) rfl rfl ?_
                    refine o_nil0 rfl ?_
                    refine c_seq ?_
                    refine c_seq ?_
                    refine c_region ?_
                    refine o_T (y_move rfl) rfl ?_
                    refine o_T (y_lss rfl rfl) rfl ?_
                    refine o_T (y_move rfl) rfl ?_
                    refine o_split 55 rfl (fun h916 => ?_) (fun h916 => ?_)
                    · try simp only [decide_eq_true_eq, decide_eq_false_iff_not, Bool.not_eq_true', Bool.not_eq_false', Int.not_lt, Int.not_le, Decidable.not_not, beq_iff_eq, bne_iff_ne, ne_eq, beq_eq_false_iff_ne, WA.wd] at h916
                      refine o_pass rfl rfl rfl rfl rfl ?_
                      refine o_pass rfl rfl rfl rfl rfl ?_
                      refine o_T (y_pickT rfl rfl) rfl ?_
                      refine o_T (y_move rfl) rfl ?_
                      refine o_pass rfl rfl rfl rfl rfl ?_
                      refine o_pass rfl rfl rfl rfl rfl ?_
                      refine o_pass rfl rfl rfl rfl rfl ?_
                      refine o_pass rfl rfl rfl rfl rfl ?_
                      refine o_T (y_pickT rfl rfl) rfl ?_
                      refine o_nil1 64 rfl rfl ?_
                      refine c_condT rfl ?_
                      refine c_seq ?_
                      refine c_region ?_
                      refine o_L (y_assign rfl) rfl rfl ?_
                      refine o_nil0 rfl ?_
                      refine c_ret ?_
                      refine fun aX wX heX hsX => ret1 Tryz.results18 heX rfl (s_skip (s_take (s_take (s_take (s_take (s_take (s_take (s_take (s_take (s_take (s_take s_nil))))))))))) ?_
                      refine ⟨congrArg Value.bool ?_, rfl⟩
                      unfold foulB
                      first
                        | (exfalso; omega)
                        | (rw [if_pos (by omega)]; done)
                        | (rw [if_neg (by omega), if_pos (by omega)]; done)
                        | (rw [if_neg (by omega), if_neg (by omega), if_pos (by omega)]; done)
                        | (rw [if_neg (by omega), if_neg (by omega), if_neg (by omega), if_pos (by omega)]; unfold foulE; rw [Int.toNat_natCast, ho]; first | rfl | simp)
                        | (rw [if_neg (by omega), if_neg (by omega), if_neg (by omega), if_neg (by omega), if_pos (by omega)]; unfold foulC; first | (rw [if_pos (by omega)]; done) | (have eT := hT3 (by omega) (by omega); rw [if_neg (by omega), ← eT]; first | (rw [if_pos (by assumption)]; done) | (rw [if_pos (by simpa using ‹x.listensB oT.toNat ob = true›)]) | (rw [if_neg (by simp_all)]; done)))
                        | (rw [if_neg (by omega), if_neg (by omega), if_neg (by omega), if_neg (by omega), if_neg (by omega)]; done)
                    · try simp only [decide_eq_true_eq, decide_eq_false_iff_not, Bool.not_eq_true', Bool.not_eq_false', Int.not_lt, Int.not_le, Decidable.not_not, beq_iff_eq, bne_iff_ne, ne_eq, beq_eq_false_iff_ne, WA.wd] at h916
                      refine o_take rfl rfl rfl ?_
                      refine o_T (y_move rfl) rfl ?_
                      refine o_take rfl rfl rfl ?_
                      refine o_T (y_geq rfl rfl) rfl ?_
                      refine o_T (y_pickF rfl rfl) rfl ?_
                      refine o_T (y_move rfl) rfl ?_
                      refine o_split 59 rfl (fun h916_1 => ?_) (fun h916_1 => ?_)
                      · try simp only [decide_eq_true_eq, decide_eq_false_iff_not, Bool.not_eq_true', Bool.not_eq_false', Int.not_lt, Int.not_le, Decidable.not_not, beq_iff_eq, bne_iff_ne, ne_eq, beq_eq_false_iff_ne, WA.wd] at h916_1
                        refine o_pass rfl rfl rfl rfl rfl ?_
                        refine o_pass rfl rfl rfl rfl rfl ?_
                        refine o_pass rfl rfl rfl rfl rfl ?_
                        refine o_pass rfl rfl rfl rfl rfl ?_
                        refine o_T (y_pickT rfl rfl) rfl ?_
                        refine o_nil1 64 rfl rfl ?_
                        refine c_condT rfl ?_
                        refine c_seq ?_
                        refine c_region ?_
                        refine o_L (y_assign rfl) rfl rfl ?_
                        refine o_nil0 rfl ?_
                        refine c_ret ?_
                        refine fun aX wX heX hsX => ret1 Tryz.results18 heX rfl (s_skip (s_take (s_take (s_take (s_take (s_take (s_take (s_take (s_take (s_take (s_take s_nil))))))))))) ?_
                        refine ⟨congrArg Value.bool ?_, rfl⟩
                        unfold foulB
                        first
                          | (exfalso; omega)
                          | (rw [if_pos (by omega)]; done)
                          | (rw [if_neg (by omega), if_pos (by omega)]; done)
                          | (rw [if_neg (by omega), if_neg (by omega), if_pos (by omega)]; done)
                          | (rw [if_neg (by omega), if_neg (by omega), if_neg (by omega), if_pos (by omega)]; unfold foulE; rw [Int.toNat_natCast, ho]; first | rfl | simp)
                          | (rw [if_neg (by omega), if_neg (by omega), if_neg (by omega), if_neg (by omega), if_pos (by omega)]; unfold foulC; first | (rw [if_pos (by omega)]; done) | (have eT := hT3 (by omega) (by omega); rw [if_neg (by omega), ← eT]; first | (rw [if_pos (by assumption)]; done) | (rw [if_pos (by simpa using ‹x.listensB oT.toNat ob = true›)]) | (rw [if_neg (by simp_all)]; done)))
                          | (rw [if_neg (by omega), if_neg (by omega), if_neg (by omega), if_neg (by omega), if_neg (by omega)]; done)
                      · try simp only [decide_eq_true_eq, decide_eq_false_iff_not, Bool.not_eq_true', Bool.not_eq_false', Int.not_lt, Int.not_le, Decidable.not_not, beq_iff_eq, bne_iff_ne, ne_eq, beq_eq_false_iff_ne, WA.wd] at h916_1
                        refine o_take rfl rfl rfl ?_
                        refine o_T (y_move rfl) rfl ?_
                        refine o_take rfl rfl rfl ?_
                        refine o_T (y_fa fl_32_3 rfl) rfl ?_
                        refine o_take rfl rfl rfl ?_
                        refine o_ld one_3 rfl m0 Opn.g3 rfl ?_
                        refine o_take rfl rfl rfl ?_
                        refine o_T (y_eql rfl rfl) rfl ?_
                        refine o_T (y_pickF rfl rfl) rfl ?_
                        refine o_nil1 64 rfl rfl ?_
                        refine c_cond rfl (fun h916_2 => ?_) (fun h916_2 => ?_)
                        · try simp only [decide_eq_true_eq, decide_eq_false_iff_not, Bool.not_eq_true', Bool.not_eq_false', Int.not_lt, Int.not_le, Decidable.not_not, beq_iff_eq, bne_iff_ne, ne_eq, beq_eq_false_iff_ne, WA.wd] at h916_2
                          refine c_seq ?_
                          refine c_region ?_
                          refine o_L (y_assign rfl) rfl rfl ?_
                          refine o_nil0 rfl ?_
                          refine c_ret ?_
                          refine fun aX wX heX hsX => ret1 Tryz.results18 heX rfl (s_skip (s_take (s_take (s_take (s_take (s_take (s_take (s_take (s_take (s_take (s_take s_nil))))))))))) ?_
                          refine ⟨congrArg Value.bool ?_, rfl⟩
                          unfold foulB
                          first
                            | (exfalso; omega)
                            | (rw [if_pos (by omega)]; done)
                            | (rw [if_neg (by omega), if_pos (by omega)]; done)
                            | (rw [if_neg (by omega), if_neg (by omega), if_pos (by omega)]; done)
                            | (rw [if_neg (by omega), if_neg (by omega), if_neg (by omega), if_pos (by omega)]; unfold foulE; rw [Int.toNat_natCast, ho]; first | rfl | simp)
                            | (rw [if_neg (by omega), if_neg (by omega), if_neg (by omega), if_neg (by omega), if_pos (by omega)]; unfold foulC; first | (rw [if_pos (by omega)]; done) | (have eT := hT3 (by omega) (by omega); rw [if_neg (by omega), ← eT]; first | (rw [if_pos (by assumption)]; done) | (rw [if_pos (by simpa using ‹x.listensB oT.toNat ob = true›)]) | (rw [if_neg (by simp_all)]; done)))
                            | (rw [if_neg (by omega), if_neg (by omega), if_neg (by omega), if_neg (by omega), if_neg (by omega)]; done)
                        · try simp only [decide_eq_true_eq, decide_eq_false_iff_not, Bool.not_eq_true', Bool.not_eq_false', Int.not_lt, Int.not_le, Decidable.not_not, beq_iff_eq, bne_iff_ne, ne_eq, beq_eq_false_iff_ne, WA.wd] at h916_2
                          refine c_skip ?_
                          refine c_seq ?_
                          refine c_seq ?_
                          refine c_region ?_
                          refine o_T (y_move rfl) rfl ?_
                          refine o_T (y_move rfl) rfl ?_
                          refine o_T (y_fa fl_32_2 rfl) rfl ?_
                          refine o_ld one_3 rfl m0 Opn.g2 rfl ?_
                          refine o_call en_56 rfl (i56v A q x V _ _ oT (by omega) (by omega) ob W.h hb.ok W.s) (s_skip (s_take (s_take (s_skip (s_skip (s_skip (s_take s_nil))))))) rfl ?_
                          rintro v S' ⟨rfl, rfl⟩
                          refine o_T (y_not rfl) rfl ?_
                          refine o_nil1 70 rfl rfl ?_
                          refine c_cond rfl (fun h919 => ?_) (fun h919 => ?_)
                          · try simp only [decide_eq_true_eq, decide_eq_false_iff_not, Bool.not_eq_true', Bool.not_eq_false', Int.not_lt, Int.not_le, Decidable.not_not, beq_iff_eq, bne_iff_ne, ne_eq, beq_eq_false_iff_ne, WA.wd] at h919
                            refine c_seq ?_
                            refine c_region ?_
                            refine o_L (y_assign rfl) rfl rfl ?_
                            refine o_nil0 rfl ?_
                            refine c_ret ?_
                            refine fun aX wX heX hsX => ret1 Tryz.results18 heX rfl (s_get k0 (s_get k0 (s_get (ks (ks k0)) (s_get (ks (ks k0)) (s_get (ks (ks k0)) (s_get k0 (s_get (ks k0) (s_get (ks k0) (s_get (ks k0) (s_get (ks k0) s_nil)))))))))) ?_
                            refine ⟨congrArg Value.bool ?_, rfl⟩
                            unfold foulB
                            first
                              | (exfalso; omega)
                              | (rw [if_pos (by omega)]; done)
                              | (rw [if_neg (by omega), if_pos (by omega)]; done)
                              | (rw [if_neg (by omega), if_neg (by omega), if_pos (by omega)]; done)
                              | (rw [if_neg (by omega), if_neg (by omega), if_neg (by omega), if_pos (by omega)]; unfold foulE; rw [Int.toNat_natCast, ho]; first | rfl | simp)
                              | (rw [if_neg (by omega), if_neg (by omega), if_neg (by omega), if_neg (by omega), if_pos (by omega)]; unfold foulC; first | (rw [if_pos (by omega)]; done) | (have eT := hT3 (by omega) (by omega); rw [if_neg (by omega), ← eT]; first | (rw [if_pos (by assumption)]; done) | (rw [if_pos (by simpa using ‹x.listensB oT.toNat ob = true›)]) | (rw [if_neg (by simp_all)]; done)))
                              | (rw [if_neg (by omega), if_neg (by omega), if_neg (by omega), if_neg (by omega), if_neg (by omega)]; done)
                          · try simp only [decide_eq_true_eq, decide_eq_false_iff_not, Bool.not_eq_true', Bool.not_eq_false', Int.not_lt, Int.not_le, Decidable.not_not, beq_iff_eq, bne_iff_ne, ne_eq, beq_eq_false_iff_ne, WA.wd] at h919
                            refine c_skip ?_
                            refine c_seq ?_
                            refine c_region ?_
                            refine o_T (y_move rfl) rfl ?_
                            refine o_T (y_nilck rfl) rfl ?_
                            refine o_T (y_fa fl_53_6 rfl) rfl ?_
                            refine o_ld one_44 rfl m0 Wd.g30 rfl ?_
                            refine o_callrv en_57 rfl (i57 W.n) (s_skip (s_skip (s_skip (s_skip (s_skip (s_skip (s_take s_nil))))))) rfl ?_
                            refine o_T (y_not rfl) rfl ?_
                            refine o_L (y_assign rfl) rfl rfl ?_
                            refine o_nil0 rfl ?_
                            refine c_ret ?_
                            refine fun aX wX heX hsX => ret1 Tryz.results18 heX rfl (s_get k0 (s_get k0 (s_get (ks (ks k0)) (s_get (ks (ks k0)) (s_get (ks (ks k0)) (s_get k0 (s_get (ks k0) (s_get (ks k0) (s_get (ks k0) (s_get (ks k0) s_nil)))))))))) ?_
                            refine ⟨congrArg Value.bool ?_, rfl⟩
                            unfold foulB
                            first
                              | (exfalso; omega)
                              | (rw [if_pos (by omega)]; done)
                              | (rw [if_neg (by omega), if_pos (by omega)]; done)
                              | (rw [if_neg (by omega), if_neg (by omega), if_pos (by omega)]; done)
                              | (rw [if_neg (by omega), if_neg (by omega), if_neg (by omega), if_pos (by omega)]; unfold foulE; rw [Int.toNat_natCast, ho]; first | rfl | simp)
                              | (rw [if_neg (by omega), if_neg (by omega), if_neg (by omega), if_neg (by omega), if_pos (by omega)]; unfold foulC; first | (rw [if_pos (by omega)]; done) | (have eT := hT3 (by omega) (by omega); rw [if_neg (by omega), ← eT]; first | (rw [if_pos (by assumption)]; done) | (rw [if_pos (by simpa using ‹x.listensB oT.toNat ob = true›)]) | (rw [if_neg (by simp_all)]; done)))
                              | (rw [if_neg (by omega), if_neg (by omega), if_neg (by omega), if_neg (by omega), if_neg (by omega)]; done)
                  · try simp only [decide_eq_true_eq, decide_eq_false_iff_not, Bool.not_eq_true', Bool.not_eq_false', Int.not_lt, Int.not_le, Decidable.not_not, beq_iff_eq, bne_iff_ne, ne_eq, beq_eq_false_iff_ne, WA.wd] at h914
                    refine c_skip ?_
                    refine c_seq ?_
                    refine c_region ?_
                    refine o_L (y_assign rfl) rfl rfl ?_
                    refine o_nil0 rfl ?_
                    refine c_ret ?_
                    refine fun aX wX heX hsX => ret1 Tryz.results18 heX rfl (s_skip (s_take (s_take (s_take (s_take (s_take (s_take (s_take (s_take (s_take (s_take s_nil))))))))))) ?_
                    refine ⟨congrArg Value.bool ?_, rfl⟩
                    unfold foulB
                    first
                      | (exfalso; omega)
                      | (rw [if_pos (by omega)]; done)
                      | (rw [if_neg (by omega), if_pos (by omega)]; done)
                      | (rw [if_neg (by omega), if_neg (by omega), if_pos (by omega)]; done)
                      | (rw [if_neg (by omega), if_neg (by omega), if_neg (by omega), if_pos (by omega)]; unfold foulE; rw [Int.toNat_natCast, ho]; first | rfl | simp)
                      | (rw [if_neg (by omega), if_neg (by omega), if_neg (by omega), if_neg (by omega), if_pos (by omega)]; unfold foulC; first | (rw [if_pos (by omega)]; done) | (have eT := hT3 (by omega) (by omega); rw [if_neg (by omega), ← eT]; first | (rw [if_pos (by assumption)]; done) | (rw [if_pos (by simpa using ‹x.listensB oT.toNat ob = true›)]) | (rw [if_neg (by simp_all)]; done)))
                      | (rw [if_neg (by omega), if_neg (by omega), if_neg (by omega), if_neg (by omega), if_neg (by omega)]; done)
      · try simp only [decide_eq_true_eq, decide_eq_false_iff_not, Bool.not_eq_true', Bool.not_eq_false', Int.not_lt, Int.not_le, Decidable.not_not, beq_iff_eq, bne_iff_ne, ne_eq, beq_eq_false_iff_ne, WA.wd] at h902_2
        refine c_region ?_
        refine o_T (y_eql rfl rfl) rfl ?_
        refine o_L (y_assign rfl) rfl rfl ?_
        refine o_nil0 rfl ?_
        refine c_cond rfl (fun h902_3 => ?_) (fun h902_3 => ?_)
        · try simp only [decide_eq_true_eq, decide_eq_false_iff_not, Bool.not_eq_true', Bool.not_eq_false', Int.not_lt, Int.not_le, Decidable.not_not, beq_iff_eq, bne_iff_ne, ne_eq, beq_eq_false_iff_ne, WA.wd] at h902_3
          refine c_seq ?_
          refine c_region ?_
          refine o_L (y_assign rfl) rfl rfl ?_
          refine o_nil0 rfl ?_
          refine c_ret ?_
          refine fun aX wX heX hsX => ret1 Tryz.results18 heX rfl (s_skip (s_take (s_take (s_take (s_take (s_take (s_take (s_take (s_take (s_take (s_take s_nil))))))))))) ?_
          refine ⟨congrArg Value.bool ?_, rfl⟩
          unfold foulB
          first
            | (exfalso; omega)
            | (rw [if_pos (by omega)]; done)
            | (rw [if_neg (by omega), if_pos (by omega)]; done)
            | (rw [if_neg (by omega), if_neg (by omega), if_pos (by omega)]; done)
            | (rw [if_neg (by omega), if_neg (by omega), if_neg (by omega), if_pos (by omega)]; unfold foulE; rw [Int.toNat_natCast, ho]; first | rfl | simp)
            | (rw [if_neg (by omega), if_neg (by omega), if_neg (by omega), if_neg (by omega), if_pos (by omega)]; unfold foulC; first | (rw [if_pos (by omega)]; done) | (have eT := hT3 (by omega) (by omega); rw [if_neg (by omega), ← eT]; first | (rw [if_pos (by assumption)]; done) | (rw [if_pos (by simpa using ‹x.listensB oT.toNat ob = true›)]) | (rw [if_neg (by simp_all)]; done)))
            | (rw [if_neg (by omega), if_neg (by omega), if_neg (by omega), if_neg (by omega), if_neg (by omega)]; done)
        · try simp only [decide_eq_true_eq, decide_eq_false_iff_not, Bool.not_eq_true', Bool.not_eq_false', Int.not_lt, Int.not_le, Decidable.not_not, beq_iff_eq, bne_iff_ne, ne_eq, beq_eq_false_iff_ne, WA.wd] at h902_3
          refine c_skip ?_
          refine c_seq ?_
          refine c_seq ?_
          refine c_region ?_
          refine o_T (y_fa fl_32_3 rfl) rfl ?_
          refine o_ld one_3 rfl m0 Opn.g3 rfl ?_
          refine o_T (y_lss rfl rfl) rfl ?_
          refine o_T (y_move rfl) rfl ?_
          refine o_split 18 rfl (fun h905 => ?_) (fun h905 => ?_)
          · try simp only [decide_eq_true_eq, decide_eq_false_iff_not, Bool.not_eq_true', Bool.not_eq_false', Int.not_lt, Int.not_le, Decidable.not_not, beq_iff_eq, bne_iff_ne, ne_eq, beq_eq_false_iff_ne, WA.wd] at h905
            refine o_pass rfl rfl rfl rfl rfl ?_
            refine o_pass rfl rfl rfl rfl rfl ?_
            refine o_pass rfl rfl rfl rfl rfl ?_
            refine o_T (y_pickT rfl rfl) rfl ?_
            refine o_nil1 22 rfl rfl ?_
            refine c_condT rfl ?_
            refine c_seq ?_
            refine c_region ?_
            refine o_L (y_assign rfl) rfl rfl ?_
            refine o_nil0 rfl ?_
            refine c_ret ?_
            refine fun aX wX heX hsX => ret1 Tryz.results18 heX rfl (s_skip (s_take (s_take (s_take (s_take (s_take (s_take (s_take (s_take (s_take (s_take s_nil))))))))))) ?_
            refine ⟨congrArg Value.bool ?_, rfl⟩
            unfold foulB
            first
              | (exfalso; omega)
              | (rw [if_pos (by omega)]; done)
              | (rw [if_neg (by omega), if_pos (by omega)]; done)
              | (rw [if_neg (by omega), if_neg (by omega), if_pos (by omega)]; done)
              | (rw [if_neg (by omega), if_neg (by omega), if_neg (by omega), if_pos (by omega)]; unfold foulE; rw [Int.toNat_natCast, ho]; first | rfl | simp)
              | (rw [if_neg (by omega), if_neg (by omega), if_neg (by omega), if_neg (by omega), if_pos (by omega)]; unfold foulC; first | (rw [if_pos (by omega)]; done) | (have eT := hT3 (by omega) (by omega); rw [if_neg (by omega), ← eT]; first | (rw [if_pos (by assumption)]; done) | (rw [if_pos (by simpa using ‹x.listensB oT.toNat ob = true›)]) | (rw [if_neg (by simp_all)]; done)))
              | (rw [if_neg (by omega), if_neg (by omega), if_neg (by omega), if_neg (by omega), if_neg (by omega)]; done)
          · try simp only [decide_eq_true_eq, decide_eq_false_iff_not, Bool.not_eq_true', Bool.not_eq_false', Int.not_lt, Int.not_le, Decidable.not_not, beq_iff_eq, bne_iff_ne, ne_eq, beq_eq_false_iff_ne, WA.wd] at h905
            refine o_take rfl rfl rfl ?_
            refine o_T (y_fa fl_32_3 rfl) rfl ?_
            refine o_take rfl rfl rfl ?_
            refine o_ld one_3 rfl m0 Opn.g3 rfl ?_
            refine o_take rfl rfl rfl ?_
            refine o_T (y_geq rfl rfl) rfl ?_
            refine o_T (y_pickF rfl rfl) rfl ?_
            refine o_nil1 22 rfl rfl ?_
            refine c_cond rfl (fun h905_1 => ?_) (fun h905_1 => ?_)
            · try simp only [decide_eq_true_eq, decide_eq_false_iff_not, Bool.not_eq_true', Bool.not_eq_false', Int.not_lt, Int.not_le, Decidable.not_not, beq_iff_eq, bne_iff_ne, ne_eq, beq_eq_false_iff_ne, WA.wd] at h905_1
              refine c_seq ?_
              refine c_region ?_
              refine o_L (y_assign rfl) rfl rfl ?_
              refine o_nil0 rfl ?_
              refine c_ret ?_
              refine fun aX wX heX hsX => ret1 Tryz.results18 heX rfl (s_skip (s_take (s_take (s_take (s_take (s_take (s_take (s_take (s_take (s_take (s_take s_nil))))))))))) ?_
              refine ⟨congrArg Value.bool ?_, rfl⟩
              unfold foulB
              first
                | (exfalso; omega)
                | (rw [if_pos (by omega)]; done)
                | (rw [if_neg (by omega), if_pos (by omega)]; done)
                | (rw [if_neg (by omega), if_neg (by omega), if_pos (by omega)]; done)
                | (rw [if_neg (by omega), if_neg (by omega), if_neg (by omega), if_pos (by omega)]; unfold foulE; rw [Int.toNat_natCast, ho]; first | rfl | simp)
                | (rw [if_neg (by omega), if_neg (by omega), if_neg (by omega), if_neg (by omega), if_pos (by omega)]; unfold foulC; first | (rw [if_pos (by omega)]; done) | (have eT := hT3 (by omega) (by omega); rw [if_neg (by omega), ← eT]; first | (rw [if_pos (by assumption)]; done) | (rw [if_pos (by simpa using ‹x.listensB oT.toNat ob = true›)]) | (rw [if_neg (by simp_all)]; done)))
                | (rw [if_neg (by omega), if_neg (by omega), if_neg (by omega), if_neg (by omega), if_neg (by omega)]; done)
            · try simp only [decide_eq_true_eq, decide_eq_false_iff_not, Bool.not_eq_true', Bool.not_eq_false', Int.not_lt, Int.not_le, Decidable.not_not, beq_iff_eq, bne_iff_ne, ne_eq, beq_eq_false_iff_ne, WA.wd] at h905_1
              refine c_skip ?_
              refine c_seq ?_
              refine c_seq ?_
              obtain ⟨c, rfl⟩ : ∃ c : Nat, oc = (c : Int) := ⟨oc.toNat, by omega⟩
              have c3 : c < 3 := by omega
              have ho := ho
              rw [Int.toNat_natCast] at ho
              refine c_region ?_
              refine o_T (y_fa fl_32_0 rfl) rfl ?_
              refine o_ld one_3 rfl m0 Opn.g0 rfl ?_
              refine o_nil1 24 rfl rfl ?_
              refine c_block ?_
              refine c_seq ?_
              refine c_region ?_
              refine o_T (y_eql rfl rfl) rfl ?_
              refine o_L (y_assign rfl) rfl rfl ?_
              refine o_nil0 rfl ?_
              refine c_cond rfl (fun h909 => ?_) (fun h909 => ?_)
              · try simp only [decide_eq_true_eq, decide_eq_false_iff_not, Bool.not_eq_true', Bool.not_eq_false', Int.not_lt, Int.not_le, Decidable.not_not, beq_iff_eq, bne_iff_ne, ne_eq, beq_eq_false_iff_ne, WA.wd] at h909
                refine c_seq ?_
                refine c_region ?_
                refine o_L (y_assign rfl) rfl rfl ?_
                refine o_nil0 rfl ?_
                refine c_ret ?_
                refine fun aX wX heX hsX => ret1 Tryz.results18 heX rfl (s_skip (s_take (s_take (s_take (s_take (s_take (s_take (s_take (s_take (s_take (s_take s_nil))))))))))) ?_
                refine ⟨congrArg Value.bool ?_, rfl⟩
                unfold foulB
                first
                  | (exfalso; omega)
                  | (rw [if_pos (by omega)]; done)
                  | (rw [if_neg (by omega), if_pos (by omega)]; done)
                  | (rw [if_neg (by omega), if_neg (by omega), if_pos (by omega)]; done)
                  | (rw [if_neg (by omega), if_neg (by omega), if_neg (by omega), if_pos (by omega)]; unfold foulE; rw [Int.toNat_natCast, ho]; first | rfl | simp)
                  | (rw [if_neg (by omega), if_neg (by omega), if_neg (by omega), if_neg (by omega), if_pos (by omega)]; unfold foulC; first | (rw [if_pos (by omega)]; done) | (have eT := hT3 (by omega) (by omega); rw [if_neg (by omega), ← eT]; first | (rw [if_pos (by assumption)]; done) | (rw [if_pos (by simpa using ‹x.listensB oT.toNat ob = true›)]) | (rw [if_neg (by simp_all)]; done)))
                  | (rw [if_neg (by omega), if_neg (by omega), if_neg (by omega), if_neg (by omega), if_neg (by omega)]; done)
              · try simp only [decide_eq_true_eq, decide_eq_false_iff_not, Bool.not_eq_true', Bool.not_eq_false', Int.not_lt, Int.not_le, Decidable.not_not, beq_iff_eq, bne_iff_ne, ne_eq, beq_eq_false_iff_ne, WA.wd] at h909
                refine c_seq ?_
                refine c_region ?_
                refine o_T (y_eql rfl rfl) rfl ?_
                refine o_L (y_assign rfl) rfl rfl ?_
                refine o_nil0 rfl ?_
                refine c_cond rfl (fun h911 => ?_) (fun h911 => ?_)
                · try simp only [decide_eq_true_eq, decide_eq_false_iff_not, Bool.not_eq_true', Bool.not_eq_false', Int.not_lt, Int.not_le, Decidable.not_not, beq_iff_eq, bne_iff_ne, ne_eq, beq_eq_false_iff_ne, WA.wd] at h911
                  refine c_seq ?_
                  refine c_region ?_
                  refine o_T (y_move rfl) rfl ?_
                  refine o_T (y_fa fl_32_3 rfl) rfl ?_
                  refine o_ld one_3 rfl m0 Opn.g3 rfl ?_
                  refine o_T (y_fa fl_32_1 rfl) rfl ?_
                  refine o_ld one_3 rfl m0 Opn.g1 rfl ?_
                  refine o_call en_55 rfl (t55b _ _ _ _ _ _ c3 _ W.h hb.ok true ho) (s_skip (s_take (s_take s_nil))) rfl ?_
                  rintro v S' ⟨pc_4, gc_4, rfl, hi_4, rfl⟩
                  refine o_T (y_move rfl) rfl ?_
                  refine o_T (y_extract rfl rfl) rfl ?_
                  refine o_T (y_extract rfl rfl) rfl ?_
                  refine o_alloc ze_69 rfl rfl (fun b_5 => ?_)
                  refine o_sta ag_69 rfl rfl (si_plain hi_4) rfl r0 (setAll_full _ _ rfl) (of_ble rfl) ?_
                  refine o_L (y_assign rfl) rfl rfl ?_
                  refine o_nil0 rfl ?_
                  refine c_seq ?_
                  have he0 := ours_err ho
                  obtain ⟨bi_4, hpcbi_4, hgcbi_4⟩ := InfG.ok hi_4 he0
                  subst hpcbi_4 hgcbi_4
                  refine c_region ?_
                  refine o_T (y_move rfl) rfl ?_
                  refine o_T (y_not rfl) rfl ?_
                  refine o_T (y_move rfl) rfl ?_
                  refine o_take rfl rfl rfl ?_
                  refine o_T (y_fa fl_69_1 rfl) rfl ?_
                  refine o_take rfl rfl rfl ?_
                  refine o_ld one_67 rfl m0 Si.g8 rfl ?_
                  refine o_take rfl rfl rfl ?_
                  refine o_T (y_nilck rfl) rfl ?_
                  refine o_take rfl rfl rfl ?_
                  refine o_T (y_fa fl_95_0 rfl) rfl ?_
                  refine o_take rfl rfl rfl ?_
                  refine o_ld one_3 rfl (ms m0) Ci.g0 rfl ?_
                  refine o_take rfl rfl rfl ?_
                  refine o_T (y_neq rfl rfl) rfl ?_
                  refine o_T (y_pickF rfl rfl) rfl ?_
                  refine o_L (y_assign rfl) rfl rfl ?_
                  refine o_nil0 rfl ?_
                  refine c_ret ?_
                  refine fun aX wX heX hsX => ret1 Tryz.results18 heX rfl (s_skip (s_skip (s_take (s_take (s_skip (s_take (s_take (s_take (s_take (s_take (s_take (s_take (s_take s_nil))))))))))))) ?_
                  refine ⟨congrArg Value.bool ?_, rfl⟩
                  unfold foulB
                  first
                    | (exfalso; omega)
                    | (rw [if_pos (by omega)]; done)
                    | (rw [if_neg (by omega), if_pos (by omega)]; done)
                    | (rw [if_neg (by omega), if_neg (by omega), if_pos (by omega)]; done)
                    | (rw [if_neg (by omega), if_neg (by omega), if_neg (by omega), if_pos (by omega)]; unfold foulE; rw [Int.toNat_natCast, ho]; first | rfl | simp)
                    | (rw [if_neg (by omega), if_neg (by omega), if_neg (by omega), if_neg (by omega), if_pos (by omega)]; unfold foulC; first | (rw [if_pos (by omega)]; done) | (have eT := hT3 (by omega) (by omega); rw [if_neg (by omega), ← eT]; first | (rw [if_pos (by assumption)]; done) | (rw [if_pos (by simpa using ‹x.listensB oT.toNat ob = true›)]) | (rw [if_neg (by simp_all)]; done)))
                    | (rw [if_neg (by omega), if_neg (by omega), if_neg (by omega), if_neg (by omega), if_neg (by omega)]; done)
                · try simp only [decide_eq_true_eq, decide_eq_false_iff_not, Bool.not_eq_true', Bool.not_eq_false', Int.not_lt, Int.not_le, Decidable.not_not, beq_iff_eq, bne_iff_ne, ne_eq, beq_eq_false_iff_ne, WA.wd] at h911
                  refine c_seq ?_
                  refine c_region ?_
                  refine o_T (y_eql rfl rfl) rfl ?_
                  refine o_L (y_assign rfl) rfl rfl ?_
                  refine o_nil0 rfl ?_
                  refine c_cond rfl (fun h914 => ?_) (fun h914 => ?_)
                  · try simp only [decide_eq_true_eq, decide_eq_false_iff_not, Bool.not_eq_true', Bool.not_eq_false', Int.not_lt, Int.not_le, Decidable.not_not, beq_iff_eq, bne_iff_ne, ne_eq, beq_eq_false_iff_ne, WA.wd] at h914
                    refine c_seq ?_
                    refine c_region ?_
                    refine o_T (y_fa fl_32_1 rfl) rfl ?_
                    refine o_ld one_3 rfl m0 Opn.g1 rfl ?_
                    refine o_T (y_sub rfl rfl hT) rfl ?_
                    refine o_L (y_assign rfl) rfl rfl ?_
                    refine o_nil0 rfl ?_
                    refine c_seq ?_
                    refine c_seq ?_
                    refine c_region ?_
                    refine o_T (y_move rfl) rfl ?_
                    refine o_T (y_lss rfl rfl) rfl ?_
                    refine o_T (y_move rfl) rfl ?_
                    refine o_split 55 rfl (fun h916 => ?_) (fun h916 => ?_)
                    · try simp only [decide_eq_true_eq, decide_eq_false_iff_not, Bool.not_eq_true', Bool.not_eq_false', Int.not_lt, Int.not_le, Decidable.not_not, beq_iff_eq, bne_iff_ne, ne_eq, beq_eq_false_iff_ne, WA.wd] at h916
                      refine o_pass rfl rfl rfl rfl rfl ?_
                      refine o_pass rfl rfl rfl rfl rfl ?_
                      refine o_T (y_pickT rfl rfl) rfl ?_
                      refine o_T (y_move rfl) rfl ?_
                      refine o_pass rfl rfl rfl rfl rfl ?_
                      refine o_pass rfl rfl rfl rfl rfl ?_
                      refine o_pass rfl rfl rfl rfl rfl ?_
                      refine o_pass rfl rfl rfl rfl rfl ?_
                      refine o_T (y_pickT rfl rfl) rfl ?_
                      refine o_nil1 64 rfl rfl ?_
                      refine c_condT rfl ?_
                      refine c_seq ?_
                      refine c_region ?_
                      refine o_L (y_assign rfl) rfl rfl ?_
                      refine o_nil0 rfl ?_
                      refine c_ret ?_
                      refine fun aX wX heX hsX => ret1 Tryz.results18 heX rfl (s_skip (s_take (s_take (s_take (s_take (s_take (s_take (s_take (s_take (s_take (s_take s_nil))))))))))) ?_
                      refine ⟨congrArg Value.bool ?_, rfl⟩
                      unfold foulB
                      first
                        | (exfalso; omega)
                        | (rw [if_pos (by omega)]; done)
                        | (rw [if_neg (by omega), if_pos (by omega)]; done)
                        | (rw [if_neg (by omega), if_neg (by omega), if_pos (by omega)]; done)
                        | (rw [if_neg (by omega), if_neg (by omega), if_neg (by omega), if_pos (by omega)]; unfold foulE; rw [Int.toNat_natCast, ho]; first | rfl | simp)
                        | (rw [if_neg (by omega), if_neg (by omega), if_neg (by omega), if_neg (by omega), if_pos (by omega)]; unfold foulC; first | (rw [if_pos (by omega)]; done) | (have eT := hT3 (by omega) (by omega); rw [if_neg (by omega), ← eT]; first | (rw [if_pos (by assumption)]; done) | (rw [if_pos (by simpa using ‹x.listensB oT.toNat ob = true›)]) | (rw [if_neg (by simp_all)]; done)))
                        | (rw [if_neg (by omega), if_neg (by omega), if_neg (by omega), if_neg (by omega), if_neg (by omega)]; done)
                    · try simp only [decide_eq_true_eq, decide_eq_false_iff_not, Bool.not_eq_true', Bool.not_eq_false', Int.not_lt, Int.not_le, Decidable.not_not, beq_iff_eq, bne_iff_ne, ne_eq, beq_eq_false_iff_ne, WA.wd] at h916
                      refine o_take rfl rfl rfl ?_
                      refine o_T (y_move rfl) rfl ?_
                      refine o_take rfl rfl rfl ?_
                      refine o_T (y_geq rfl rfl) rfl ?_
                      refine o_T (y_pickF rfl rfl) rfl ?_
                      refine o_T (y_move rfl) rfl ?_
                      refine o_split 59 rfl (fun h916_1 => ?_) (fun h916_1 => ?_)
                      · try simp only [decide_eq_true_eq, decide_eq_false_iff_not, Bool.not_eq_true', Bool.not_eq_false', Int.not_lt, Int.not_le, Decidable.not_not, beq_iff_eq, bne_iff_ne, ne_eq, beq_eq_false_iff_ne, WA.wd] at h916_1
                        refine o_pass rfl rfl rfl rfl rfl ?_
                        refine o_pass rfl rfl rfl rfl rfl ?_
                        refine o_pass rfl rfl rfl rfl rfl ?_
                        refine o_pass rfl rfl rfl rfl rfl ?_
                        refine o_T (y_pickT rfl rfl) rfl ?_
                        refine o_nil1 64 rfl rfl ?_
                        refine c_condT rfl ?_
                        refine c_seq ?_
                        refine c_region ?_
                        refine o_L (y_assign rfl) rfl rfl ?_
                        refine o_nil0 rfl ?_
                        refine c_ret ?_
                        refine fun aX wX heX hsX => ret1 Tryz.results18 heX rfl (s_skip (s_take (s_take (s_take (s_take (s_take (s_take (s_take (s_take (s_take (s_take s_nil))))))))))) ?_
                        refine ⟨congrArg Value.bool ?_, rfl⟩
                        unfold foulB
                        first
                          | (exfalso; omega)
                          | (rw [if_pos (by omega)]; done)
                          | (rw [if_neg (by omega), if_pos (by omega)]; done)
                          | (rw [if_neg (by omega), if_neg (by omega), if_pos (by omega)]; done)
                          | (rw [if_neg (by omega), if_neg (by omega), if_neg (by omega), if_pos (by omega)]; unfold foulE; rw [Int.toNat_natCast, ho]; first | rfl | simp)
                          | (rw [if_neg (by omega), if_neg (by omega), if_neg (by omega), if_neg (by omega), if_pos (by omega)]; unfold foulC; first | (rw [if_pos (by omega)]; done) | (have eT := hT3 (by omega) (by omega); rw [if_neg (by omega), ← eT]; first | (rw [if_pos (by assumption)]; done) | (rw [if_pos (by simpa using ‹x.listensB oT.toNat ob = true›)]) | (rw [if_neg (by simp_all)]; done)))
                          | (rw [if_neg (by omega), if_neg (by omega), if_neg (by omega), if_neg (by omega), if_neg (by omega)]; done)
                      · try simp only [decide_eq_true_eq, decide_eq_false_iff_not, Bool.not_eq_true', Bool.not_eq_false', Int.not_lt, Int.not_le, Decidable.not_not, beq_iff_eq, bne_iff_ne, ne_eq, beq_eq_false_iff_ne, WA.wd] at h916_1
                        refine o_take rfl rfl rfl ?_
                        refine o_T (y_move rfl) rfl ?_
                        refine o_take rfl rfl rfl ?_
                        refine o_T (y_fa fl_32_3 rfl) rfl ?_
                        refine o_take rfl rfl rfl ?_
                        refine o_ld one_3 rfl m0 Opn.g3 rfl ?_
                        refine o_take rfl rfl rfl ?_
                        refine o_T (y_eql rfl rfl) rfl ?_
                        refine o_T (y_pickF rfl rfl) rfl ?_
                        refine o_nil1 64 rfl rfl ?_
                        refine c_cond rfl (fun h916_2 => ?_) (fun h916_2 => ?_)
                        · try simp only [decide_eq_true_eq, decide_eq_false_iff_not, Bool.not_eq_true', Bool.not_eq_false', Int.not_lt, Int.not_le, Decidable.not_not, beq_iff_eq, bne_iff_ne, ne_eq, beq_eq_false_iff_ne, WA.wd] at h916_2
                          refine c_seq ?_
                          refine c_region ?_
                          refine o_L (y_assign rfl) rfl rfl ?_
                          refine o_nil0 rfl ?_
                          refine c_ret ?_
                          refine fun aX wX heX hsX => ret1 Tryz.results18 heX rfl (s_skip (s_take (s_take (s_take (s_take (s_take (s_take (s_take (s_take (s_take (s_take s_nil))))))))))) ?_
                          refine ⟨congrArg Value.bool ?_, rfl⟩
                          unfold foulB
                          first
                            | (exfalso; omega)
                            | (rw [if_pos (by omega)]; done)
                            | (rw [if_neg (by omega), if_pos (by omega)]; done)
                            | (rw [if_neg (by omega), if_neg (by omega), if_pos (by omega)]; done)
                            | (rw [if_neg (by omega), if_neg (by omega), if_neg (by omega), if_pos (by omega)]; unfold foulE; rw [Int.toNat_natCast, ho]; first | rfl | simp)
                            | (rw [if_neg (by omega), if_neg (by omega), if_neg (by omega), if_neg (by omega), if_pos (by omega)]; unfold foulC; first | (rw [if_pos (by omega)]; done) | (have eT := hT3 (by omega) (by omega); rw [if_neg (by omega), ← eT]; first | (rw [if_pos (by assumption)]; done) | (rw [if_pos (by simpa using ‹x.listensB oT.toNat ob = true›)]) | (rw [if_neg (by simp_all)]; done)))
                            | (rw [if_neg (by omega), if_neg (by omega), if_neg (by omega), if_neg (by omega), if_neg (by omega)]; done)
                        · try simp only [decide_eq_true_eq, decide_eq_false_iff_not, Bool.not_eq_true', Bool.not_eq_false', Int.not_lt, Int.not_le, Decidable.not_not, beq_iff_eq, bne_iff_ne, ne_eq, beq_eq_false_iff_ne, WA.wd] at h916_2
                          refine c_skip ?_
                          refine c_seq ?_
                          refine c_seq ?_
                          refine c_region ?_
                          refine o_T (y_move rfl) rfl ?_
                          refine o_T (y_move rfl) rfl ?_
                          refine o_T (y_fa fl_32_2 rfl) rfl ?_
                          refine o_ld one_3 rfl m0 Opn.g2 rfl ?_
                          refine o_call en_56 rfl (i56v A q x V _ _ oT (by omega) (by omega) ob W.h hb.ok W.s) (s_skip (s_take (s_take (s_skip (s_skip (s_skip (s_take s_nil))))))) rfl ?_
                          rintro v S' ⟨rfl, rfl⟩
                          refine o_T (y_not rfl) rfl ?_
                          refine o_nil1 70 rfl rfl ?_
                          refine c_cond rfl (fun h919 => ?_) (fun h919 => ?_)
                          · try simp only [decide_eq_true_eq, decide_eq_false_iff_not, Bool.not_eq_true', Bool.not_eq_false', Int.not_lt, Int.not_le, Decidable.not_not, beq_iff_eq, bne_iff_ne, ne_eq, beq_eq_false_iff_ne, WA.wd] at h919
                            refine c_seq ?_
                            refine c_region ?_
                            refine o_L (y_assign rfl) rfl rfl ?_
                            refine o_nil0 rfl ?_
                            refine c_ret ?_
                            refine fun aX wX heX hsX => ret1 Tryz.results18 heX rfl (s_get k0 (s_get k0 (s_get (ks (ks k0)) (s_get (ks (ks k0)) (s_get (ks (ks k0)) (s_get k0 (s_get (ks k0) (s_get (ks k0) (s_get (ks k0) (s_get (ks k0) s_nil)))))))))) ?_
                            refine ⟨congrArg Value.bool ?_, rfl⟩
                            unfold foulB
                            first
                              | (exfalso; omega)
                              | (rw [if_pos (by omega)]; done)
                              | (rw [if_neg (by omega), if_pos (by omega)]; done)
                              | (rw [if_neg (by omega), if_neg (by omega), if_pos (by omega)]; done)
                              | (rw [if_neg (by omega), if_neg (by omega), if_neg (by omega), if_pos (by omega)]; unfold foulE; rw [Int.toNat_natCast, ho]; first | rfl | simp)
                              | (rw [if_neg (by omega), if_neg (by omega), if_neg (by omega), if_neg (by omega), if_pos (by omega)]; unfold foulC; first | (rw [if_pos (by omega)]; done) | (have eT := hT3 (by omega) (by omega); rw [if_neg (by omega), ← eT]; first | (rw [if_pos (by assumption)]; done) | (rw [if_pos (by simpa using ‹x.listensB oT.toNat ob = true›)]) | (rw [if_neg (by simp_all)]; done)))
                              | (rw [if_neg (by omega), if_neg (by omega), if_neg (by omega), if_neg (by omega), if_neg (by omega)]; done)
                          · try simp only [decide_eq_true_eq, decide_eq_false_iff_not, Bool.not_eq_true', Bool.not_eq_false', Int.not_lt, Int.not_le, Decidable.not_not, beq_iff_eq, bne_iff_ne, ne_eq, beq_eq_false_iff_ne, WA.wd] at h919
                            refine c_skip ?_
                            refine c_seq ?_
                            refine c_region ?_
                            refine o_T (y_move rfl) rfl ?_
                            refine o_T (y_nilck rfl) rfl ?_
                            refine o_T (y_fa fl_53_6 rfl) rfl ?_
                            refine o_ld one_44 rfl m0 Wd.g30 rfl ?_
                            refine o_callrv en_57 rfl (i57 W.n) (s_skip (s_skip (s_skip (s_skip (s_skip (s_skip (s_take s_nil))))))) rfl ?_
                            refine o_T (y_not rfl) rfl ?_
                            refine o_L (y_assign rfl) rfl rfl ?_
                            refine o_nil0 rfl ?_
                            refine c_ret ?_
                            refine fun aX wX heX hsX => ret1 Tryz.results18 heX rfl (s_get k0 (s_get k0 (s_get (ks (ks k0)) (s_get (ks (ks k0)) (s_get (ks (ks k0)) (s_get k0 (s_get (ks k0) (s_get (ks k0) (s_get (ks k0) (s_get (ks k0) s_nil)))))))))) ?_
                            refine ⟨congrArg Value.bool ?_, rfl⟩
                            unfold foulB
                            first
                              | (exfalso; omega)
                              | (rw [if_pos (by omega)]; done)
                              | (rw [if_neg (by omega), if_pos (by omega)]; done)
                              | (rw [if_neg (by omega), if_neg (by omega), if_pos (by omega)]; done)
                              | (rw [if_neg (by omega), if_neg (by omega), if_neg (by omega), if_pos (by omega)]; unfold foulE; rw [Int.toNat_natCast, ho]; first | rfl | simp)
                              | (rw [if_neg (by omega), if_neg (by omega), if_neg (by omega), if_neg (by omega), if_pos (by omega)]; unfold foulC; first | (rw [if_pos (by omega)]; done) | (have eT := hT3 (by omega) (by omega); rw [if_neg (by omega), ← eT]; first | (rw [if_pos (by assumption)]; done) | (rw [if_pos (by simpa using ‹x.listensB oT.toNat ob = true›)]) | (rw [if_neg (by simp_all)]; done)))
                              | (rw [if_neg (by omega), if_neg (by omega), if_neg (by omega), if_neg (by omega), if_neg (by omega)]; done)
                  · try simp only [decide_eq_true_eq, decide_eq_false_iff_not, Bool.not_eq_true', Bool.not_eq_false', Int.not_lt, Int.not_le, Decidable.not_not, beq_iff_eq, bne_iff_ne, ne_eq, beq_eq_false_iff_ne, WA.wd] at h914
                    refine c_skip ?_
                    refine c_seq ?_
                    refine c_region ?_
                    refine o_L (y_assign rfl) rfl rfl ?_
                    refine o_nil0 rfl ?_
                    refine c_ret ?_
                    refine fun aX wX heX hsX => ret1 Tryz.results18 heX rfl (s_skip (s_take (s_take (s_take (s_take (s_take (s_take (s_take (s_take (s_take (s_take s_nil))))))))))) ?_
                    refine ⟨congrArg Value.bool ?_, rfl⟩
                    unfold foulB
                    first
                      | (exfalso; omega)
                      | (rw [if_pos (by omega)]; done)
                      | (rw [if_neg (by omega), if_pos (by omega)]; done)
                      | (rw [if_neg (by omega), if_neg (by omega), if_pos (by omega)]; done)
                      | (rw [if_neg (by omega), if_neg (by omega), if_neg (by omega), if_pos (by omega)]; unfold foulE; rw [Int.toNat_natCast, ho]; first | rfl | simp)
                      | (rw [if_neg (by omega), if_neg (by omega), if_neg (by omega), if_neg (by omega), if_pos (by omega)]; unfold foulC; first | (rw [if_pos (by omega)]; done) | (have eT := hT3 (by omega) (by omega); rw [if_neg (by omega), ← eT]; first | (rw [if_pos (by assumption)]; done) | (rw [if_pos (by simpa using ‹x.listensB oT.toNat ob = true›)]) | (rw [if_neg (by simp_all)]; done)))
                      | (rw [if_neg (by omega), if_neg (by omega), if_neg (by omega), if_neg (by omega), if_neg (by omega)]; done)

end Go.Proofs.Qxb6500351aGreat
