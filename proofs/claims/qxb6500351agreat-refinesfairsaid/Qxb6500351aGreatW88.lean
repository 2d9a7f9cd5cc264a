/- MADE BY PROGRAM (tools/gen.py over tools/specsw.py): walks. -/
import Derived.Test.Qxb6500351aGreatMd27
set_option linter.unusedVariables false
set_option linter.unusedSimpArgs false
namespace Go.Proofs.Qxb6500351aGreat
open Go.Eng
set_option maxRecDepth 20000
set_option maxHeartbeats 4000000
attribute [local irreducible] Hst.ent Hst.err Hst.infoC
/-- (*e2e/towerlaw.World).End -/
theorem t49na (A : WA) (q : Bool) (x : Wrld) (V : WV) (m : Nat) (gh gq gw gn gs gr gi go gm : List Chunk) (W : WG A q x V m gh gq gw gn gs gr gi go gm) (hm : m ≤ 2700000000000) (hz : Szs x) (hb : HBnd x) (c : Nat) (c3 : c < 3) (sd : Int) (Y : Wrld → Prop) (ho : (x.H c).oursB sd = false) (hl : (x.H c).lisB sd = false) (hsh : (x.H c).lisB sd = true → (x.H c).ShutOk sd) (hs1 : (x.H c).oursB sd = true → 0 ≤ ((x.H c).ent sd).slot ∧ ((x.H c).ent sd).slot < 4) (hs7 : (((x.H c).abortG sd)).length ≤ 24) (ok2 : ∀ i, i < 3 → ((upA x.H c ((x.H c).abortK sd)) i).Ok ∧ InfoOk ((upA x.H c ((x.H c).abortK sd)) i)) (hE : ((x.H c).abortE sd) = 21) (hF0 : ¬ ((x.H c).abortE sd) = 0 → ((x.H c).abortG sd) = [] ∧ ((x.H c).abortK sd) = x.H c) (hY0 : Y x) : Trip Tryz.prog 49 #[.pointer (some ⟨A.b, 0, none⟩), .int .i64 (c : Int), .int .i64 sd, .bool true] [[(A.b, .cells (A.wd q x V).enc 53 (0, 0))], gh, gq, gw, gn, gs, gr, gi, go, gm] (fun u S' => u = .bool true ∧ ∃ y, Y y ∧ WPost A q y V.cm (m + 60) S') := by
  have hlb := hb.b c c3
  obtain ⟨gc, grest, hin, hpm, hbk⟩ := W.s.at c3
  obtain ⟨pse, hsv⟩ := hin.slice
  have hsl := hin.1
  refine fn_entry (args := [.pointer (some ⟨A.b, 0, none⟩), .int .i64 (c : Int), .int .i64 sd, .bool true]) Tryz.func49 rfl Tryz.ntmps49 rfl (fun w0 => ?_)
  refine c_seq ?_
  refine c_region ?_
  refine o_L (y_assign rfl) rfl rfl ?_
  refine o_nil0 rfl ?_
  refine c_seq ?_
  refine c_region ?_
  refine o_T (y_move rfl) rfl ?_
  refine o_T (y_move rfl) rfl ?_
  refine o_T (y_move rfl) rfl ?_
  refine o_call en_55 rfl (t55b _ _ _ _ _ _ c3 _ W.h hb.ok false ho) (s_take (s_take s_nil)) rfl ?_
  rintro v S' ⟨pc_1, gc_1, rfl, hi_1, rfl⟩
  refine o_T (y_move rfl) rfl ?_
  refine o_T (y_extract rfl rfl) rfl ?_
  refine o_T (y_extract rfl rfl) rfl ?_
  refine o_alloc ze_69 rfl rfl (fun b_1 => ?_)
  refine o_sta ag_69 rfl rfl (si_plain hi_1) rfl r0 (setAll_full _ _ rfl) (of_ble rfl) ?_
  refine o_L (y_assign rfl) rfl rfl ?_
  refine o_nil0 rfl ?_
  refine c_seq ?_
  refine c_region ?_
  refine o_L (y_assign rfl) rfl rfl ?_
  refine o_nil0 rfl ?_
  refine c_seq ?_
  refine c_region ?_
  refine o_T (y_move rfl) rfl ?_
  refine o_T (y_move rfl) rfl ?_
  refine o_T (y_move rfl) rfl ?_
  refine o_call en_92 rfl (t92b _ _ _ _ _ _ c3 _ W.h hb.ok false hl) (s_skip (s_skip (s_take (s_take s_nil)))) rfl ?_
  rintro v S' ⟨rfl, rfl⟩
  refine o_L (y_assign rfl) rfl rfl ?_
  refine o_nil0 rfl ?_
  refine c_seq ?_
  refine c_seq ?_
  refine c_region ?_
  refine o_T (y_move rfl) rfl ?_
  refine o_nil1 40 rfl rfl ?_
  refine c_condF rfl ?_
  refine c_seq ?_
  refine c_region ?_
  refine o_T (y_move rfl) rfl ?_
  refine o_T (y_move rfl) rfl ?_
  refine o_pass rfl rfl rfl rfl rfl ?_
  refine o_T (y_pickF rfl rfl) rfl ?_
  refine o_nil1 44 rfl rfl ?_
  refine c_condF rfl ?_
  refine c_seq ?_
  refine c_region ?_
  refine o_T (y_move rfl) rfl ?_
  refine o_nil1 45 rfl rfl ?_
  refine c_condF rfl ?_
  refine c_skip ?_
  refine c_seq ?_
  refine c_region ?_
  refine o_bs0 sz_46 rfl (fun b_2 => ?_)
  refine o_L (y_assign rfl) rfl rfl ?_
  refine o_nil0 rfl ?_
  refine c_seq ?_
  refine c_seq ?_
  refine c_front (s_get (ks (ks (ks (ks (ks (ks (ks (ks k0)))))))) (s_get k0 (s_get k0 (s_get k0 (s_get k0 (s_get k0 (s_get k0 (s_get k0 (s_get k0 (s_get k0 (s_get k0 (s_get k0 (s_get k0 s_nil))))))))))))) ?_
  refine c_opn hpm ?_
  refine c_region ?_
  refine o_L (y_assign rfl) rfl rfl ?_
  refine o_nil0 rfl ?_
  refine c_joinE (ι := Unit) (fun i => []) (fun i => True) (fun _ _ h => h) ?_ ?_
  · skip
    refine c_block ?_
    refine c_loopG (ι := Unit) (fun i => []) (fun i => []) (fun i => True) (fun i => 0) () (by trivial) trivial (s_take (s_take (s_take (s_take (s_take (s_take (s_take (s_take (s_take (s_take (s_take (s_take (s_take (s_take s_nil)))))))))))))) ?_
    rintro ⟨⟩ _
    try dsimp only at _
    refine c_seq ?_
    refine c_seq ?_
    refine c_region ?_
    refine o_T (y_move rfl) rfl ?_
    refine o_T (y_move rfl) rfl ?_
    refine o_T (y_move rfl) rfl ?_
    refine o_T (y_nilck rfl) rfl ?_
    refine o_T (y_fa fl_53_8 rfl) rfl ?_
    refine o_T (y_ia ar_47 rfl rfl (by omega) (by omega)) rfl ?_
    refine o_ld one_46 rfl (ms (ms (ms m0))) ((Wd.g_seen c (by omega) (by omega)).trans (congrArg some hsv)) rfl ?_
    refine o_T (y_len Tryz.underlying46 rfl) rfl ?_
    refine o_T (y_lss rfl rfl) rfl ?_
    refine o_T (y_move rfl) rfl ?_
    refine o_split 59 rfl (fun h675 => ?_) (fun h675 => ?_)
    · try simp only [decide_eq_true_eq, decide_eq_false_iff_not, Bool.not_eq_true', Bool.not_eq_false', Int.not_lt, Int.not_le, Decidable.not_not, beq_iff_eq, bne_iff_ne, ne_eq, beq_eq_false_iff_ne, WA.wd] at h675
      refine o_take rfl rfl rfl ?_
      refine o_T (y_move rfl) rfl ?_
      refine o_take rfl rfl rfl ?_
      refine o_T (y_eql rfl rfl) rfl ?_
      refine o_T (y_pickT rfl rfl) rfl ?_
      refine o_T (y_move rfl) rfl ?_
      refine o_split 63 rfl (fun h675_1 => ?_) (fun h675_1 => ?_)
      · try simp only [decide_eq_true_eq, decide_eq_false_iff_not, Bool.not_eq_true', Bool.not_eq_false', Int.not_lt, Int.not_le, Decidable.not_not, beq_iff_eq, bne_iff_ne, ne_eq, beq_eq_false_iff_ne, WA.wd] at h675_1
        exact absurd h675_1 (by decide)
      · try simp only [decide_eq_true_eq, decide_eq_false_iff_not, Bool.not_eq_true', Bool.not_eq_false', Int.not_lt, Int.not_le, Decidable.not_not, beq_iff_eq, bne_iff_ne, ne_eq, beq_eq_false_iff_ne, WA.wd] at h675_1
        refine o_pass rfl rfl rfl rfl rfl ?_
        refine o_pass rfl rfl rfl rfl rfl ?_
        refine o_T (y_pickF rfl rfl) rfl ?_
        refine o_nil1 66 rfl rfl ?_
        refine c_condF rfl ?_
        refine c_exit ?_
        refine ⟨(), trivial, trivial, ⟨rfl, rfl⟩, _, ((s_take (s_take (s_take (s_take (s_take (s_take (s_take (s_take (s_take (s_take (s_take (s_take (s_take (s_take s_nil)))))))))))))))⟩
    · try simp only [decide_eq_true_eq, decide_eq_false_iff_not, Bool.not_eq_true', Bool.not_eq_false', Int.not_lt, Int.not_le, Decidable.not_not, beq_iff_eq, bne_iff_ne, ne_eq, beq_eq_false_iff_ne, WA.wd] at h675
      refine o_pass rfl rfl rfl rfl rfl ?_
      refine o_pass rfl rfl rfl rfl rfl ?_
      refine o_T (y_pickF rfl rfl) rfl ?_
      refine o_T (y_move rfl) rfl ?_
      refine o_pass rfl rfl rfl rfl rfl ?_
      refine o_pass rfl rfl rfl rfl rfl ?_
      refine o_T (y_pickF rfl rfl) rfl ?_
      refine o_nil1 66 rfl rfl ?_
      refine c_condF rfl ?_
      refine c_exit ?_
      refine ⟨(), trivial, trivial, ⟨rfl, rfl⟩, _, ((s_take (s_take (s_take (s_take (s_take (s_take (s_take (s_take (s_take (s_take (s_take (s_take (s_take (s_take s_nil)))))))))))))))⟩
  · rintro ⟨⟩ _
    try dsimp only at _
    refine c_seq ?_
    refine c_sht hpm ?_
    refine c_region ?_
    refine o_L (y_assign rfl) rfl rfl ?_
    refine o_L (y_assign rfl) rfl rfl ?_
    refine o_nil0 rfl ?_
    refine c_seq ?_
    refine c_region ?_
    refine o_L (y_assign rfl) rfl rfl ?_
    refine o_L (y_assign rfl) rfl rfl ?_
    refine o_nil0 rfl ?_
    refine c_seq ?_
    refine c_seq ?_
    refine c_region ?_
    refine o_T (y_move rfl) rfl ?_
    refine o_nil1 109 rfl rfl ?_
    refine c_condT rfl ?_
    refine c_region ?_
    refine o_T (y_move rfl) rfl ?_
    refine o_T (y_move rfl) rfl ?_
    refine o_T (y_nilck rfl) rfl ?_
    refine o_T (y_fa fl_53_0 rfl) rfl ?_
    refine o_T (y_ia ar_34 rfl rfl (by omega) (by omega)) rfl ?_
    refine o_ld one_33 rfl (ms (ms m0)) (Wd.g_h c (by omega) (by omega)) rfl ?_
    refine o_T (y_move rfl) rfl ?_
    refine o_call en_103 rfl (j103 W.h c3 (hb.ok _ c3).1 (by omega) sd hsh hs1) (s_skip (s_skip (s_skip (s_take s_nil)))) rfl ?_
    rintro v S' ⟨v_1, gv_1, gd_1, gx_1, rfl, hF_1, hx_1, rfl⟩
    refine o_T (y_move rfl) rfl ?_
    refine o_T (y_extract rfl rfl) rfl ?_
    refine o_T (y_extract rfl rfl) rfl ?_
    refine o_L (y_assign rfl) rfl rfl ?_
    refine o_L (y_assign rfl) rfl rfl ?_
    refine o_nil0 rfl ?_
    refine c_seq ?_
    refine c_seq ?_
    refine c_region ?_
    refine o_T (y_move rfl) rfl ?_
    refine o_T (y_nilck rfl) rfl ?_
    refine o_T (y_fa fl_53_3 rfl) rfl ?_
    refine o_ld one_4 rfl (ms (ms (ms (ms (ms m0))))) Wd.g27 rfl ?_
    refine o_nil1 135 rfl rfl ?_
    refine c_front (s_get (ks (ks (ks (ks (ks k0))))) (s_get (ks (ks (ks (ks (ks (ks (ks k0))))))) (s_get (ks (ks (ks (ks (ks (ks (ks (ks (ks (ks (ks (ks k0)))))))))))) (s_get (ks (ks (ks (ks (ks (ks (ks (ks (ks (ks (ks k0))))))))))) (s_get k0 (s_get k0 (s_get k0 (s_get k0 (s_get k0 (s_get k0 (s_get k0 (s_get k0 (s_get k0 (s_get k0 (s_get k0 s_nil))))))))))))))) ?_
    refine c_joinD 4 (ι := Value × Value × List Chunk × List Chunk × List Chunk × Value × Int) (fun i => [(18, i.2.2.2.2.2.1), (20, .int .i64 i.2.2.2.2.2.2)]) (fun i => [[(A.b, .cells (A.wd q x { V with mine := i.1, outs := i.2.1 }).enc 53 (0, 0))], i.2.2.1, i.2.2.2.1, i.2.2.2.2.1]) (fun i => (q = true → HsG (upA x.H c ((x.H c).abortK sd)) A.qv A.qb i.2.2.1) ∧ PM (m + 24) i.1 i.2.2.2.1 ∧ PO (m + 1) i.2.1 i.2.2.2.2.1) (fun _ _ h => h) ?_ ?_
    · skip
      refine c_cond rfl (fun h688 => ?_) (fun h688 => ?_)
      · try simp only [decide_eq_true_eq, decide_eq_false_iff_not, Bool.not_eq_true', Bool.not_eq_false', Int.not_lt, Int.not_le, Decidable.not_not, beq_iff_eq, bne_iff_ne, ne_eq, beq_eq_false_iff_ne, WA.wd] at h688
        refine c_seq ?_
        refine c_seq ?_
        refine c_region ?_
        refine o_T (y_move rfl) rfl ?_
        refine o_nil1 136 rfl rfl ?_
        refine c_condT rfl ?_
        refine c_region ?_
        refine o_T (y_move rfl) rfl ?_
        refine o_T (y_move rfl) rfl ?_
        refine o_T (y_nilck rfl) rfl ?_
        refine o_T (y_fa fl_53_2 rfl) rfl ?_
        refine o_T (y_ia ar_34 rfl rfl (by omega) (by omega)) rfl ?_
        refine o_ld one_33 rfl m0 (Wd.g_q c (by omega) (by omega)) rfl ?_
        refine o_T (y_move rfl) rfl ?_
        refine o_call en_103 rfl (j103 (W.q h688) c3 (hb.ok _ c3).1 (by omega) sd hsh hs1) (s_skip (s_take s_nil)) rfl ?_
        rintro v S' ⟨v_2, gv_2, gd_2, gx_2, rfl, hF_2, hx_2, rfl⟩
        refine o_T (y_move rfl) rfl ?_
        refine o_T (y_extract rfl rfl) rfl ?_
        refine o_T (y_extract rfl rfl) rfl ?_
        refine o_L (y_assign rfl) rfl rfl ?_
        refine o_L (y_assign rfl) rfl rfl ?_
        refine o_nil0 rfl ?_
        refine c_seq ?_
        refine c_seq ?_
        refine c_region ?_
        refine o_T (y_move rfl) rfl ?_
        refine o_T (y_move rfl) rfl ?_
        refine o_T (y_neq rfl rfl) rfl ?_
        refine o_T (y_move rfl) rfl ?_
        refine o_split 162 rfl (fun h694 => ?_) (fun h694 => ?_)
        · try simp only [decide_eq_true_eq, decide_eq_false_iff_not, Bool.not_eq_true', Bool.not_eq_false', Int.not_lt, Int.not_le, Decidable.not_not, beq_iff_eq, bne_iff_ne, ne_eq, beq_eq_false_iff_ne, WA.wd] at h694
          first | exact absurd trivial h694 | exact absurd rfl h694 | (simp at h694; done)
        · try simp only [decide_eq_true_eq, decide_eq_false_iff_not, Bool.not_eq_true', Bool.not_eq_false', Int.not_lt, Int.not_le, Decidable.not_not, beq_iff_eq, bne_iff_ne, ne_eq, beq_eq_false_iff_ne, WA.wd] at h694
          refine o_take rfl rfl rfl ?_
          refine o_T (y_move rfl) rfl ?_
          refine o_take rfl rfl rfl ?_
          refine o_T (y_move rfl) rfl ?_
          refine o_take rfl rfl rfl ?_
          refine o_callrv en_81 rfl (t81 _ _ _ _ _ _ _ _ hF_1 hF_2) (s_get (ks (ks (ks (ks (ks (ks k0)))))) (s_get (ks (ks (ks (ks (ks (ks k0)))))) (s_get k0 (s_get k0 s_nil)))) rfl ?_
          refine o_take rfl rfl rfl ?_
          refine o_T (y_not rfl) rfl ?_
          refine o_T (y_pickF rfl rfl) rfl ?_
          refine o_nil1 167 rfl rfl ?_
          refine c_cond rfl (fun h694_1 => ?_) (fun h694_1 => ?_)
          · try simp only [decide_eq_true_eq, decide_eq_false_iff_not, Bool.not_eq_true', Bool.not_eq_false', Int.not_lt, Int.not_le, Decidable.not_not, beq_iff_eq, bne_iff_ne, ne_eq, beq_eq_false_iff_ne, WA.wd] at h694_1
            first | exact absurd trivial h694_1 | exact absurd rfl h694_1 | (simp at h694_1; done)
          · try simp only [decide_eq_true_eq, decide_eq_false_iff_not, Bool.not_eq_true', Bool.not_eq_false', Int.not_lt, Int.not_le, Decidable.not_not, beq_iff_eq, bne_iff_ne, ne_eq, beq_eq_false_iff_ne, WA.wd] at h694_1
            refine c_skip ?_
            refine c_region ?_
            refine o_T (y_move rfl) rfl ?_
            refine o_T (y_move rfl) rfl ?_
            refine o_call en_82 rfl (t82 A q x V W.m W.o (by omega) (by omega) hF_2) (s_get (ks (ks (ks k0))) (s_get (ks (ks (ks k0))) (s_get (ks (ks (ks k0))) (s_get k0 (s_get k0 s_nil))))) rfl ?_
            rintro v S' ⟨vm_1, vo_1, gm_1, go_1, rfl, hm_1, ho_1, rfl⟩
            refine o_nil0 rfl ?_
            refine ⟨(vm_1, vo_1, _, _, _, _, _), ⟨fun _ => hx_2, hm_1.mono (by omega), ho_1.mono (by omega)⟩, ⟨rfl, rfl, trivial⟩, ⟨rfl, rfl⟩, _, ((s_get k0 (s_get (ks (ks k0)) (s_get k0 (s_get k0 (s_get k0 (s_get k0 (s_get k0 (s_get k0 (s_get k0 (s_get k0 (s_get k0 (s_get k0 (s_get k0 (s_get k0 (s_get k0 s_nil))))))))))))))))⟩
      · try simp only [decide_eq_true_eq, decide_eq_false_iff_not, Bool.not_eq_true', Bool.not_eq_false', Int.not_lt, Int.not_le, Decidable.not_not, beq_iff_eq, bne_iff_ne, ne_eq, beq_eq_false_iff_ne, WA.wd] at h688
        refine c_skip ?_
        refine ⟨(V.mine, V.outs, _, _, _, _, _), ⟨fun z => absurd (z.symm.trans h688) (fun y => nomatch y), W.m.mono (by omega), W.o.mono (by omega)⟩, ⟨rfl, rfl, trivial⟩, ⟨rfl, rfl⟩, _, ((s_take (s_take (s_take (s_take (s_take (s_take (s_take (s_take (s_take (s_take (s_take (s_take (s_take (s_take (s_take s_nil))))))))))))))))⟩
    · rintro ⟨vm2, vo2, gq2, gm2, go2, v18, v20⟩ ⟨hq2, hm2, ho2⟩
      try dsimp only at hq2
      refine c_seq ?_
      refine c_seq ?_
      refine c_region ?_
      refine o_T (y_move rfl) rfl ?_
      refine o_T (y_move rfl) rfl ?_
      refine o_T (y_neq rfl rfl) rfl ?_
      refine o_nil1 173 rfl rfl ?_
      refine c_cond rfl (fun h699 => ?_) (fun h699 => ?_)
      · try simp only [decide_eq_true_eq, decide_eq_false_iff_not, Bool.not_eq_true', Bool.not_eq_false', Int.not_lt, Int.not_le, Decidable.not_not, beq_iff_eq, bne_iff_ne, ne_eq, beq_eq_false_iff_ne, WA.wd] at h699
        exact absurd hE h699
      · try simp only [decide_eq_true_eq, decide_eq_false_iff_not, Bool.not_eq_true', Bool.not_eq_false', Int.not_lt, Int.not_le, Decidable.not_not, beq_iff_eq, bne_iff_ne, ne_eq, beq_eq_false_iff_ne, WA.wd] at h699
        refine c_skip ?_
        refine c_seq ?_
        refine c_seq ?_
        refine c_region ?_
        refine o_T (y_move rfl) rfl ?_
        refine o_T (y_neq rfl rfl) rfl ?_
        refine o_nil1 175 rfl rfl ?_
        refine c_cond rfl (fun h702 => ?_) (fun h702 => ?_)
        · try simp only [decide_eq_true_eq, decide_eq_false_iff_not, Bool.not_eq_true', Bool.not_eq_false', Int.not_lt, Int.not_le, Decidable.not_not, beq_iff_eq, bne_iff_ne, ne_eq, beq_eq_false_iff_ne, WA.wd] at h702
          refine c_seq ?_
          obtain ⟨pf, cf, hvf⟩ := hF_1.slice
          subst hvf
          refine c_region ?_
          refine o_T (y_move rfl) rfl ?_
          refine o_T (y_len Tryz.underlying51 rfl) rfl ?_
          refine o_T (y_eql rfl rfl) rfl ?_
          refine o_L (y_assign rfl) rfl rfl ?_
          refine o_nil0 rfl ?_
          refine c_ret ?_
          refine fun aX wX heX hsX => ret1 Tryz.results49 heX rfl (s_get k0 (s_get (ks (ks (ks (ks (ks k0))))) (s_get k0 (s_get (ks (ks (ks (ks (ks (ks (ks (ks k0)))))))) (s_get (ks (ks (ks (ks (ks (ks (ks (ks k0)))))))) (s_get (ks (ks (ks (ks k0)))) (s_get (ks (ks (ks (ks (ks (ks (ks k0))))))) (s_get (ks (ks (ks (ks (ks (ks (ks k0))))))) (s_get (ks k0) (s_get k0 s_nil)))))))))) ?_
          obtain ⟨eF, eH⟩ := hF0 h702
          rw [eH, upA_self] at hq2
          have hhx := hx_1
          rw [eH, upA_self] at hhx
          exact ⟨congrArg Value.bool (decide_eq_true (by rw [eF]; rfl)), x, hY0, { V with mine := vm2, outs := vo2 }, _, _, _, _, _, _, _, _, _, ⟨hhx, hq2, W.w, W.n, W.s, W.r, W.i.mono (by omega), ho2.mono (by omega), hm2.mono (by omega)⟩, rfl, rfl⟩
        · try simp only [decide_eq_true_eq, decide_eq_false_iff_not, Bool.not_eq_true', Bool.not_eq_false', Int.not_lt, Int.not_le, Decidable.not_not, beq_iff_eq, bne_iff_ne, ne_eq, beq_eq_false_iff_ne, WA.wd] at h702
          exfalso; omega

/-- (*e2e/towerlaw.World).End -/
theorem t49nc (A : WA) (q : Bool) (x : Wrld) (V : WV) (m : Nat) (gh gq gw gn gs gr gi go gm : List Chunk) (W : WG A q x V m gh gq gw gn gs gr gi go gm) (hm : m ≤ 2700000000000) (hz : Szs x) (hb : HBnd x) (c : Nat) (c3 : c < 3) (sd : Int) (Y : Wrld → Prop) (ho : (x.H c).oursB sd = false) (hl : (x.H c).lisB sd = false) (hsh : (x.H c).lisB sd = true → (x.H c).ShutOk sd) (hs1 : (x.H c).oursB sd = true → 0 ≤ ((x.H c).ent sd).slot ∧ ((x.H c).ent sd).slot < 4) (hs7 : (((x.H c).closeG sd)).length ≤ 24) (ok2 : ∀ i, i < 3 → ((upA x.H c ((x.H c).closeK sd)) i).Ok ∧ InfoOk ((upA x.H c ((x.H c).closeK sd)) i)) (hE : ((x.H c).closeE sd) = 21) (hF0 : ¬ ((x.H c).closeE sd) = 0 → ((x.H c).closeG sd) = [] ∧ ((x.H c).closeK sd) = x.H c) (hY0 : Y x) : Trip Tryz.prog 49 #[.pointer (some ⟨A.b, 0, none⟩), .int .i64 (c : Int), .int .i64 sd, .bool false] [[(A.b, .cells (A.wd q x V).enc 53 (0, 0))], gh, gq, gw, gn, gs, gr, gi, go, gm] (fun u S' => u = .bool true ∧ ∃ y, Y y ∧ WPost A q y V.cm (m + 60) S') := by
  have hlb := hb.b c c3
  obtain ⟨gc, grest, hin, hpm, hbk⟩ := W.s.at c3
  obtain ⟨pse, hsv⟩ := hin.slice
  have hsl := hin.1
  refine fn_entry (args := [.pointer (some ⟨A.b, 0, none⟩), .int .i64 (c : Int), .int .i64 sd, .bool false]) Tryz.func49 rfl Tryz.ntmps49 rfl (fun w0 => ?_)
  refine c_seq ?_
  refine c_region ?_
  refine o_L (y_assign rfl) rfl rfl ?_
  refine o_nil0 rfl ?_
  refine c_seq ?_
  refine c_region ?_
  refine o_T (y_move rfl) rfl ?_
  refine o_T (y_move rfl) rfl ?_
  refine o_T (y_move rfl) rfl ?_
  refine o_call en_55 rfl (t55b _ _ _ _ _ _ c3 _ W.h hb.ok false ho) (s_take (s_take s_nil)) rfl ?_
  rintro v S' ⟨pc_1, gc_1, rfl, hi_1, rfl⟩
  refine o_T (y_move rfl) rfl ?_
  refine o_T (y_extract rfl rfl) rfl ?_
  refine o_T (y_extract rfl rfl) rfl ?_
  refine o_alloc ze_69 rfl rfl (fun b_1 => ?_)
  refine o_sta ag_69 rfl rfl (si_plain hi_1) rfl r0 (setAll_full _ _ rfl) (of_ble rfl) ?_
  refine o_L (y_assign rfl) rfl rfl ?_
  refine o_nil0 rfl ?_
  refine c_seq ?_
  refine c_region ?_
  refine o_L (y_assign rfl) rfl rfl ?_
  refine o_nil0 rfl ?_
  refine c_seq ?_
  refine c_region ?_
  refine o_T (y_move rfl) rfl ?_
  refine o_T (y_move rfl) rfl ?_
  refine o_T (y_move rfl) rfl ?_
  refine o_call en_92 rfl (t92b _ _ _ _ _ _ c3 _ W.h hb.ok false hl) (s_skip (s_skip (s_take (s_take s_nil)))) rfl ?_
  rintro v S' ⟨rfl, rfl⟩
  refine o_L (y_assign rfl) rfl rfl ?_
  refine o_nil0 rfl ?_
  refine c_seq ?_
  refine c_seq ?_
  refine c_region ?_
  refine o_T (y_move rfl) rfl ?_
  refine o_nil1 40 rfl rfl ?_
  refine c_condF rfl ?_
  refine c_seq ?_
  refine c_region ?_
  refine o_T (y_move rfl) rfl ?_
  refine o_T (y_move rfl) rfl ?_
  refine o_pass rfl rfl rfl rfl rfl ?_
  refine o_T (y_pickF rfl rfl) rfl ?_
  refine o_nil1 44 rfl rfl ?_
  refine c_condF rfl ?_
  refine c_seq ?_
  refine c_region ?_
  refine o_T (y_move rfl) rfl ?_
  refine o_nil1 45 rfl rfl ?_
  refine c_condF rfl ?_
  refine c_skip ?_
  refine c_seq ?_
  refine c_region ?_
  refine o_bs0 sz_46 rfl (fun b_2 => ?_)
  refine o_L (y_assign rfl) rfl rfl ?_
  refine o_nil0 rfl ?_
  refine c_seq ?_
  refine c_seq ?_
  refine c_front (s_get (ks (ks (ks (ks (ks (ks (ks (ks k0)))))))) (s_get k0 (s_get k0 (s_get k0 (s_get k0 (s_get k0 (s_get k0 (s_get k0 (s_get k0 (s_get k0 (s_get k0 (s_get k0 (s_get k0 s_nil))))))))))))) ?_
  refine c_opn hpm ?_
  refine c_region ?_
  refine o_L (y_assign rfl) rfl rfl ?_
  refine o_nil0 rfl ?_
  refine c_joinE (ι := Unit) (fun i => []) (fun i => True) (fun _ _ h => h) ?_ ?_
  · skip
    refine c_block ?_
    refine c_loopG (ι := Unit) (fun i => []) (fun i => []) (fun i => True) (fun i => 0) () (by trivial) trivial (s_take (s_take (s_take (s_take (s_take (s_take (s_take (s_take (s_take (s_take (s_take (s_take (s_take (s_take s_nil)))))))))))))) ?_
    rintro ⟨⟩ _
    try dsimp only at _
    refine c_seq ?_
    refine c_seq ?_
    refine c_region ?_
    refine o_T (y_move rfl) rfl ?_
    refine o_T (y_move rfl) rfl ?_
    refine o_T (y_move rfl) rfl ?_
    refine o_T (y_nilck rfl) rfl ?_
    refine o_T (y_fa fl_53_8 rfl) rfl ?_
    refine o_T (y_ia ar_47 rfl rfl (by omega) (by omega)) rfl ?_
    refine o_ld one_46 rfl (ms (ms (ms m0))) ((Wd.g_seen c (by omega) (by omega)).trans (congrArg some hsv)) rfl ?_
    refine o_T (y_len Tryz.underlying46 rfl) rfl ?_
    refine o_T (y_lss rfl rfl) rfl ?_
    refine o_T (y_move rfl) rfl ?_
    refine o_split 59 rfl (fun h675 => ?_) (fun h675 => ?_)
    · try simp only [decide_eq_true_eq, decide_eq_false_iff_not, Bool.not_eq_true', Bool.not_eq_false', Int.not_lt, Int.not_le, Decidable.not_not, beq_iff_eq, bne_iff_ne, ne_eq, beq_eq_false_iff_ne, WA.wd] at h675
      refine o_take rfl rfl rfl ?_
      refine o_T (y_move rfl) rfl ?_
      refine o_take rfl rfl rfl ?_
      refine o_T (y_eql rfl rfl) rfl ?_
      refine o_T (y_pickT rfl rfl) rfl ?_
      refine o_T (y_move rfl) rfl ?_
      refine o_split 63 rfl (fun h675_1 => ?_) (fun h675_1 => ?_)
      · try simp only [decide_eq_true_eq, decide_eq_false_iff_not, Bool.not_eq_true', Bool.not_eq_false', Int.not_lt, Int.not_le, Decidable.not_not, beq_iff_eq, bne_iff_ne, ne_eq, beq_eq_false_iff_ne, WA.wd] at h675_1
        exact absurd h675_1 (by decide)
      · try simp only [decide_eq_true_eq, decide_eq_false_iff_not, Bool.not_eq_true', Bool.not_eq_false', Int.not_lt, Int.not_le, Decidable.not_not, beq_iff_eq, bne_iff_ne, ne_eq, beq_eq_false_iff_ne, WA.wd] at h675_1
        refine o_pass rfl rfl rfl rfl rfl ?_
        refine o_pass rfl rfl rfl rfl rfl ?_
        refine o_T (y_pickF rfl rfl) rfl ?_
        refine o_nil1 66 rfl rfl ?_
        refine c_condF rfl ?_
        refine c_exit ?_
        refine ⟨(), trivial, trivial, ⟨rfl, rfl⟩, _, ((s_take (s_take (s_take (s_take (s_take (s_take (s_take (s_take (s_take (s_take (s_take (s_take (s_take (s_take s_nil)))))))))))))))⟩
    · try simp only [decide_eq_true_eq, decide_eq_false_iff_not, Bool.not_eq_true', Bool.not_eq_false', Int.not_lt, Int.not_le, Decidable.not_not, beq_iff_eq, bne_iff_ne, ne_eq, beq_eq_false_iff_ne, WA.wd] at h675
      refine o_pass rfl rfl rfl rfl rfl ?_
      refine o_pass rfl rfl rfl rfl rfl ?_
      refine o_T (y_pickF rfl rfl) rfl ?_
      refine o_T (y_move rfl) rfl ?_
      refine o_pass rfl rfl rfl rfl rfl ?_
      refine o_pass rfl rfl rfl rfl rfl ?_
      refine o_T (y_pickF rfl rfl) rfl ?_
      refine o_nil1 66 rfl rfl ?_
      refine c_condF rfl ?_
      refine c_exit ?_
      refine ⟨(), trivial, trivial, ⟨rfl, rfl⟩, _, ((s_take (s_take (s_take (s_take (s_take (s_take (s_take (s_take (s_take (s_take (s_take (s_take (s_take (s_take s_nil)))))))))))))))⟩
  · rintro ⟨⟩ _
    try dsimp only at _
    refine c_seq ?_
    refine c_sht hpm ?_
    refine c_region ?_
    refine o_L (y_assign rfl) rfl rfl ?_
    refine o_L (y_assign rfl) rfl rfl ?_
    refine o_nil0 rfl ?_
    refine c_seq ?_
    refine c_region ?_
    refine o_L (y_assign rfl) rfl rfl ?_
    refine o_L (y_assign rfl) rfl rfl ?_
    refine o_nil0 rfl ?_
    refine c_seq ?_
    refine c_seq ?_
    refine c_region ?_
    refine o_T (y_move rfl) rfl ?_
    refine o_nil1 109 rfl rfl ?_
    refine c_condF rfl ?_
    refine c_region ?_
    refine o_T (y_move rfl) rfl ?_
    refine o_T (y_move rfl) rfl ?_
    refine o_T (y_nilck rfl) rfl ?_
    refine o_T (y_fa fl_53_0 rfl) rfl ?_
    refine o_T (y_ia ar_34 rfl rfl (by omega) (by omega)) rfl ?_
    refine o_ld one_33 rfl (ms (ms m0)) (Wd.g_h c (by omega) (by omega)) rfl ?_
    refine o_T (y_move rfl) rfl ?_
    refine o_call en_104 rfl (j104 W.h c3 (hb.ok _ c3).1 (by omega) sd hsh hs1) (s_skip (s_skip (s_skip (s_take s_nil)))) rfl ?_
    rintro v S' ⟨v_1, gv_1, gd_1, gx_1, rfl, hF_1, hx_1, rfl⟩
    refine o_T (y_move rfl) rfl ?_
    refine o_T (y_extract rfl rfl) rfl ?_
    refine o_T (y_extract rfl rfl) rfl ?_
    refine o_L (y_assign rfl) rfl rfl ?_
    refine o_L (y_assign rfl) rfl rfl ?_
    refine o_nil0 rfl ?_
    refine c_seq ?_
    refine c_seq ?_
    refine c_region ?_
    refine o_T (y_move rfl) rfl ?_
    refine o_T (y_nilck rfl) rfl ?_
    refine o_T (y_fa fl_53_3 rfl) rfl ?_
    refine o_ld one_4 rfl (ms (ms (ms (ms (ms m0))))) Wd.g27 rfl ?_
    refine o_nil1 135 rfl rfl ?_
    refine c_front (s_get (ks (ks (ks (ks (ks k0))))) (s_get (ks (ks (ks (ks (ks (ks (ks k0))))))) (s_get (ks (ks (ks (ks (ks (ks (ks (ks (ks (ks (ks (ks k0)))))))))))) (s_get (ks (ks (ks (ks (ks (ks (ks (ks (ks (ks (ks k0))))))))))) (s_get k0 (s_get k0 (s_get k0 (s_get k0 (s_get k0 (s_get k0 (s_get k0 (s_get k0 (s_get k0 (s_get k0 (s_get k0 s_nil))))))))))))))) ?_
    refine c_joinD 4 (ι := Value × Value × List Chunk × List Chunk × List Chunk × Value × Int) (fun i => [(18, i.2.2.2.2.2.1), (20, .int .i64 i.2.2.2.2.2.2)]) (fun i => [[(A.b, .cells (A.wd q x { V with mine := i.1, outs := i.2.1 }).enc 53 (0, 0))], i.2.2.1, i.2.2.2.1, i.2.2.2.2.1]) (fun i => (q = true → HsG (upA x.H c ((x.H c).closeK sd)) A.qv A.qb i.2.2.1) ∧ PM (m + 24) i.1 i.2.2.2.1 ∧ PO (m + 1) i.2.1 i.2.2.2.2.1) (fun _ _ h => h) ?_ ?_
    · skip
      refine c_cond rfl (fun h688 => ?_) (fun h688 => ?_)
      · try simp only [decide_eq_true_eq, decide_eq_false_iff_not, Bool.not_eq_true', Bool.not_eq_false', Int.not_lt, Int.not_le, Decidable.not_not, beq_iff_eq, bne_iff_ne, ne_eq, beq_eq_false_iff_ne, WA.wd] at h688
        refine c_seq ?_
        refine c_seq ?_
        refine c_region ?_
        refine o_T (y_move rfl) rfl ?_
        refine o_nil1 136 rfl rfl ?_
        refine c_condF rfl ?_
        refine c_region ?_
        refine o_T (y_move rfl) rfl ?_
        refine o_T (y_move rfl) rfl ?_
        refine o_T (y_nilck rfl) rfl ?_
        refine o_T (y_fa fl_53_2 rfl) rfl ?_
        refine o_T (y_ia ar_34 rfl rfl (by omega) (by omega)) rfl ?_
        refine o_ld one_33 rfl m0 (Wd.g_q c (by omega) (by omega)) rfl ?_
        refine o_T (y_move rfl) rfl ?_
        refine o_call en_104 rfl (j104 (W.q h688) c3 (hb.ok _ c3).1 (by omega) sd hsh hs1) (s_skip (s_take s_nil)) rfl ?_
        rintro v S' ⟨v_2, gv_2, gd_2, gx_2, rfl, hF_2, hx_2, rfl⟩
        refine o_T (y_move rfl) rfl ?_
        refine o_T (y_extract rfl rfl) rfl ?_
        refine o_T (y_extract rfl rfl) rfl ?_
        refine o_L (y_assign rfl) rfl rfl ?_
        refine o_L (y_assign rfl) rfl rfl ?_
        refine o_nil0 rfl ?_
        refine c_seq ?_
        refine c_seq ?_
        refine c_region ?_
        refine o_T (y_move rfl) rfl ?_
        refine o_T (y_move rfl) rfl ?_
        refine o_T (y_neq rfl rfl) rfl ?_
        refine o_T (y_move rfl) rfl ?_
        refine o_split 162 rfl (fun h694 => ?_) (fun h694 => ?_)
        · try simp only [decide_eq_true_eq, decide_eq_false_iff_not, Bool.not_eq_true', Bool.not_eq_false', Int.not_lt, Int.not_le, Decidable.not_not, beq_iff_eq, bne_iff_ne, ne_eq, beq_eq_false_iff_ne, WA.wd] at h694
          first | exact absurd trivial h694 | exact absurd rfl h694 | (simp at h694; done)
        · try simp only [decide_eq_true_eq, decide_eq_false_iff_not, Bool.not_eq_true', Bool.not_eq_false', Int.not_lt, Int.not_le, Decidable.not_not, beq_iff_eq, bne_iff_ne, ne_eq, beq_eq_false_iff_ne, WA.wd] at h694
          refine o_take rfl rfl rfl ?_
          refine o_T (y_move rfl) rfl ?_
          refine o_take rfl rfl rfl ?_
          refine o_T (y_move rfl) rfl ?_
          refine o_take rfl rfl rfl ?_
          refine o_callrv en_81 rfl (t81 _ _ _ _ _ _ _ _ hF_1 hF_2) (s_get (ks (ks (ks (ks (ks (ks k0)))))) (s_get (ks (ks (ks (ks (ks (ks k0)))))) (s_get k0 (s_get k0 s_nil)))) rfl ?_
          refine o_take rfl rfl rfl ?_
          refine o_T (y_not rfl) rfl ?_
          refine o_T (y_pickF rfl rfl) rfl ?_
          refine o_nil1 167 rfl rfl ?_
          refine c_cond rfl (fun h694_1 => ?_) (fun h694_1 => ?_)
          · try simp only [decide_eq_true_eq, decide_eq_false_iff_not, Bool.not_eq_true', Bool.not_eq_false', Int.not_lt, Int.not_le, Decidable.not_not, beq_iff_eq, bne_iff_ne, ne_eq, beq_eq_false_iff_ne, WA.wd] at h694_1
            first | exact absurd trivial h694_1 | exact absurd rfl h694_1 | (simp at h694_1; done)
          · try simp only [decide_eq_true_eq, decide_eq_false_iff_not, Bool.not_eq_true', Bool.not_eq_false', Int.not_lt, Int.not_le, Decidable.not_not, beq_iff_eq, bne_iff_ne, ne_eq, beq_eq_false_iff_ne, WA.wd] at h694_1
            refine c_skip ?_
            refine c_region ?_
            refine o_T (y_move rfl) rfl ?_
            refine o_T (y_move rfl) rfl ?_
            refine o_call en_82 rfl (t82 A q x V W.m W.o (by omega) (by omega) hF_2) (s_get (ks (ks (ks k0))) (s_get (ks (ks (ks k0))) (s_get (ks (ks (ks k0))) (s_get k0 (s_get k0 s_nil))))) rfl ?_
            rintro v S' ⟨vm_1, vo_1, gm_1, go_1, rfl, hm_1, ho_1, rfl⟩
            refine o_nil0 rfl ?_
            refine ⟨(vm_1, vo_1, _, _, _, _, _), ⟨fun _ => hx_2, hm_1.mono (by omega), ho_1.mono (by omega)⟩, ⟨rfl, rfl, trivial⟩, ⟨rfl, rfl⟩, _, ((s_get k0 (s_get (ks (ks k0)) (s_get k0 (s_get k0 (s_get k0 (s_get k0 (s_get k0 (s_get k0 (s_get k0 (s_get k0 (s_get k0 (s_get k0 (s_get k0 (s_get k0 (s_get k0 s_nil))))))))))))))))⟩
      · try simp only [decide_eq_true_eq, decide_eq_false_iff_not, Bool.not_eq_true', Bool.not_eq_false', Int.not_lt, Int.not_le, Decidable.not_not, beq_iff_eq, bne_iff_ne, ne_eq, beq_eq_false_iff_ne, WA.wd] at h688
        refine c_skip ?_
        refine ⟨(V.mine, V.outs, _, _, _, _, _), ⟨fun z => absurd (z.symm.trans h688) (fun y => nomatch y), W.m.mono (by omega), W.o.mono (by omega)⟩, ⟨rfl, rfl, trivial⟩, ⟨rfl, rfl⟩, _, ((s_take (s_take (s_take (s_take (s_take (s_take (s_take (s_take (s_take (s_take (s_take (s_take (s_take (s_take (s_take s_nil))))))))))))))))⟩
    · rintro ⟨vm2, vo2, gq2, gm2, go2, v18, v20⟩ ⟨hq2, hm2, ho2⟩
      try dsimp only at hq2
      refine c_seq ?_
      refine c_seq ?_
      refine c_region ?_
      refine o_T (y_move rfl) rfl ?_
      refine o_T (y_move rfl) rfl ?_
      refine o_T (y_neq rfl rfl) rfl ?_
      refine o_nil1 173 rfl rfl ?_
      refine c_cond rfl (fun h699 => ?_) (fun h699 => ?_)
      · try simp only [decide_eq_true_eq, decide_eq_false_iff_not, Bool.not_eq_true', Bool.not_eq_false', Int.not_lt, Int.not_le, Decidable.not_not, beq_iff_eq, bne_iff_ne, ne_eq, beq_eq_false_iff_ne, WA.wd] at h699
        exact absurd hE h699
      · try simp only [decide_eq_true_eq, decide_eq_false_iff_not, Bool.not_eq_true', Bool.not_eq_false', Int.not_lt, Int.not_le, Decidable.not_not, beq_iff_eq, bne_iff_ne, ne_eq, beq_eq_false_iff_ne, WA.wd] at h699
        refine c_skip ?_
        refine c_seq ?_
        refine c_seq ?_
        refine c_region ?_
        refine o_T (y_move rfl) rfl ?_
        refine o_T (y_neq rfl rfl) rfl ?_
        refine o_nil1 175 rfl rfl ?_
        refine c_cond rfl (fun h702 => ?_) (fun h702 => ?_)
        · try simp only [decide_eq_true_eq, decide_eq_false_iff_not, Bool.not_eq_true', Bool.not_eq_false', Int.not_lt, Int.not_le, Decidable.not_not, beq_iff_eq, bne_iff_ne, ne_eq, beq_eq_false_iff_ne, WA.wd] at h702
          refine c_seq ?_
          obtain ⟨pf, cf, hvf⟩ := hF_1.slice
          subst hvf
          refine c_region ?_
          refine o_T (y_move rfl) rfl ?_
          refine o_T (y_len Tryz.underlying51 rfl) rfl ?_
          refine o_T (y_eql rfl rfl) rfl ?_
          refine o_L (y_assign rfl) rfl rfl ?_
          refine o_nil0 rfl ?_
          refine c_ret ?_
          refine fun aX wX heX hsX => ret1 Tryz.results49 heX rfl (s_get k0 (s_get (ks (ks (ks (ks (ks k0))))) (s_get k0 (s_get (ks (ks (ks (ks (ks (ks (ks (ks k0)))))))) (s_get (ks (ks (ks (ks (ks (ks (ks (ks k0)))))))) (s_get (ks (ks (ks (ks k0)))) (s_get (ks (ks (ks (ks (ks (ks (ks k0))))))) (s_get (ks (ks (ks (ks (ks (ks (ks k0))))))) (s_get (ks k0) (s_get k0 s_nil)))))))))) ?_
          obtain ⟨eF, eH⟩ := hF0 h702
          rw [eH, upA_self] at hq2
          have hhx := hx_1
          rw [eH, upA_self] at hhx
          exact ⟨congrArg Value.bool (decide_eq_true (by rw [eF]; rfl)), x, hY0, { V with mine := vm2, outs := vo2 }, _, _, _, _, _, _, _, _, _, ⟨hhx, hq2, W.w, W.n, W.s, W.r, W.i.mono (by omega), ho2.mono (by omega), hm2.mono (by omega)⟩, rfl, rfl⟩
        · try simp only [decide_eq_true_eq, decide_eq_false_iff_not, Bool.not_eq_true', Bool.not_eq_false', Int.not_lt, Int.not_le, Decidable.not_not, beq_iff_eq, bne_iff_ne, ne_eq, beq_eq_false_iff_ne, WA.wd] at h702
          exfalso; omega

end Go.Proofs.Qxb6500351aGreat
