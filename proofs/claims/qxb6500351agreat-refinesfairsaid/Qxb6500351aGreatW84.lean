/- MADE BY PROGRAM (tools/gen.py over tools/specsw.py): walks. -/
import Derived.Test.Qxb6500351aGreatMd26
set_option linter.unusedVariables false
set_option linter.unusedSimpArgs false
namespace Go.Proofs.Qxb6500351aGreat
open Go.Eng
set_option maxRecDepth 20000
set_option maxHeartbeats 4000000
attribute [local irreducible] Hst.ent Hst.err Hst.infoC
/-- (*e2e/towerlaw.World).Send -/
theorem t47 (A : WA) (q : Bool) (x : Wrld) (V : WV) (m : Nat) (gh gq gw gn gs gr gi go gm : List Chunk) (W : WG A q x V m gh gq gw gn gs gr gi go gm) (hm : m ≤ 2700000000000) (hz : Szs x) (hb : HBnd x) (c : Nat) (c3 : c < 3) (sd : Int) (bd cap e : Nat) (cs : Array Value) (fz : Nat × Nat) (d : List Int) (hy : BytAt 0 d.length cap cs d) (Y : Wrld → Prop) (hs1 : (x.H c).oursB sd = true → 0 ≤ ((x.H c).ent sd).slot ∧ ((x.H c).ent sd).slot < 4) (hs2 : (x.H c).sendE sd d = (x.sendW c sd d.length).2) (hs3 : (x.H c).sndN sd d = (x.sendW c sd d.length).1) (hs4 : (x.H c).sendE sd d = 0 → nTook x.N (nFind x.N c sd) ((x.H c).sndN sd d) d = true) (hs5 : ((x.H c).sndF sd d).length ≤ 24) (hs6 : (x.H c).sndN sd d ≤ 1000) (hY0 : ¬ (x.H c).sendE sd d = 0 → Y x) (hY1 : (x.H c).sendE sd d = 0 → Y (({ x with H := (upA x.H c ((x.H c).sndH sd d)), N := nTaken x.N (nFind x.N c sd) ((x.H c).sndN sd d) d } : Wrld).put c ((x.H c).sndF sd d))) : Trip Tryz.prog 47 #[.pointer (some ⟨A.b, 0, none⟩), .int .i64 (c : Int), .int .i64 sd, .slice (some ⟨bd, 0, none⟩) d.length cap] [[(A.b, .cells (A.wd q x V).enc 53 (0, 0))], gh, gq, gw, gn, gs, gr, gi, go, gm, [(bd, .cells cs e fz)]] (fun u S' => u = .bool true ∧ ∃ y, Y y ∧ WPost A q y V.cm (m + 60) S') := by
  have hlb := hb.b c c3
  have hdb := hy.bytes
  have hdl := hy.len
  refine fn_entry (args := [.pointer (some ⟨A.b, 0, none⟩), .int .i64 (c : Int), .int .i64 sd, .slice (some ⟨bd, 0, none⟩) d.length cap]) Tryz.func47 rfl Tryz.ntmps47 rfl (fun w0 => ?_)
  refine c_seq ?_
  refine c_region ?_
  refine o_L (y_assign rfl) rfl rfl ?_
  refine o_nil0 rfl ?_
  refine c_seq ?_
  refine c_region ?_
  refine o_T (y_move rfl) rfl ?_
  refine o_T (y_move rfl) rfl ?_
  refine o_T (y_move rfl) rfl ?_
  refine o_call en_55 rfl (t55 _ _ _ _ _ _ (by assumption) _ W.h hb.ok) (s_take (s_take s_nil)) rfl ?_
  rintro v S' ⟨pc_1, gc_1, rfl, hi_1, rfl⟩
  refine o_T (y_move rfl) rfl ?_
  refine o_T (y_extract rfl rfl) rfl ?_
  refine o_T (y_extract rfl rfl) rfl ?_
  refine o_alloc ze_69 rfl rfl (fun b_1 => ?_)
  refine o_sta ag_69 rfl rfl (si_plain hi_1) rfl r0 (setAll_full _ _ rfl) (of_ble rfl) ?_
  refine o_L (y_assign rfl) rfl rfl ?_
  refine o_nil0 rfl ?_
  refine c_seq ?_
  refine c_region ?_
  refine o_L (y_assign rfl) rfl rfl ?_
  refine o_L (y_assign rfl) rfl rfl ?_
  refine o_nil0 rfl ?_
  refine c_seq ?_
  refine c_seq ?_
  refine c_region ?_
  refine o_T (y_move rfl) rfl ?_
  refine o_nil1 29 rfl rfl ?_
  refine c_joinE (ι := Unit) (fun i => [(11, .int .i64 (x.sendW c sd d.length).1), (12, .int .i64 (x.sendW c sd d.length).2)]) (fun i => True) (fun _ _ h => h) ?_ ?_
  · skip
    refine c_cond rfl (fun h596 => ?_) (fun h596 => ?_)
    · try simp only [decide_eq_true_eq, decide_eq_false_iff_not, Bool.not_eq_true', Bool.not_eq_false', Int.not_lt, Int.not_le, Decidable.not_not, beq_iff_eq, bne_iff_ne, ne_eq, beq_eq_false_iff_ne, WA.wd] at h596
      have he0 := ours_err h596
      obtain ⟨bi_1, hpcbi_1, hgcbi_1⟩ := InfG.ok hi_1 he0
      subst hpcbi_1 hgcbi_1
      refine c_region ?_
      refine o_T (y_fa fl_69_1 rfl) rfl ?_
      refine o_ld one_67 rfl m0 Si.g8 rfl ?_
      refine o_T (y_move rfl) rfl ?_
      refine o_T (y_len Tryz.underlying81 rfl) rfl ?_
      refine o_callrv en_94 rfl (t94 _ _ _ (info_que (hb.ok _ c3).1 _)) (s_skip (s_take s_nil)) rfl ?_
      refine o_T (y_move rfl) rfl ?_
      refine o_T (y_extract rfl rfl) rfl ?_
      refine o_T (y_extract rfl rfl) rfl ?_
      refine o_L (y_assign rfl) rfl rfl ?_
      refine o_L (y_assign rfl) rfl rfl ?_
      refine o_nil0 rfl ?_
      refine ⟨(), trivial, ⟨gteI rfl (by unfold Wrld.sendW; rw [if_pos h596]), gteI rfl (by unfold Wrld.sendW; rw [if_pos h596]), trivial⟩, ⟨rfl, rfl⟩, _, ((s_take (s_take (s_take (s_take (s_take (s_take (s_take (s_take (s_take (s_take (s_take (s_take (s_take s_nil))))))))))))))⟩
    · try simp only [decide_eq_true_eq, decide_eq_false_iff_not, Bool.not_eq_true', Bool.not_eq_false', Int.not_lt, Int.not_le, Decidable.not_not, beq_iff_eq, bne_iff_ne, ne_eq, beq_eq_false_iff_ne, WA.wd] at h596
      refine c_skip ?_
      refine ⟨(), trivial, ⟨gteI rfl (by unfold Wrld.sendW; rw [if_neg (by rw [h596]; decide)]), gteI rfl (by unfold Wrld.sendW; rw [if_neg (by rw [h596]; decide)]), trivial⟩, ⟨rfl, rfl⟩, _, ((s_take (s_take (s_take (s_take (s_take (s_take (s_take (s_take (s_take (s_take (s_take (s_take (s_take s_nil))))))))))))))⟩
  · rintro ⟨⟩ _
    try dsimp only at _
    refine c_seq ?_
    refine c_region ?_
    refine o_T (y_move rfl) rfl ?_
    refine o_call en_78 rfl (t78s bd 0 d.length cap e cs d hy fz) (s_skip (s_skip (s_skip (s_skip (s_skip (s_skip (s_skip (s_skip (s_skip (s_skip (s_skip (s_skip (s_take s_nil))))))))))))) rfl ?_
    rintro v S' ⟨b_2, rfl, rfl⟩
    refine o_L (y_assign rfl) rfl rfl ?_
    refine o_nil0 rfl ?_
    refine c_seq ?_
    refine c_region ?_
    refine o_T (y_move rfl) rfl ?_
    refine o_T (y_move rfl) rfl ?_
    refine o_T (y_nilck rfl) rfl ?_
    refine o_T (y_fa fl_53_0 rfl) rfl ?_
    refine o_T (y_ia ar_34 rfl rfl (by omega) (by omega)) rfl ?_
    refine o_ld one_33 rfl (ms (ms (ms (ms m0)))) (Wd.g_h c (by omega) (by omega)) rfl ?_
    refine o_T (y_move rfl) rfl ?_
    refine o_T (y_move rfl) rfl ?_
    refine o_call en_95 rfl (j95 W.h c3 (hb.ok _ c3).1 (by omega) sd b_2 d hdb (by omega) hs1) (s_get (ks (ks (ks (ks (ks k0))))) (s_get (ks k0) s_nil)) rfl ?_
    rintro v S' ⟨v_1, gv_1, gd_1, gx_1, rfl, hF_1, hx_1, rfl⟩
    refine o_T (y_move rfl) rfl ?_
    refine o_T (y_extract rfl rfl) rfl ?_
    refine o_T (y_extract rfl rfl) rfl ?_
    refine o_T (y_extract rfl rfl) rfl ?_
    refine o_L (y_assign rfl) rfl rfl ?_
    refine o_L (y_assign rfl) rfl rfl ?_
    refine o_L (y_assign rfl) rfl rfl ?_
    refine o_nil0 rfl ?_
    refine c_seq ?_
    refine c_region ?_
    refine o_T (y_move rfl) rfl ?_
    refine o_call en_80 rfl (t80s _ _ hdb hdl) (s_skip (s_skip (s_skip (s_take s_nil)))) rfl ?_
    rintro v S' ⟨l_1, rfl, hl_1, hb_1, rfl⟩
    refine o_nil0 rfl ?_
    refine c_seq ?_
    refine c_seq ?_
    refine c_region ?_
    refine o_T (y_move rfl) rfl ?_
    refine o_T (y_nilck rfl) rfl ?_
    refine o_T (y_fa fl_53_3 rfl) rfl ?_
    refine o_ld one_4 rfl (ms (ms (ms (ms (ms (ms (ms m0))))))) Wd.g27 rfl ?_
    refine o_nil1 58 rfl rfl ?_
    refine c_front (s_get (ks (ks (ks (ks (ks (ks (ks k0))))))) (s_get (ks (ks (ks (ks (ks (ks (ks k0))))))) (s_get (ks (ks (ks (ks (ks (ks (ks (ks (ks (ks (ks (ks (ks k0))))))))))))) (s_get (ks (ks (ks (ks (ks (ks (ks (ks (ks (ks (ks (ks k0)))))))))))) (s_get k0 (s_get k0 (s_get k0 (s_get k0 (s_get k0 (s_get k0 (s_get k0 (s_get k0 (s_get k0 (s_get k0 (s_get k0 (s_get k0 s_nil)))))))))))))))) ?_
    refine c_joinD 4 (ι := Value × Value × List Chunk × List Chunk × List Chunk) (fun i => []) (fun i => [[(A.b, .cells (A.wd q x { V with mine := i.1, outs := i.2.1 }).enc 53 (0, 0))], i.2.2.1, i.2.2.2.1, i.2.2.2.2]) (fun i => (q = true → HsG (upA x.H c ((x.H c).sndH sd d)) A.qv A.qb i.2.2.1) ∧ PM (m + 24) i.1 i.2.2.2.1 ∧ PO (m + 1) i.2.1 i.2.2.2.2) (fun _ _ h => h) ?_ ?_
    · skip
      refine c_cond rfl (fun h602 => ?_) (fun h602 => ?_)
      · try simp only [decide_eq_true_eq, decide_eq_false_iff_not, Bool.not_eq_true', Bool.not_eq_false', Int.not_lt, Int.not_le, Decidable.not_not, beq_iff_eq, bne_iff_ne, ne_eq, beq_eq_false_iff_ne, WA.wd] at h602
        refine c_seq ?_
        refine c_region ?_
        refine o_T (y_move rfl) rfl ?_
        refine o_call en_78 rfl (t78s bd 0 d.length cap e cs d hy fz) (s_skip (s_skip (s_skip (s_skip (s_skip (s_skip (s_skip (s_skip (s_take s_nil))))))))) rfl ?_
        rintro v S' ⟨b_3, rfl, rfl⟩
        refine o_L (y_assign rfl) rfl rfl ?_
        refine o_nil0 rfl ?_
        refine c_seq ?_
        refine c_region ?_
        refine o_T (y_move rfl) rfl ?_
        refine o_T (y_move rfl) rfl ?_
        refine o_T (y_nilck rfl) rfl ?_
        refine o_T (y_fa fl_53_2 rfl) rfl ?_
        refine o_T (y_ia ar_34 rfl rfl (by omega) (by omega)) rfl ?_
        refine o_ld one_33 rfl (ms (ms m0)) (Wd.g_q c (by omega) (by omega)) rfl ?_
        refine o_T (y_move rfl) rfl ?_
        refine o_T (y_move rfl) rfl ?_
        refine o_call en_95 rfl (j95 (W.q h602) c3 (hb.ok _ c3).1 (by omega) sd b_3 d hdb (by omega) hs1) (s_get (ks (ks (ks k0))) (s_get (ks k0) s_nil)) rfl ?_
        rintro v S' ⟨v_2, gv_2, gd_2, gx_2, rfl, hF_2, hx_2, rfl⟩
        refine o_T (y_move rfl) rfl ?_
        refine o_T (y_extract rfl rfl) rfl ?_
        refine o_T (y_extract rfl rfl) rfl ?_
        refine o_T (y_extract rfl rfl) rfl ?_
        refine o_L (y_assign rfl) rfl rfl ?_
        refine o_L (y_assign rfl) rfl rfl ?_
        refine o_L (y_assign rfl) rfl rfl ?_
        refine o_nil0 rfl ?_
        refine c_seq ?_
        refine c_region ?_
        refine o_T (y_move rfl) rfl ?_
        refine o_call en_80 rfl (t80s _ _ hdb hdl) (s_skip (s_skip (s_skip (s_take s_nil)))) rfl ?_
        rintro v S' ⟨l_2, rfl, hl_2, hb_2, rfl⟩
        refine o_nil0 rfl ?_
        refine c_seq ?_
        refine c_seq ?_
        refine c_region ?_
        refine o_T (y_move rfl) rfl ?_
        refine o_T (y_move rfl) rfl ?_
        refine o_T (y_neq rfl rfl) rfl ?_
        refine o_T (y_move rfl) rfl ?_
        refine o_split 79 rfl (fun h606 => ?_) (fun h606 => ?_)
        · try simp only [decide_eq_true_eq, decide_eq_false_iff_not, Bool.not_eq_true', Bool.not_eq_false', Int.not_lt, Int.not_le, Decidable.not_not, beq_iff_eq, bne_iff_ne, ne_eq, beq_eq_false_iff_ne, WA.wd] at h606
          first | exact absurd trivial h606 | exact absurd rfl h606 | (simp at h606; done)
        · try simp only [decide_eq_true_eq, decide_eq_false_iff_not, Bool.not_eq_true', Bool.not_eq_false', Int.not_lt, Int.not_le, Decidable.not_not, beq_iff_eq, bne_iff_ne, ne_eq, beq_eq_false_iff_ne, WA.wd] at h606
          refine o_take rfl rfl rfl ?_
          refine o_T (y_move rfl) rfl ?_
          refine o_take rfl rfl rfl ?_
          refine o_T (y_move rfl) rfl ?_
          refine o_take rfl rfl rfl ?_
          refine o_T (y_neq rfl rfl) rfl ?_
          refine o_T (y_pickF rfl rfl) rfl ?_
          refine o_T (y_move rfl) rfl ?_
          refine o_split 84 rfl (fun h606_1 => ?_) (fun h606_1 => ?_)
          · try simp only [decide_eq_true_eq, decide_eq_false_iff_not, Bool.not_eq_true', Bool.not_eq_false', Int.not_lt, Int.not_le, Decidable.not_not, beq_iff_eq, bne_iff_ne, ne_eq, beq_eq_false_iff_ne, WA.wd] at h606_1
            first | exact absurd trivial h606_1 | exact absurd rfl h606_1 | (simp at h606_1; done)
          · try simp only [decide_eq_true_eq, decide_eq_false_iff_not, Bool.not_eq_true', Bool.not_eq_false', Int.not_lt, Int.not_le, Decidable.not_not, beq_iff_eq, bne_iff_ne, ne_eq, beq_eq_false_iff_ne, WA.wd] at h606_1
            refine o_take rfl rfl rfl ?_
            refine o_T (y_move rfl) rfl ?_
            refine o_take rfl rfl rfl ?_
            refine o_T (y_move rfl) rfl ?_
            refine o_take rfl rfl rfl ?_
            refine o_callrv en_81 rfl (t81 _ _ _ _ _ _ _ _ hF_1 hF_2) (s_get (ks (ks (ks (ks (ks (ks (ks (ks (ks k0))))))))) (s_get (ks (ks (ks (ks (ks (ks (ks (ks (ks k0))))))))) (s_get (ks k0) (s_get (ks k0) s_nil)))) rfl ?_
            refine o_take rfl rfl rfl ?_
            refine o_T (y_not rfl) rfl ?_
            refine o_T (y_pickF rfl rfl) rfl ?_
            refine o_nil1 89 rfl rfl ?_
            refine c_cond rfl (fun h606_2 => ?_) (fun h606_2 => ?_)
            · try simp only [decide_eq_true_eq, decide_eq_false_iff_not, Bool.not_eq_true', Bool.not_eq_false', Int.not_lt, Int.not_le, Decidable.not_not, beq_iff_eq, bne_iff_ne, ne_eq, beq_eq_false_iff_ne, WA.wd] at h606_2
              first | exact absurd trivial h606_2 | exact absurd rfl h606_2 | (simp at h606_2; done)
            · try simp only [decide_eq_true_eq, decide_eq_false_iff_not, Bool.not_eq_true', Bool.not_eq_false', Int.not_lt, Int.not_le, Decidable.not_not, beq_iff_eq, bne_iff_ne, ne_eq, beq_eq_false_iff_ne, WA.wd] at h606_2
              refine c_skip ?_
              refine c_region ?_
              refine o_T (y_move rfl) rfl ?_
              refine o_T (y_move rfl) rfl ?_
              refine o_call en_82 rfl (t82 A q x V W.m W.o (by omega) (by omega) hF_2) (s_get (ks (ks (ks (ks (ks k0))))) (s_get (ks (ks (ks (ks (ks k0))))) (s_get (ks (ks (ks (ks (ks k0))))) (s_get (ks k0) (s_get (ks k0) s_nil))))) rfl ?_
              rintro v S' ⟨vm_1, vo_1, gm_1, go_1, rfl, hm_1, ho_1, rfl⟩
              refine o_nil0 rfl ?_
              refine ⟨(vm_1, vo_1, _, _, _), ⟨fun _ => hx_2, hm_1.mono (by omega), ho_1.mono (by omega)⟩, trivial, ⟨rfl, rfl⟩, _, ((s_get k0 (s_get (ks (ks (ks k0))) (s_get k0 (s_get k0 (s_get (ks (ks k0)) (s_get (ks (ks k0)) (s_get (ks (ks k0)) (s_get (ks (ks k0)) (s_get (ks k0) (s_get (ks k0) (s_get (ks k0) (s_get (ks k0) (s_get (ks k0) (s_get (ks k0) (s_get (ks k0) (s_get (ks k0) s_nil)))))))))))))))))⟩
      · try simp only [decide_eq_true_eq, decide_eq_false_iff_not, Bool.not_eq_true', Bool.not_eq_false', Int.not_lt, Int.not_le, Decidable.not_not, beq_iff_eq, bne_iff_ne, ne_eq, beq_eq_false_iff_ne, WA.wd] at h602
        refine c_skip ?_
        refine ⟨(V.mine, V.outs, _, _, _), ⟨fun z => absurd (z.symm.trans h602) (fun y => nomatch y), W.m.mono (by omega), W.o.mono (by omega)⟩, trivial, ⟨rfl, rfl⟩, _, ((s_take (s_take (s_take (s_take (s_take (s_take (s_take (s_take (s_take (s_take (s_take (s_take (s_take (s_take (s_take (s_take s_nil)))))))))))))))))⟩
    · rintro ⟨vm2, vo2, gq2, gm2, go2⟩ ⟨hq2, hm2, ho2⟩
      try dsimp only at hq2
      refine c_seq ?_
      refine c_seq ?_
      refine c_region ?_
      refine o_T (y_move rfl) rfl ?_
      refine o_T (y_move rfl) rfl ?_
      refine o_T (y_neq rfl rfl) rfl ?_
      refine o_T (y_move rfl) rfl ?_
      refine o_split 96 rfl (fun h611 => ?_) (fun h611 => ?_)
      · try simp only [decide_eq_true_eq, decide_eq_false_iff_not, Bool.not_eq_true', Bool.not_eq_false', Int.not_lt, Int.not_le, Decidable.not_not, beq_iff_eq, bne_iff_ne, ne_eq, beq_eq_false_iff_ne, WA.wd] at h611
        first | exact absurd hs2 h611 | exact absurd hs3 h611
      · try simp only [decide_eq_true_eq, decide_eq_false_iff_not, Bool.not_eq_true', Bool.not_eq_false', Int.not_lt, Int.not_le, Decidable.not_not, beq_iff_eq, bne_iff_ne, ne_eq, beq_eq_false_iff_ne, WA.wd] at h611
        refine o_take rfl rfl rfl ?_
        refine o_T (y_move rfl) rfl ?_
        refine o_take rfl rfl rfl ?_
        refine o_T (y_move rfl) rfl ?_
        refine o_take rfl rfl rfl ?_
        refine o_T (y_neq rfl rfl) rfl ?_
        refine o_T (y_pickF rfl rfl) rfl ?_
        refine o_nil1 100 rfl rfl ?_
        refine c_cond rfl (fun h611_1 => ?_) (fun h611_1 => ?_)
        · try simp only [decide_eq_true_eq, decide_eq_false_iff_not, Bool.not_eq_true', Bool.not_eq_false', Int.not_lt, Int.not_le, Decidable.not_not, beq_iff_eq, bne_iff_ne, ne_eq, beq_eq_false_iff_ne, WA.wd] at h611_1
          first | exact absurd hs2 h611_1 | exact absurd hs3 h611_1
        · try simp only [decide_eq_true_eq, decide_eq_false_iff_not, Bool.not_eq_true', Bool.not_eq_false', Int.not_lt, Int.not_le, Decidable.not_not, beq_iff_eq, bne_iff_ne, ne_eq, beq_eq_false_iff_ne, WA.wd] at h611_1
          refine c_skip ?_
          refine c_seq ?_
          refine c_seq ?_
          refine c_region ?_
          refine o_T (y_move rfl) rfl ?_
          refine o_T (y_neq rfl rfl) rfl ?_
          refine o_nil1 102 rfl rfl ?_
          refine c_cond rfl (fun h614 => ?_) (fun h614 => ?_)
          · try simp only [decide_eq_true_eq, decide_eq_false_iff_not, Bool.not_eq_true', Bool.not_eq_false', Int.not_lt, Int.not_le, Decidable.not_not, beq_iff_eq, bne_iff_ne, ne_eq, beq_eq_false_iff_ne, WA.wd] at h614
            refine c_seq ?_
            obtain ⟨pf, cf, hvf⟩ := hF_1.slice
            subst hvf
            refine c_region ?_
            refine o_T (y_move rfl) rfl ?_
            refine o_T (y_len Tryz.underlying51 rfl) rfl ?_
            refine o_T (y_eql rfl rfl) rfl ?_
            refine o_L (y_assign rfl) rfl rfl ?_
            refine o_nil0 rfl ?_
            refine c_ret ?_
            refine fun aX wX heX hsX => ret1 Tryz.results47 heX rfl (s_get k0 (s_get (ks (ks (ks (ks (ks (ks k0)))))) (s_get k0 (s_get (ks (ks (ks (ks (ks (ks (ks (ks k0)))))))) (s_get (ks (ks (ks (ks (ks (ks (ks (ks k0)))))))) (s_get (ks (ks (ks (ks (ks (ks (ks (ks k0)))))))) (s_get (ks (ks (ks (ks (ks (ks (ks (ks k0)))))))) (s_get (ks (ks (ks (ks (ks (ks (ks (ks k0)))))))) (s_get (ks k0) (s_get k0 s_nil)))))))))) ?_
            have eF : (x.H c).sndF sd d = [] := if_neg h614
            have eH : (x.H c).sndH sd d = x.H c := if_neg h614
            rw [eH, upA_self] at hq2
            have hhx := hx_1
            rw [eH, upA_self] at hhx
            exact ⟨congrArg Value.bool (decide_eq_true (by rw [eF]; rfl)), x, hY0 h614, { V with mine := vm2, outs := vo2 }, _, _, _, _, _, _, _, _, _, ⟨hhx, hq2, W.w, W.n, W.s, W.r, W.i.mono (by omega), ho2.mono (by omega), hm2.mono (by omega)⟩, rfl, rfl⟩
          · try simp only [decide_eq_true_eq, decide_eq_false_iff_not, Bool.not_eq_true', Bool.not_eq_false', Int.not_lt, Int.not_le, Decidable.not_not, beq_iff_eq, bne_iff_ne, ne_eq, beq_eq_false_iff_ne, WA.wd] at h614
            refine c_skip ?_
            refine c_seq ?_
            have hE : (x.H c).sendE sd d = 0 := by omega
            refine c_region ?_
            refine o_T (y_move rfl) rfl ?_
            refine o_T (y_nilck rfl) rfl ?_
            refine o_T (y_fa fl_53_6 rfl) rfl ?_
            refine o_ld one_44 rfl m0 Wd.g30 rfl ?_
            refine o_T (y_move rfl) rfl ?_
            refine o_T (y_move rfl) rfl ?_
            refine o_callrv en_70 rfl (i70 W.n _ _) (s_skip (s_skip (s_skip (s_skip (s_skip (s_skip (s_skip (s_skip (s_skip (s_skip (s_skip (s_skip (s_take s_nil))))))))))))) rfl ?_
            refine o_L (y_assign rfl) rfl rfl ?_
            refine o_nil0 rfl ?_
            refine c_seq ?_
            refine c_seq ?_
            refine c_region ?_
            refine o_T (y_move rfl) rfl ?_
            refine o_T (y_nilck rfl) rfl ?_
            refine o_T (y_fa fl_53_6 rfl) rfl ?_
            refine o_ld one_44 rfl m0 Wd.g30 rfl ?_
            refine o_T (y_move rfl) rfl ?_
            refine o_T (y_move rfl) rfl ?_
            refine o_T (y_move rfl) rfl ?_
            refine o_call en_96 rfl (i96s W.n _ _ bd cap e cs fz d hy (fun y hy => by have := (hz.sent y hy).1; omega) (by omega)) (s_get (ks (ks (ks (ks (ks (ks (ks (ks (ks (ks (ks (ks k0)))))))))))) (s_get (ks (ks (ks (ks (ks (ks (ks (ks k0)))))))) s_nil)) rfl ?_
            rintro v S' ⟨gn_1, rfl, hn_1, rfl⟩
            refine o_T (y_not rfl) rfl ?_
            refine o_nil1 121 rfl rfl ?_
            refine c_cond rfl (fun h618 => ?_) (fun h618 => ?_)
            · try simp only [decide_eq_true_eq, decide_eq_false_iff_not, Bool.not_eq_true', Bool.not_eq_false', Int.not_lt, Int.not_le, Decidable.not_not, beq_iff_eq, bne_iff_ne, ne_eq, beq_eq_false_iff_ne, WA.wd] at h618
              exact absurd ((hs4 hE).symm.trans h618) (fun z => nomatch z)
            · try simp only [decide_eq_true_eq, decide_eq_false_iff_not, Bool.not_eq_true', Bool.not_eq_false', Int.not_lt, Int.not_le, Decidable.not_not, beq_iff_eq, bne_iff_ne, ne_eq, beq_eq_false_iff_ne, WA.wd] at h618
              refine c_skip ?_
              refine c_seq ?_
              refine c_region ?_
              refine o_T (y_move rfl) rfl ?_
              refine o_T (y_move rfl) rfl ?_
              refine o_T (y_move rfl) rfl ?_
              refine o_call en_83 rfl (t83 A q { x with H := (upA x.H c ((x.H c).sndH sd d)), N := nTaken x.N (nFind x.N c sd) ((x.H c).sndN sd d) d } { V with mine := vm2, outs := vo2 } c c3 _ _ _ _ _ _ _ _ _ hF_1 (by omega) W.w hz.wl hm2 ho2 (by omega) (by omega) (by have := hz.out c c3; dsimp only; omega) (by have := hz.spilt; dsimp only; omega)) (s_get (ks (ks k0)) (s_get (ks (ks (ks (ks (ks (ks (ks (ks (ks (ks (ks k0))))))))))) (s_get (ks (ks (ks k0))) (s_get (ks (ks (ks k0))) (s_get (ks (ks (ks (ks k0)))) (s_get (ks (ks (ks (ks k0)))) s_nil)))))) rfl ?_
              rintro v S' ⟨vm_2, vo_2, gw_1, gm_2, go_2, rfl, hw_1, hm_2, ho_2, rfl⟩
              refine o_nil0 rfl ?_
              refine c_seq ?_
              refine c_region ?_
              refine o_L (y_assign rfl) rfl rfl ?_
              refine o_nil0 rfl ?_
              refine c_ret ?_
              refine fun aX wX heX hsX => ret1 Tryz.results47 heX rfl (s_get k0 (s_get (ks (ks (ks (ks (ks (ks (ks k0))))))) (s_get (ks (ks (ks (ks (ks k0))))) (s_get k0 (s_get (ks (ks k0)) (s_get (ks (ks (ks (ks (ks (ks k0)))))) (s_get (ks (ks (ks (ks (ks (ks k0)))))) (s_get (ks (ks (ks (ks (ks (ks k0)))))) (s_get (ks k0) (s_get k0 s_nil)))))))))) ?_
              exact ⟨rfl, _, hY1 hE, { V with mine := vm_2, outs := vo_2 }, _, _, _, _, _, _, _, _, _, ⟨hx_1, hq2, hw_1, hn_1, W.s, W.r, W.i.mono (by omega), ho_2.mono (by omega), hm_2.mono (by omega)⟩, rfl, rfl⟩

end Go.Proofs.Qxb6500351aGreat
