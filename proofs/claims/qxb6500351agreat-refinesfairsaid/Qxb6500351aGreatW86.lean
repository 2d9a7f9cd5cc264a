/- MADE BY PROGRAM (tools/gen.py over tools/specsw.py): walks. -/
import Derived.Test.Qxb6500351aGreatMd26
set_option linter.unusedVariables false
set_option linter.unusedSimpArgs false
namespace Go.Proofs.Qxb6500351aGreat
open Go.Eng
set_option maxRecDepth 20000
set_option maxHeartbeats 4000000
attribute [local irreducible] Hst.ent Hst.err Hst.infoC
/-- (*e2e/towerlaw.World).Recv -/
theorem t48 (A : WA) (q : Bool) (x : Wrld) (V : WV) (m : Nat) (gh gq gw gn gs gr gi go gm : List Chunk) (W : WG A q x V m gh gq gw gn gs gr gi go gm) (hm : m ≤ 2700000000000) (hz : Szs x) (hb : HBnd x) (c : Nat) (c3 : c < 3) (sd mx : Int) (Y : Wrld → Prop) (hs0 : (x.H c).oursB sd = true → ((x.H c).cn sd).x.st = 4 → ((x.H c).cn sd).x.why = 0 → ((x.H c).cn sd).x.peerFin = true) (hs1 : (x.H c).oursB sd = true → 0 ≤ ((x.H c).ent sd).slot ∧ ((x.H c).ent sd).slot < 4) (hrb : Bytes ((x.H c).rcvB sd mx) ∧ ((x.H c).rcvB sd mx).length ≤ 1000) (hs3 : (x.H c).recvE sd mx = (x.recvW c sd mx).2) (hs4 : (((x.H c).rcvB sd mx).length : Int) = (x.recvW c sd mx).1) (hs5 : (x.H c).recvE sd mx = 16 → nEOF x.N (nFind x.N c sd) = true) (hs6 : (x.H c).recvE sd mx = 0 → nReadB x.N (nFind x.N c sd) ((x.H c).rcvB sd mx) = true) (hs7 : ((x.H c).rcvF sd mx).length ≤ 24) (hY0 : ¬ (x.H c).recvE sd mx = 0 → Y x) (hY1 : (x.H c).recvE sd mx = 0 → Y (({ x with H := (upA x.H c ((x.H c).rcvH sd mx)), N := nReadL x.N (nFind x.N c sd) ((x.H c).rcvB sd mx) } : Wrld).put c ((x.H c).rcvF sd mx))) : Trip Tryz.prog 48 #[.pointer (some ⟨A.b, 0, none⟩), .int .i64 (c : Int), .int .i64 sd, .int .i64 mx] [[(A.b, .cells (A.wd q x V).enc 53 (0, 0))], gh, gq, gw, gn, gs, gr, gi, go, gm] (fun u S' => u = .bool true ∧ ∃ y, Y y ∧ WPost A q y V.cm (m + 60) S') := by
  have hlb := hb.b c c3
  refine fn_entry (args := [.pointer (some ⟨A.b, 0, none⟩), .int .i64 (c : Int), .int .i64 sd, .int .i64 mx]) Tryz.func48 rfl Tryz.ntmps48 rfl (fun w0 => ?_)
  refine c_seq ?_
  refine c_region ?_
  refine o_L (y_assign rfl) rfl rfl ?_
  refine o_nil0 rfl ?_
  refine c_seq ?_
  refine c_region ?_
  refine o_T (y_move rfl) rfl ?_
  refine o_T (y_move rfl) rfl ?_
  refine o_T (y_move rfl) rfl ?_
  refine o_call en_55 rfl (t55 _ _ _ _ _ _ (by assumption) _ W.h hb.ok) (s_take (s_take s_nil)) rfl ?_
  rintro v S' ⟨pc_1, gc_1, rfl, hi_1, rfl⟩
  refine o_T (y_move rfl) rfl ?_
  refine o_T (y_extract rfl rfl) rfl ?_
  refine o_T (y_extract rfl rfl) rfl ?_
  refine o_alloc ze_69 rfl rfl (fun b_1 => ?_)
  refine o_sta ag_69 rfl rfl (si_plain hi_1) rfl r0 (setAll_full _ _ rfl) (of_ble rfl) ?_
  refine o_L (y_assign rfl) rfl rfl ?_
  refine o_nil0 rfl ?_
  refine c_seq ?_
  refine c_region ?_
  refine o_L (y_assign rfl) rfl rfl ?_
  refine o_L (y_assign rfl) rfl rfl ?_
  refine o_nil0 rfl ?_
  refine c_seq ?_
  refine c_seq ?_
  refine c_region ?_
  refine o_T (y_move rfl) rfl ?_
  refine o_nil1 27 rfl rfl ?_
  refine c_joinE (ι := Unit) (fun i => [(11, .int .i64 (x.recvW c sd mx).1), (12, .int .i64 (x.recvW c sd mx).2)]) (fun i => True) (fun _ _ h => h) ?_ ?_
  · skip
    refine c_cond rfl (fun h629 => ?_) (fun h629 => ?_)
    · try simp only [decide_eq_true_eq, decide_eq_false_iff_not, Bool.not_eq_true', Bool.not_eq_false', Int.not_lt, Int.not_le, Decidable.not_not, beq_iff_eq, bne_iff_ne, ne_eq, beq_eq_false_iff_ne, WA.wd] at h629
      have he0 := ours_err h629
      obtain ⟨bi_1, hpcbi_1, hgcbi_1⟩ := InfG.ok hi_1 he0
      subst hpcbi_1 hgcbi_1
      refine c_region ?_
      refine o_T (y_fa fl_69_1 rfl) rfl ?_
      refine o_ld one_67 rfl m0 Si.g8 rfl ?_
      refine o_T (y_move rfl) rfl ?_
      refine o_callrv en_97 rfl (t97 _ _ _) (s_skip (s_take s_nil)) rfl ?_
      refine o_T (y_move rfl) rfl ?_
      refine o_T (y_extract rfl rfl) rfl ?_
      refine o_T (y_extract rfl rfl) rfl ?_
      refine o_L (y_assign rfl) rfl rfl ?_
      refine o_L (y_assign rfl) rfl rfl ?_
      refine o_nil0 rfl ?_
      refine ⟨(), trivial, ⟨gteI rfl (by unfold Wrld.recvW; rw [if_pos h629]), gteI rfl (by unfold Wrld.recvW; rw [if_pos h629]), trivial⟩, ⟨rfl, rfl⟩, _, ((s_take (s_take (s_take (s_take (s_take (s_take (s_take (s_take (s_take (s_take (s_take (s_take s_nil)))))))))))))⟩
    · try simp only [decide_eq_true_eq, decide_eq_false_iff_not, Bool.not_eq_true', Bool.not_eq_false', Int.not_lt, Int.not_le, Decidable.not_not, beq_iff_eq, bne_iff_ne, ne_eq, beq_eq_false_iff_ne, WA.wd] at h629
      refine c_skip ?_
      refine ⟨(), trivial, ⟨gteI rfl (by unfold Wrld.recvW; rw [if_neg (by rw [h629]; decide)]), gteI rfl (by unfold Wrld.recvW; rw [if_neg (by rw [h629]; decide)]), trivial⟩, ⟨rfl, rfl⟩, _, ((s_take (s_take (s_take (s_take (s_take (s_take (s_take (s_take (s_take (s_take (s_take (s_take s_nil)))))))))))))⟩
  · rintro ⟨⟩ _
    try dsimp only at _
    refine c_seq ?_
    refine c_region ?_
    refine o_T (y_move rfl) rfl ?_
    refine o_T (y_move rfl) rfl ?_
    refine o_T (y_nilck rfl) rfl ?_
    refine o_T (y_fa fl_53_0 rfl) rfl ?_
    refine o_T (y_ia ar_34 rfl rfl (by omega) (by omega)) rfl ?_
    refine o_ld one_33 rfl (ms (ms m0)) (Wd.g_h c (by omega) (by omega)) rfl ?_
    refine o_T (y_move rfl) rfl ?_
    refine o_T (y_move rfl) rfl ?_
    refine o_call en_98 rfl (i98 W.h c3 (hb.ok _ c3).1 (by omega) sd mx hs0 hs1 hrb) (s_skip (s_skip (s_skip (s_take s_nil)))) rfl ?_
    rintro v S' ⟨bb_1, gb_1, v_1, gv_1, gd_1, gx_1, rfl, hR_1, hF_1, hx_1, rfl⟩
    refine o_T (y_move rfl) rfl ?_
    refine o_T (y_extract rfl rfl) rfl ?_
    refine o_T (y_extract rfl rfl) rfl ?_
    refine o_T (y_extract rfl rfl) rfl ?_
    refine o_L (y_assign rfl) rfl rfl ?_
    refine o_L (y_assign rfl) rfl rfl ?_
    refine o_L (y_assign rfl) rfl rfl ?_
    refine o_nil0 rfl ?_
    refine c_seq ?_
    refine c_seq ?_
    refine c_region ?_
    refine o_T (y_move rfl) rfl ?_
    refine o_T (y_nilck rfl) rfl ?_
    refine o_T (y_fa fl_53_3 rfl) rfl ?_
    refine o_ld one_4 rfl (ms (ms (ms (ms (ms (ms m0)))))) Wd.g27 rfl ?_
    refine o_nil1 51 rfl rfl ?_
    refine c_front (s_get (ks (ks (ks (ks (ks (ks k0)))))) (s_get (ks (ks (ks (ks (ks (ks k0)))))) (s_get (ks (ks (ks (ks (ks (ks (ks (ks (ks (ks (ks (ks k0)))))))))))) (s_get (ks (ks (ks (ks (ks (ks (ks (ks (ks (ks (ks k0))))))))))) (s_get k0 (s_get k0 (s_get k0 (s_get k0 (s_get k0 (s_get k0 (s_get k0 (s_get k0 (s_get k0 (s_get k0 (s_get k0 s_nil))))))))))))))) ?_
    refine c_joinD 4 (ι := Value × Value × List Chunk × List Chunk × List Chunk) (fun i => []) (fun i => [[(A.b, .cells (A.wd q x { V with mine := i.1, outs := i.2.1 }).enc 53 (0, 0))], i.2.2.1, i.2.2.2.1, i.2.2.2.2]) (fun i => (q = true → HsG (upA x.H c ((x.H c).rcvH sd mx)) A.qv A.qb i.2.2.1) ∧ PM (m + 25) i.1 i.2.2.2.1 ∧ PO (m + 1) i.2.1 i.2.2.2.2) (fun _ _ h => h) ?_ ?_
    · skip
      refine c_cond rfl (fun h633 => ?_) (fun h633 => ?_)
      · try simp only [decide_eq_true_eq, decide_eq_false_iff_not, Bool.not_eq_true', Bool.not_eq_false', Int.not_lt, Int.not_le, Decidable.not_not, beq_iff_eq, bne_iff_ne, ne_eq, beq_eq_false_iff_ne, WA.wd] at h633
        refine c_seq ?_
        refine c_region ?_
        refine o_T (y_move rfl) rfl ?_
        refine o_T (y_move rfl) rfl ?_
        refine o_T (y_nilck rfl) rfl ?_
        refine o_T (y_fa fl_53_2 rfl) rfl ?_
        refine o_T (y_ia ar_34 rfl rfl (by omega) (by omega)) rfl ?_
        refine o_ld one_33 rfl m0 (Wd.g_q c (by omega) (by omega)) rfl ?_
        refine o_T (y_move rfl) rfl ?_
        refine o_T (y_move rfl) rfl ?_
        refine o_call en_98 rfl (i98 (W.q h633) c3 (hb.ok _ c3).1 (by omega) sd mx hs0 hs1 hrb) (s_skip (s_take s_nil)) rfl ?_
        rintro v S' ⟨bb_2, gb_2, v_2, gv_2, gd_2, gx_2, rfl, hR_2, hF_2, hx_2, rfl⟩
        refine o_T (y_move rfl) rfl ?_
        refine o_T (y_extract rfl rfl) rfl ?_
        refine o_T (y_extract rfl rfl) rfl ?_
        refine o_T (y_extract rfl rfl) rfl ?_
        refine o_L (y_assign rfl) rfl rfl ?_
        refine o_L (y_assign rfl) rfl rfl ?_
        refine o_L (y_assign rfl) rfl rfl ?_
        refine o_nil0 rfl ?_
        refine c_seq ?_
        refine c_seq ?_
        refine c_region ?_
        refine o_T (y_move rfl) rfl ?_
        refine o_T (y_move rfl) rfl ?_
        refine o_T (y_neq rfl rfl) rfl ?_
        refine o_T (y_move rfl) rfl ?_
        refine o_split 68 rfl (fun h635 => ?_) (fun h635 => ?_)
        · try simp only [decide_eq_true_eq, decide_eq_false_iff_not, Bool.not_eq_true', Bool.not_eq_false', Int.not_lt, Int.not_le, Decidable.not_not, beq_iff_eq, bne_iff_ne, ne_eq, beq_eq_false_iff_ne, WA.wd] at h635
          first | exact absurd trivial h635 | exact absurd rfl h635 | (simp at h635; done)
        · try simp only [decide_eq_true_eq, decide_eq_false_iff_not, Bool.not_eq_true', Bool.not_eq_false', Int.not_lt, Int.not_le, Decidable.not_not, beq_iff_eq, bne_iff_ne, ne_eq, beq_eq_false_iff_ne, WA.wd] at h635
          refine o_take rfl rfl rfl ?_
          refine o_T (y_move rfl) rfl ?_
          refine o_take rfl rfl rfl ?_
          refine o_T (y_move rfl) rfl ?_
          refine o_take rfl rfl rfl ?_
          refine o_callrv en_52 rfl (t52 _ _ _ _ _ _ hR_1.byt hR_2.byt) (s_get (ks (ks (ks (ks (ks (ks (ks k0))))))) (s_get k0 s_nil)) rfl ?_
          refine o_take rfl rfl rfl ?_
          refine o_T (y_not rfl) rfl ?_
          refine o_T (y_pickF rfl rfl) rfl ?_
          refine o_nil1 73 rfl rfl ?_
          refine c_cond rfl (fun h635_1 => ?_) (fun h635_1 => ?_)
          · try simp only [decide_eq_true_eq, decide_eq_false_iff_not, Bool.not_eq_true', Bool.not_eq_false', Int.not_lt, Int.not_le, Decidable.not_not, beq_iff_eq, bne_iff_ne, ne_eq, beq_eq_false_iff_ne, WA.wd] at h635_1
            first | exact absurd trivial h635_1 | exact absurd rfl h635_1 | (simp at h635_1; done)
          · try simp only [decide_eq_true_eq, decide_eq_false_iff_not, Bool.not_eq_true', Bool.not_eq_false', Int.not_lt, Int.not_le, Decidable.not_not, beq_iff_eq, bne_iff_ne, ne_eq, beq_eq_false_iff_ne, WA.wd] at h635_1
            refine c_skip ?_
            refine c_seq ?_
            refine c_seq ?_
            refine c_region ?_
            refine o_T (y_move rfl) rfl ?_
            refine o_T (y_move rfl) rfl ?_
            refine o_callrv en_81 rfl (t81 _ _ _ _ _ _ _ _ hF_1 hF_2) (s_get (ks (ks (ks (ks (ks (ks (ks (ks k0)))))))) (s_get (ks (ks (ks (ks (ks (ks (ks (ks k0)))))))) (s_get (ks k0) (s_get (ks k0) s_nil)))) rfl ?_
            refine o_T (y_not rfl) rfl ?_
            refine o_nil1 77 rfl rfl ?_
            refine c_cond rfl (fun h638 => ?_) (fun h638 => ?_)
            · try simp only [decide_eq_true_eq, decide_eq_false_iff_not, Bool.not_eq_true', Bool.not_eq_false', Int.not_lt, Int.not_le, Decidable.not_not, beq_iff_eq, bne_iff_ne, ne_eq, beq_eq_false_iff_ne, WA.wd] at h638
              first | exact absurd trivial h638 | exact absurd rfl h638 | (simp at h638; done)
            · try simp only [decide_eq_true_eq, decide_eq_false_iff_not, Bool.not_eq_true', Bool.not_eq_false', Int.not_lt, Int.not_le, Decidable.not_not, beq_iff_eq, bne_iff_ne, ne_eq, beq_eq_false_iff_ne, WA.wd] at h638
              refine c_skip ?_
              refine c_seq ?_
              refine c_region ?_
              refine o_T (y_move rfl) rfl ?_
              refine o_T (y_move rfl) rfl ?_
              refine o_call en_82 rfl (t82 A q x V W.m W.o (by omega) (by omega) hF_2) (s_get (ks (ks (ks (ks k0)))) (s_get (ks (ks (ks (ks k0)))) (s_get (ks (ks (ks (ks k0)))) (s_get (ks k0) (s_get (ks k0) s_nil))))) rfl ?_
              rintro v S' ⟨vm_1, vo_1, gm_1, go_1, rfl, hm_1, ho_1, rfl⟩
              refine o_nil0 rfl ?_
              refine c_region ?_
              refine o_T (y_move rfl) rfl ?_
              refine o_T (y_move rfl) rfl ?_
              refine o_call en_99 rfl (t99 A q x { V with mine := vm_1, outs := vo_1 } hm_1 (by omega) hR_2) (s_take (s_take (s_skip (s_take s_nil)))) rfl ?_
              rintro v S' ⟨vm_2, gm_2, rfl, hm_2, rfl⟩
              refine o_nil0 rfl ?_
              refine ⟨(vm_2, vo_1, _, _, _), ⟨fun _ => hx_2, hm_2.mono (by omega), ho_1.mono (by omega)⟩, trivial, ⟨rfl, rfl⟩, _, ((s_get k0 (s_get (ks (ks k0)) (s_get k0 (s_get k0 (s_get k0 (s_get k0 (s_get k0 (s_get k0 (s_get k0 (s_get k0 (s_get k0 (s_get k0 (s_get k0 (s_get k0 (s_get k0 s_nil))))))))))))))))⟩
      · try simp only [decide_eq_true_eq, decide_eq_false_iff_not, Bool.not_eq_true', Bool.not_eq_false', Int.not_lt, Int.not_le, Decidable.not_not, beq_iff_eq, bne_iff_ne, ne_eq, beq_eq_false_iff_ne, WA.wd] at h633
        refine c_skip ?_
        refine ⟨(V.mine, V.outs, _, _, _), ⟨fun z => absurd (z.symm.trans h633) (fun y => nomatch y), W.m.mono (by omega), W.o.mono (by omega)⟩, trivial, ⟨rfl, rfl⟩, _, ((s_take (s_take (s_take (s_take (s_take (s_take (s_take (s_take (s_take (s_take (s_take (s_take (s_take (s_take (s_take s_nil))))))))))))))))⟩
    · rintro ⟨vm2, vo2, gq2, gm2, go2⟩ ⟨hq2, hm2, ho2⟩
      try dsimp only at hq2
      refine c_seq ?_
      refine c_seq ?_
      obtain ⟨pgot, hgot⟩ := hR_1.slice
      subst hgot
      refine c_region ?_
      refine o_T (y_move rfl) rfl ?_
      refine o_T (y_move rfl) rfl ?_
      refine o_T (y_neq rfl rfl) rfl ?_
      refine o_T (y_move rfl) rfl ?_
      refine o_split 87 rfl (fun h644 => ?_) (fun h644 => ?_)
      · try simp only [decide_eq_true_eq, decide_eq_false_iff_not, Bool.not_eq_true', Bool.not_eq_false', Int.not_lt, Int.not_le, Decidable.not_not, beq_iff_eq, bne_iff_ne, ne_eq, beq_eq_false_iff_ne, WA.wd] at h644
        first | exact absurd hs3 h644 | exact absurd hs4 h644
      · try simp only [decide_eq_true_eq, decide_eq_false_iff_not, Bool.not_eq_true', Bool.not_eq_false', Int.not_lt, Int.not_le, Decidable.not_not, beq_iff_eq, bne_iff_ne, ne_eq, beq_eq_false_iff_ne, WA.wd] at h644
        refine o_take rfl rfl rfl ?_
        refine o_T (y_move rfl) rfl ?_
        refine o_take rfl rfl rfl ?_
        refine o_T (y_len Tryz.underlying81 rfl) rfl ?_
        refine o_take rfl rfl rfl ?_
        refine o_T (y_move rfl) rfl ?_
        refine o_take rfl rfl rfl ?_
        refine o_T (y_neq rfl rfl) rfl ?_
        refine o_T (y_pickF rfl rfl) rfl ?_
        refine o_nil1 92 rfl rfl ?_
        refine c_cond rfl (fun h644_1 => ?_) (fun h644_1 => ?_)
        · try simp only [decide_eq_true_eq, decide_eq_false_iff_not, Bool.not_eq_true', Bool.not_eq_false', Int.not_lt, Int.not_le, Decidable.not_not, beq_iff_eq, bne_iff_ne, ne_eq, beq_eq_false_iff_ne, WA.wd] at h644_1
          first | exact absurd hs3 h644_1 | exact absurd hs4 h644_1
        · try simp only [decide_eq_true_eq, decide_eq_false_iff_not, Bool.not_eq_true', Bool.not_eq_false', Int.not_lt, Int.not_le, Decidable.not_not, beq_iff_eq, bne_iff_ne, ne_eq, beq_eq_false_iff_ne, WA.wd] at h644_1
          refine c_skip ?_
          refine c_seq ?_
          refine c_region ?_
          refine o_T (y_move rfl) rfl ?_
          refine o_T (y_nilck rfl) rfl ?_
          refine o_T (y_fa fl_53_6 rfl) rfl ?_
          refine o_ld one_44 rfl m0 Wd.g30 rfl ?_
          refine o_T (y_move rfl) rfl ?_
          refine o_T (y_move rfl) rfl ?_
          refine o_callrv en_70 rfl (i70 W.n _ _) (s_skip (s_skip (s_skip (s_skip (s_skip (s_skip (s_skip (s_skip (s_skip (s_skip (s_skip (s_take s_nil)))))))))))) rfl ?_
          refine o_L (y_assign rfl) rfl rfl ?_
          refine o_nil0 rfl ?_
          refine c_seq ?_
          refine c_seq ?_
          refine c_region ?_
          refine o_T (y_move rfl) rfl ?_
          refine o_T (y_eql rfl rfl) rfl ?_
          refine o_nil1 101 rfl rfl ?_
          refine c_cond rfl (fun h648 => ?_) (fun h648 => ?_)
          · try simp only [decide_eq_true_eq, decide_eq_false_iff_not, Bool.not_eq_true', Bool.not_eq_false', Int.not_lt, Int.not_le, Decidable.not_not, beq_iff_eq, bne_iff_ne, ne_eq, beq_eq_false_iff_ne, WA.wd] at h648
            refine c_seq ?_
            obtain ⟨pf, cf, hvf⟩ := hF_1.slice
            subst hvf
            refine c_region ?_
            refine o_T (y_move rfl) rfl ?_
            refine o_T (y_len Tryz.underlying51 rfl) rfl ?_
            refine o_T (y_eql rfl rfl) rfl ?_
            refine o_T (y_move rfl) rfl ?_
            refine o_split 105 rfl (fun h649 => ?_) (fun h649 => ?_)
            · try simp only [decide_eq_true_eq, decide_eq_false_iff_not, Bool.not_eq_true', Bool.not_eq_false', Int.not_lt, Int.not_le, Decidable.not_not, beq_iff_eq, bne_iff_ne, ne_eq, beq_eq_false_iff_ne, WA.wd] at h649
              refine o_take rfl rfl rfl ?_
              refine o_T (y_move rfl) rfl ?_
              refine o_take rfl rfl rfl ?_
              refine o_T (y_nilck rfl) rfl ?_
              refine o_take rfl rfl rfl ?_
              refine o_T (y_fa fl_53_6 rfl) rfl ?_
              refine o_take rfl rfl rfl ?_
              refine o_ld one_44 rfl m0 Wd.g30 rfl ?_
              refine o_take rfl rfl rfl ?_
              refine o_T (y_move rfl) rfl ?_
              refine o_take rfl rfl rfl ?_
              refine o_callrv en_100 rfl (i100 W.n _ (nEOF_pos (hs5 h648)) hz.peer) (s_skip (s_skip (s_skip (s_skip (s_skip (s_skip (s_skip (s_skip (s_skip (s_skip (s_skip (s_take s_nil)))))))))))) rfl ?_
              refine o_T (y_pickT rfl rfl) rfl ?_
              refine o_L (y_assign rfl) rfl rfl ?_
              refine o_nil0 rfl ?_
              refine c_ret ?_
              refine fun aX wX heX hsX => ret1 Tryz.results48 heX rfl (s_get k0 (s_get (ks (ks (ks (ks (ks (ks k0)))))) (s_get k0 (s_get (ks (ks (ks (ks (ks (ks (ks k0))))))) (s_get (ks (ks (ks (ks (ks (ks (ks k0))))))) (s_get (ks (ks (ks (ks (ks (ks (ks k0))))))) (s_get (ks (ks (ks (ks (ks (ks (ks k0))))))) (s_get (ks (ks (ks (ks (ks (ks (ks k0))))))) (s_get (ks k0) (s_get k0 s_nil)))))))))) ?_
              have hE0 : ¬ (x.H c).recvE sd mx = 0 := by omega
              have eF : (x.H c).rcvF sd mx = [] := if_neg hE0
              have eH : (x.H c).rcvH sd mx = x.H c := if_neg hE0
              rw [eH, upA_self] at hq2
              have hhx := hx_1
              rw [eH, upA_self] at hhx
              exact ⟨congrArg Value.bool (hs5 h648), x, hY0 hE0, { V with mine := vm2, outs := vo2 }, _, _, _, _, _, _, _, _, _, ⟨hhx, hq2, W.w, W.n, W.s, W.r, W.i.mono (by omega), ho2.mono (by omega), hm2.mono (by omega)⟩, rfl, rfl⟩
            · try simp only [decide_eq_true_eq, decide_eq_false_iff_not, Bool.not_eq_true', Bool.not_eq_false', Int.not_lt, Int.not_le, Decidable.not_not, beq_iff_eq, bne_iff_ne, ne_eq, beq_eq_false_iff_ne, WA.wd] at h649
              refine o_pass rfl rfl rfl rfl rfl ?_
              refine o_pass rfl rfl rfl rfl rfl ?_
              refine o_pass rfl rfl rfl rfl rfl ?_
              refine o_pass rfl rfl rfl rfl rfl ?_
              refine o_pass rfl rfl rfl rfl rfl ?_
              refine o_pass rfl rfl rfl rfl rfl ?_
              refine o_T (y_pickF rfl rfl) rfl ?_
              refine o_L (y_assign rfl) rfl rfl ?_
              refine o_nil0 rfl ?_
              refine c_ret ?_
              refine fun aX wX heX hsX => ret1 Tryz.results48 heX rfl (s_get k0 (s_get (ks (ks (ks (ks (ks (ks k0)))))) (s_get k0 (s_get (ks (ks (ks (ks (ks (ks (ks k0))))))) (s_get (ks (ks (ks (ks (ks (ks (ks k0))))))) (s_get (ks (ks (ks (ks (ks (ks (ks k0))))))) (s_get (ks (ks (ks (ks (ks (ks (ks k0))))))) (s_get (ks (ks (ks (ks (ks (ks (ks k0))))))) (s_get (ks k0) (s_get k0 s_nil)))))))))) ?_
              have hE0 : ¬ (x.H c).recvE sd mx = 0 := by omega
              have eF : (x.H c).rcvF sd mx = [] := if_neg hE0
              have eH : (x.H c).rcvH sd mx = x.H c := if_neg hE0
              rw [eH, upA_self] at hq2
              have hhx := hx_1
              rw [eH, upA_self] at hhx
              refine absurd h649 ?_
              rw [eF]; simp
              
          · try simp only [decide_eq_true_eq, decide_eq_false_iff_not, Bool.not_eq_true', Bool.not_eq_false', Int.not_lt, Int.not_le, Decidable.not_not, beq_iff_eq, bne_iff_ne, ne_eq, beq_eq_false_iff_ne, WA.wd] at h648
            refine c_skip ?_
            refine c_seq ?_
            refine c_seq ?_
            refine c_region ?_
            refine o_T (y_move rfl) rfl ?_
            refine o_T (y_neq rfl rfl) rfl ?_
            refine o_nil1 114 rfl rfl ?_
            refine c_cond rfl (fun h651 => ?_) (fun h651 => ?_)
            · try simp only [decide_eq_true_eq, decide_eq_false_iff_not, Bool.not_eq_true', Bool.not_eq_false', Int.not_lt, Int.not_le, Decidable.not_not, beq_iff_eq, bne_iff_ne, ne_eq, beq_eq_false_iff_ne, WA.wd] at h651
              refine c_seq ?_
              obtain ⟨pf, cf, hvf⟩ := hF_1.slice
              subst hvf
              refine c_region ?_
              refine o_T (y_move rfl) rfl ?_
              refine o_T (y_len Tryz.underlying51 rfl) rfl ?_
              refine o_T (y_eql rfl rfl) rfl ?_
              refine o_L (y_assign rfl) rfl rfl ?_
              refine o_nil0 rfl ?_
              refine c_ret ?_
              refine fun aX wX heX hsX => ret1 Tryz.results48 heX rfl (s_get k0 (s_get (ks (ks (ks (ks (ks (ks k0)))))) (s_get k0 (s_get (ks (ks (ks (ks (ks (ks (ks k0))))))) (s_get (ks (ks (ks (ks (ks (ks (ks k0))))))) (s_get (ks (ks (ks (ks (ks (ks (ks k0))))))) (s_get (ks (ks (ks (ks (ks (ks (ks k0))))))) (s_get (ks (ks (ks (ks (ks (ks (ks k0))))))) (s_get (ks k0) (s_get k0 s_nil)))))))))) ?_
              have hE0 : ¬ (x.H c).recvE sd mx = 0 := h651
              have eF : (x.H c).rcvF sd mx = [] := if_neg hE0
              have eH : (x.H c).rcvH sd mx = x.H c := if_neg hE0
              rw [eH, upA_self] at hq2
              have hhx := hx_1
              rw [eH, upA_self] at hhx
              exact ⟨congrArg Value.bool (decide_eq_true (by rw [eF]; rfl)), x, hY0 hE0, { V with mine := vm2, outs := vo2 }, _, _, _, _, _, _, _, _, _, ⟨hhx, hq2, W.w, W.n, W.s, W.r, W.i.mono (by omega), ho2.mono (by omega), hm2.mono (by omega)⟩, rfl, rfl⟩
            · try simp only [decide_eq_true_eq, decide_eq_false_iff_not, Bool.not_eq_true', Bool.not_eq_false', Int.not_lt, Int.not_le, Decidable.not_not, beq_iff_eq, bne_iff_ne, ne_eq, beq_eq_false_iff_ne, WA.wd] at h651
              refine c_skip ?_
              refine c_seq ?_
              refine c_seq ?_
              have hE : (x.H c).recvE sd mx = 0 := by omega
              obtain ⟨bgot, eg1, eg2⟩ := hR_1.pos (nReadB_pos (hs6 hE))
              injection eg1 with eg1 eg3 eg4
              subst eg1 eg2
              refine c_region ?_
              refine o_T (y_move rfl) rfl ?_
              refine o_T (y_nilck rfl) rfl ?_
              refine o_T (y_fa fl_53_6 rfl) rfl ?_
              refine o_ld one_44 rfl m0 Wd.g30 rfl ?_
              refine o_T (y_move rfl) rfl ?_
              refine o_T (y_move rfl) rfl ?_
              refine o_call en_101 rfl (i101 W.n _ bgot _ hrb.1 (fun y hy => by have := (hz.sent y hy).2; omega) (by omega) hz.peer) (s_get (ks (ks (ks (ks (ks (ks (ks (ks (ks (ks (ks k0))))))))))) (s_get (ks (ks (ks (ks k0)))) s_nil)) rfl ?_
              rintro v S' ⟨gn_1, rfl, hn_1, rfl⟩
              refine o_T (y_not rfl) rfl ?_
              refine o_nil1 125 rfl rfl ?_
              refine c_cond rfl (fun h654 => ?_) (fun h654 => ?_)
              · try simp only [decide_eq_true_eq, decide_eq_false_iff_not, Bool.not_eq_true', Bool.not_eq_false', Int.not_lt, Int.not_le, Decidable.not_not, beq_iff_eq, bne_iff_ne, ne_eq, beq_eq_false_iff_ne, WA.wd] at h654
                exact absurd ((hs6 hE).symm.trans h654) (fun z => nomatch z)
              · try simp only [decide_eq_true_eq, decide_eq_false_iff_not, Bool.not_eq_true', Bool.not_eq_false', Int.not_lt, Int.not_le, Decidable.not_not, beq_iff_eq, bne_iff_ne, ne_eq, beq_eq_false_iff_ne, WA.wd] at h654
                refine c_skip ?_
                refine c_seq ?_
                refine c_region ?_
                refine o_T (y_move rfl) rfl ?_
                refine o_T (y_move rfl) rfl ?_
                refine o_call en_99 rfl (t99 A q x { V with mine := vm2, outs := vo2 } hm2 (by omega) hR_1) (s_get (ks (ks k0)) (s_get (ks (ks (ks k0))) (s_get (ks k0) s_nil))) rfl ?_
                rintro v S' ⟨vm_3, gm_3, rfl, hm_3, rfl⟩
                refine o_nil0 rfl ?_
                refine c_seq ?_
                refine c_region ?_
                refine o_T (y_move rfl) rfl ?_
                refine o_T (y_move rfl) rfl ?_
                refine o_T (y_move rfl) rfl ?_
                refine o_call en_83 rfl (t83 A q { x with H := (upA x.H c ((x.H c).rcvH sd mx)), N := nReadL x.N (nFind x.N c sd) ((x.H c).rcvB sd mx) } { V with mine := vm_3, outs := vo2 } c c3 _ _ _ _ _ _ _ _ _ hF_1 (by omega) W.w hz.wl hm_3 ho2 (by omega) (by omega) (by have := hz.out c c3; dsimp only; omega) (by have := hz.spilt; dsimp only; omega)) (s_get k0 (s_get (ks (ks (ks (ks (ks (ks (ks (ks (ks k0))))))))) (s_get k0 (s_get (ks (ks k0)) (s_get (ks (ks k0)) (s_get (ks (ks k0)) s_nil)))))) rfl ?_
                rintro v S' ⟨vm_4, vo_2, gw_1, gm_4, go_2, rfl, hw_1, hm_4, ho_2, rfl⟩
                refine o_nil0 rfl ?_
                refine c_seq ?_
                refine c_region ?_
                refine o_L (y_assign rfl) rfl rfl ?_
                refine o_nil0 rfl ?_
                refine c_ret ?_
                refine fun aX wX heX hsX => ret1 Tryz.results48 heX rfl (s_get k0 (s_get (ks (ks (ks (ks (ks k0))))) (s_get (ks (ks (ks (ks k0)))) (s_get k0 (s_get (ks (ks k0)) (s_get (ks (ks (ks (ks k0)))) (s_get (ks (ks (ks (ks k0)))) (s_get (ks (ks (ks (ks k0)))) (s_get (ks k0) (s_get k0 s_nil)))))))))) ?_
                exact ⟨rfl, _, hY1 hE, { V with mine := vm_4, outs := vo_2 }, _, _, _, _, _, _, _, _, _, ⟨hx_1, hq2, hw_1, hn_1, W.s, W.r, W.i.mono (by omega), ho_2.mono (by omega), hm_4.mono (by omega)⟩, rfl, rfl⟩

end Go.Proofs.Qxb6500351aGreat
