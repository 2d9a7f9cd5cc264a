/- MADE BY PROGRAM (tools/gen.py over tools/specsw.py): walks. -/
import Derived.Test.Qxb6500351aGreatRp10
set_option linter.unusedVariables false
set_option linter.unusedSimpArgs false
namespace Go.Proofs.Qxb6500351aGreat
open Go.Eng
set_option maxRecDepth 20000
set_option maxHeartbeats 4000000
attribute [local irreducible] Hst.ent Hst.err Hst.infoC
/-- (*e2e/towerlaw.World).Look -/
theorem t14 (A : WA) (q : Bool) (V : WV) (gh gn gs gr gi : List Chunk) (mI : Nat) (X : Nat → Wrld) (H : Nat → Hst) (hX : ∀ c, c < 3 → LookC (X c) c (X (c + 1))) (hXH : ∀ c, c ≤ 3 → (X c).H = H) (hfl : (X 0).flood = false) (hh : HsG H A.hv A.bv gh) (ok : ∀ i, i < 3 → (H i).Ok ∧ InfoOk (H i)) (hn : NtG A.bn (X 0).N (X 0).dl gn) (hs : SnG (X 0).seen V.seen gs) (hr : LstN 76 3 wtR V.ready (X 0).ready gr []) (hi : PI mI V.ints gi) (hm0 : mI ≤ 2800000000000) (hK : NOk (X 0).N) (hNl : (X 0).N.length ≤ 50000000100) (hrl : (X 0).ready.length ≤ 900000000000) (hrh : ∀ r, r ∈ (X 3).ready → 0 ≤ r.host ∧ r.host < 3) : Trip Tryz.prog 14 #[.pointer (some ⟨A.b, 0, none⟩)] [[(A.b, .cells (A.wd q (X 0) V).enc 53 (0, 0))], gh, gn, gs, gr, gi] (fun u S' => u = .bool true ∧ ∃ (sv : Nat → Value) (rv iv : Value) (gn' gs' gr' gi' : List Chunk), NtG A.bn (X 3).N (X 3).dl gn' ∧ SnG (X 3).seen sv gs' ∧ LstN 76 3 wtR rv (X 3).sweep.ready gr' [] ∧ PI (mI + 3) iv gi' ∧ S' = [[(A.b, .cells (A.wd q (X 3).sweep { V with seen := sv, ready := rv, ints := iv }).enc 53 (0, 0))], gh, gn', gs', gr', gi']) := by
  refine fn_entry (args := [.pointer (some ⟨A.b, 0, none⟩)]) Tryz.func14 rfl Tryz.ntmps14 rfl (fun w0 => ?_)
  refine c_seq ?_
  refine c_region ?_
  refine o_L (y_assign rfl) rfl rfl ?_
  refine o_nil0 rfl ?_
  refine c_seq ?_
  refine c_seq ?_
  refine c_region ?_
  refine o_T (y_move rfl) rfl ?_
  refine o_T (y_nilck rfl) rfl ?_
  refine o_T (y_fa fl_53_12 rfl) rfl ?_
  refine o_ld one_4 rfl m0 Wd.g44 rfl ?_
  refine o_nil1 16 rfl rfl ?_
  refine c_cond rfl (fun h281 => ?_) (fun h281 => ?_)
  · try simp only [decide_eq_true_eq, decide_eq_false_iff_not, Bool.not_eq_true', Bool.not_eq_false', Int.not_lt, Int.not_le, Decidable.not_not, beq_iff_eq, bne_iff_ne, ne_eq, beq_eq_false_iff_ne, WA.wd] at h281
    exact absurd (hfl.symm.trans h281) Bool.false_ne_true
  · try simp only [decide_eq_true_eq, decide_eq_false_iff_not, Bool.not_eq_true', Bool.not_eq_false', Int.not_lt, Int.not_le, Decidable.not_not, beq_iff_eq, bne_iff_ne, ne_eq, beq_eq_false_iff_ne, WA.wd] at h281
    refine c_skip ?_
    refine c_seq ?_
    refine c_seq ?_
    refine c_region ?_
    refine o_L (y_assign rfl) rfl rfl ?_
    refine o_nil0 rfl ?_
    refine c_block ?_
    refine c_loopG (ι := Nat × (Nat → Value) × Value × Value × List Chunk × List Chunk × List Chunk × List Chunk) (fun i_ => [(3, .int .i64 (i_.1 : Int))]) (fun i_ => [[(A.b, .cells (A.wd q (X i_.1) { V with seen := i_.2.1, ready := i_.2.2.1, ints := i_.2.2.2.1 }).enc 53 (0, 0))], i_.2.2.2.2.1, i_.2.2.2.2.2.1, i_.2.2.2.2.2.2.1, i_.2.2.2.2.2.2.2]) (fun i_ => i_.1 ≤ 3 ∧ NtG A.bn (X i_.1).N (X i_.1).dl i_.2.2.2.2.1 ∧ SnG (X i_.1).seen i_.2.1 i_.2.2.2.2.2.1 ∧ LstN 76 3 wtR i_.2.2.1 (X i_.1).ready i_.2.2.2.2.2.2.1 [] ∧ PI (mI + i_.1) i_.2.2.2.1 i_.2.2.2.2.2.2.2 ∧ NOk (X i_.1).N ∧ (X i_.1).N.length ≤ 50000000100 + 6 * i_.1 ∧ (X i_.1).ready.length ≤ 900000000000 + 6 * i_.1) (fun i_ => 3 - i_.1) (0, V.seen, V.ready, V.ints, gn, gs, gr, gi) (by exact ⟨Nat.zero_le _, hn, hs, hr, hi, hK, by omega, by omega⟩) ⟨by first | rfl | exact gteI rfl (by omega), trivial⟩ (s_get k0 (s_get (ks k0) (s_get (ks k0) (s_get (ks k0) (s_get (ks k0) (s_get k0 s_nil)))))) ?_
    rintro ⟨k, sv2, rv2, iv2, gn2, gs2, gr2, gi2⟩ ⟨e1, e2, e3, e4, e5, e6, e7, e8⟩
    try dsimp only [List.cons_append, List.nil_append] at *
    refine c_seq ?_
    refine c_seq ?_
    refine c_region ?_
    refine o_T (y_move rfl) rfl ?_
    refine o_T (y_lss rfl rfl) rfl ?_
    refine o_nil1 18 rfl rfl ?_
    refine c_cond rfl (fun h284 => ?_) (fun h284 => ?_)
    · try simp only [decide_eq_true_eq, decide_eq_false_iff_not, Bool.not_eq_true', Bool.not_eq_false', Int.not_lt, Int.not_le, Decidable.not_not, beq_iff_eq, bne_iff_ne, ne_eq, beq_eq_false_iff_ne, WA.wd] at h284
      refine c_skip ?_
      refine c_seq ?_
      refine c_block ?_
      refine c_seq ?_
      have hk3 : k < 3 := by omega
      obtain ⟨l1, l2, t9, F⟩ := (hX k hk3).f
      have hH := hXH k (by omega)
      obtain ⟨Fchk, Fclk, Flost, Fsrt, Fent, Ftop, FN, Fz⟩ := F
      rw [hH] at Fchk Fclk Flost Fsrt Fent Ftop FN Fz
      have hll := (H k).t.list_len
      obtain ⟨gc, grest, hin, hpm, hbk⟩ := e3.at hk3
      obtain ⟨pse, hsv⟩ := hin.slice
      have hin2 := hin
      rw [hsv] at hin2
      refine c_front (s_get (ks (ks k0)) (s_get k0 (s_get k0 (s_get k0 (s_get k0 (s_get k0 s_nil)))))) ?_
      refine c_opn hpm ?_
      refine c_region ?_
      refine o_T (y_move rfl) rfl ?_
      refine o_T (y_move rfl) rfl ?_
      refine o_T (y_nilck rfl) rfl ?_
      refine o_T (y_fa fl_53_0 rfl) rfl ?_
      refine o_T (y_ia ar_34 rfl rfl (by omega) (by omega)) rfl ?_
      refine o_ld one_33 rfl (ms (ms m0)) (Wd.g_h k (by omega) (by omega)) rfl ?_
      refine o_L (y_assign rfl) rfl rfl ?_
      refine o_nil0 rfl ?_
      refine c_seq ?_
      refine c_seq ?_
      refine c_region ?_
      refine o_T (y_move rfl) rfl ?_
      refine o_callrv en_25 rfl (i25 hh hk3 (ok _ hk3).1 Fchk) (s_skip (s_skip (s_skip (s_skip (s_skip (s_skip (s_take s_nil))))))) rfl ?_
      refine o_T (y_not rfl) rfl ?_
      refine o_nil1 29 rfl rfl ?_
      refine c_condF rfl ?_
      refine c_skip ?_
      refine c_seq ?_
      refine c_seq ?_
      refine c_draw #[true, true, true, true, true, true, true] rfl (n := 7) rfl ?_
      refine d_T 0 rfl (by kernel_rfl) rfl (y_move rfl) rfl ?_
      refine d_T 2 rfl (by kernel_rfl) rfl (y_move rfl) rfl ?_
      refine d_T 3 rfl (by kernel_rfl) rfl (y_nilck rfl) rfl ?_
      refine d_T 4 rfl (by kernel_rfl) rfl (y_fa fl_53_11 rfl) rfl ?_
      refine d_ld 5 rfl (by kernel_rfl) one_3 rfl (fun x hx => hx) (ms (ms m0)) Wd.g43 rfl ?_
      refine d_hard 1 rfl (by kernel_rfl) ?_
      refine o_callrv en_26 rfl (i26 hh hk3 (ok _ hk3).1) (s_skip (s_skip (s_skip (s_skip (s_skip (s_skip (s_take s_nil))))))) rfl ?_
      refine o_stop (fun _ => (fun x hx => hx)) ?_
      refine d_T 6 rfl (by kernel_rfl) rfl (y_neq rfl rfl) rfl ?_
      refine d_nil1 36 (by kernel_rfl) rfl rfl ?_
      refine c_cond rfl (fun h289 => ?_) (fun h289 => ?_)
      · try simp only [decide_eq_true_eq, decide_eq_false_iff_not, Bool.not_eq_true', Bool.not_eq_false', Int.not_lt, Int.not_le, Decidable.not_not, beq_iff_eq, bne_iff_ne, ne_eq, beq_eq_false_iff_ne, WA.wd] at h289
        exact absurd Fclk h289
      · try simp only [decide_eq_true_eq, decide_eq_false_iff_not, Bool.not_eq_true', Bool.not_eq_false', Int.not_lt, Int.not_le, Decidable.not_not, beq_iff_eq, bne_iff_ne, ne_eq, beq_eq_false_iff_ne, WA.wd] at h289
        refine c_skip ?_
        refine c_seq ?_
        refine c_region ?_
        refine o_T (y_move rfl) rfl ?_
        refine o_callrv en_27 rfl (i27 hh hk3 (ok _ hk3).1) (s_skip (s_skip (s_skip (s_skip (s_skip (s_skip (s_take s_nil))))))) rfl ?_
        refine o_L (y_assign rfl) rfl rfl ?_
        refine o_nil0 rfl ?_
        refine c_seq ?_
        refine c_seq ?_
        refine c_region ?_
        refine o_T (y_move rfl) rfl ?_
        refine o_T (y_move rfl) rfl ?_
        refine o_T (y_move rfl) rfl ?_
        refine o_T (y_nilck rfl) rfl ?_
        refine o_T (y_fa fl_53_9 rfl) rfl ?_
        refine o_T (y_ia ar_45 rfl rfl (by omega) (by omega)) rfl ?_
        refine o_ld one_3 rfl (ms (ms m0)) (Wd.g_lost k (by omega) (by omega)) rfl ?_
        refine o_T (y_lss rfl rfl) rfl ?_
        refine o_nil1 46 rfl rfl ?_
        refine c_cond rfl (fun h293 => ?_) (fun h293 => ?_)
        · try simp only [decide_eq_true_eq, decide_eq_false_iff_not, Bool.not_eq_true', Bool.not_eq_false', Int.not_lt, Int.not_le, Decidable.not_not, beq_iff_eq, bne_iff_ne, ne_eq, beq_eq_false_iff_ne, WA.wd] at h293
          exfalso; have := Flost.1; omega
        · try simp only [decide_eq_true_eq, decide_eq_false_iff_not, Bool.not_eq_true', Bool.not_eq_false', Int.not_lt, Int.not_le, Decidable.not_not, beq_iff_eq, bne_iff_ne, ne_eq, beq_eq_false_iff_ne, WA.wd] at h293
          refine c_skip ?_
          refine c_seq ?_
          refine c_seq ?_
          refine c_region ?_
          refine o_T (y_move rfl) rfl ?_
          refine o_T (y_move rfl) rfl ?_
          refine o_T (y_move rfl) rfl ?_
          refine o_T (y_nilck rfl) rfl ?_
          refine o_T (y_fa fl_53_9 rfl) rfl ?_
          refine o_T (y_ia ar_45 rfl rfl (by omega) (by omega)) rfl ?_
          refine o_ld one_3 rfl (ms (ms m0)) (Wd.g_lost k (by omega) (by omega)) rfl ?_
          refine o_T (y_gtr rfl rfl) rfl ?_
          refine o_nil1 54 rfl rfl ?_
          refine c_front (s_get (ks (ks k0)) (s_get k0 (s_get k0 (s_get k0 (s_get k0 (s_get k0 (s_get k0 s_nil))))))) ?_
          refine c_joinD 1 (ι := Unit) (fun i => []) (fun i => [[(A.b, .cells (A.wd q { X k with lost := upA (X k).lost k (H k).lost } { V with seen := sv2, ready := rv2, ints := iv2 }).enc 53 (0, 0))]]) (fun i => True) (fun _ _ h => h) ?_ ?_
          · skip
            refine c_cond rfl (fun h296 => ?_) (fun h296 => ?_)
            · try simp only [decide_eq_true_eq, decide_eq_false_iff_not, Bool.not_eq_true', Bool.not_eq_false', Int.not_lt, Int.not_le, Decidable.not_not, beq_iff_eq, bne_iff_ne, ne_eq, beq_eq_false_iff_ne, WA.wd] at h296
              refine c_seq ?_
              refine c_seq ?_
              refine c_region ?_
              refine o_T (y_move rfl) rfl ?_
              refine o_T (y_move rfl) rfl ?_
              refine o_T (y_nilck rfl) rfl ?_
              refine o_T (y_fa fl_53_10 rfl) rfl ?_
              refine o_T (y_ia ar_45 rfl rfl (by omega) (by omega)) rfl ?_
              refine o_ld one_3 rfl m0 (Wd.g_out k (by omega) (by omega)) rfl ?_
              refine o_T (y_neq rfl rfl) rfl ?_
              refine o_nil1 61 rfl rfl ?_
              refine c_cond rfl (fun h297 => ?_) (fun h297 => ?_)
              · try simp only [decide_eq_true_eq, decide_eq_false_iff_not, Bool.not_eq_true', Bool.not_eq_false', Int.not_lt, Int.not_le, Decidable.not_not, beq_iff_eq, bne_iff_ne, ne_eq, beq_eq_false_iff_ne, WA.wd] at h297
                exfalso; have := Flost.2; omega
              · try simp only [decide_eq_true_eq, decide_eq_false_iff_not, Bool.not_eq_true', Bool.not_eq_false', Int.not_lt, Int.not_le, Decidable.not_not, beq_iff_eq, bne_iff_ne, ne_eq, beq_eq_false_iff_ne, WA.wd] at h297
                refine c_skip ?_
                refine c_region ?_
                refine o_T (y_move rfl) rfl ?_
                refine o_T (y_move rfl) rfl ?_
                refine o_T (y_move rfl) rfl ?_
                refine o_T (y_nilck rfl) rfl ?_
                refine o_T (y_fa fl_53_9 rfl) rfl ?_
                refine o_T (y_ia ar_45 rfl rfl (by omega) (by omega)) rfl ?_
                refine o_st one_3 rfl rfl rfl r0 (Wd.s_lost k (by omega) (by omega)) (by simp only [Wd.size]; omega) ?_
                refine o_nil0 rfl ?_
                refine ⟨(), trivial, trivial, ⟨rfl, rfl⟩, _, ((s_take (s_take (s_take (s_take (s_take (s_take (s_take s_nil))))))))⟩
            · try simp only [decide_eq_true_eq, decide_eq_false_iff_not, Bool.not_eq_true', Bool.not_eq_false', Int.not_lt, Int.not_le, Decidable.not_not, beq_iff_eq, bne_iff_ne, ne_eq, beq_eq_false_iff_ne, WA.wd] at h296
              refine c_skip ?_
              rw [show A.wd q (X k) { V with seen := sv2, ready := rv2, ints := iv2 } = A.wd q { X k with lost := upA (X k).lost k (H k).lost } { V with seen := sv2, ready := rv2, ints := iv2 } from by rw [show upA (X k).lost k (H k).lost = (X k).lost from by rw [show (H k).lost = (X k).lost k by have := Flost.1; omega]; exact upA_self _ _]]
              refine ⟨(), trivial, trivial, ⟨rfl, rfl⟩, _, ((s_take (s_take (s_take (s_take (s_take (s_take (s_take s_nil))))))))⟩
          · rintro ⟨⟩ _
            try dsimp only at _
            refine c_seq ?_
            refine c_region ?_
            refine o_T (y_move rfl) rfl ?_
            refine o_call en_28 rfl (i28 hh hk3 (ok _ hk3).1) (s_skip (s_skip (s_skip (s_skip (s_skip (s_skip (s_take s_nil))))))) rfl ?_
            rintro v S' ⟨bl_1, rfl, rfl⟩
            refine o_L (y_assign rfl) rfl rfl ?_
            refine o_nil0 rfl ?_
            refine c_seq ?_
            refine c_region ?_
            refine o_T (y_move rfl) rfl ?_
            refine o_call en_29 rfl (t29 _ _ _ (Inl.mk (by omega))) (s_take s_nil) rfl ?_
            rintro v S' ⟨b2_1, rfl, rfl⟩
            refine o_L (y_assign rfl) rfl rfl ?_
            refine o_nil0 rfl ?_
            refine c_seq ?_
            refine c_region ?_
            refine o_T (y_move rfl) rfl ?_
            refine o_T (y_move rfl) rfl ?_
            refine o_call en_30 rfl (t30 A q { X k with lost := upA (X k).lost k (H k).lost } { V with seen := sv2, ready := rv2, ints := iv2 } e5 (by omega) (by omega)) (s_get (ks (ks (ks k0))) (s_get (ks (ks (ks (ks (ks (ks (ks k0))))))) (s_get k0 s_nil))) rfl ?_
            rintro v S' ⟨vi_1, gi_1, rfl, hi_1, rfl⟩
            refine o_nil0 rfl ?_
            refine c_seq ?_
            refine c_seq ?_
            refine c_row (g' := [(A.b, .cells (A.wd q { X k with lost := upA (X k).lost k (H k).lost, top := upA (X k).top k ((X k).top k) } { V with seen := sv2, ready := rv2, ints := vi_1 }).enc 53 (0, 0))]) q0 (by rw [show upA (X k).top k ((X k).top k) = (X k).top from upA_self _ _]) ?_
            refine c_region ?_
            refine o_L (y_assign rfl) rfl rfl ?_
            refine o_nil0 rfl ?_
            refine c_block ?_
            refine c_loopG (ι := Nat × Int × List Ned × List Wt × Value × List Chunk × List Chunk) (fun i_ => [(8, .int .i64 (i_.1 : Int))]) (fun i_ => [[(A.b, .cells (A.wd q { X k with lost := upA (X k).lost k (H k).lost, top := upA (X k).top k i_.2.1 } { V with seen := sv2, ready := i_.2.2.2.2.1, ints := vi_1 }).enc 53 (0, 0))], i_.2.2.2.2.2.1, i_.2.2.2.2.2.2]) (fun i_ => i_.1 ≤ (H k).t.list.length ∧ topTo ((X k).seen k) ((H k).t.list.drop i_.1) i_.2.1 = some t9 ∧ lookRows (X k).dl (H k) k ((H k).t.list.drop i_.1) i_.2.2.1 = some l1 ∧ rdyTo k (H k) ((H k).t.list.drop i_.1) i_.2.2.2.1 = rdyTo k (H k) (H k).t.list (X k).ready ∧ NtG A.bn i_.2.2.1 (X k).dl i_.2.2.2.2.2.1 ∧ LstN 76 3 wtR i_.2.2.2.2.1 i_.2.2.2.1 i_.2.2.2.2.2.2 [] ∧ NOk i_.2.2.1 ∧ i_.2.2.1.length ≤ 50000000100 + 6 * k + i_.1 ∧ i_.2.2.2.1.length ≤ 900000000000 + 6 * k + i_.1) (fun i_ => (H k).t.list.length - i_.1) (0, (X k).top k, (X k).N, (X k).ready, rv2, gn2, gr2) (by exact ⟨Nat.zero_le _, Ftop, FN.rows, rfl, e2, e4, e6, by omega, by omega⟩) ⟨by first | rfl | exact gteI rfl (by omega), trivial⟩ (s_get k0 (s_get (ks (ks (ks (ks (ks k0))))) (s_get (ks (ks (ks (ks (ks k0))))) (s_get k0 (s_get k0 (s_get k0 (s_get k0 (s_get k0 s_nil)))))))) ?_
            rintro ⟨j, t, l, r, rv3, gn3, gr3⟩ ⟨f1, f2, f3, f4, f5, f6, f7, f8, f9⟩
            try dsimp only [List.cons_append, List.nil_append] at *
            refine c_seq ?_
            refine c_seq ?_
            refine c_region ?_
            refine o_T (y_move rfl) rfl ?_
            refine o_T (y_move rfl) rfl ?_
            refine o_T (y_len Tryz.underlying46 rfl) rfl ?_
            refine o_T (y_lss rfl rfl) rfl ?_
            refine o_nil1 78 rfl rfl ?_
            refine c_cond rfl (fun h305 => ?_) (fun h305 => ?_)
            · try simp only [decide_eq_true_eq, decide_eq_false_iff_not, Bool.not_eq_true', Bool.not_eq_false', Int.not_lt, Int.not_le, Decidable.not_not, beq_iff_eq, bne_iff_ne, ne_eq, beq_eq_false_iff_ne, WA.wd] at h305
              refine c_skip ?_
              refine c_seq ?_
              refine c_block ?_
              refine c_seq ?_
              have hjl : j < (H k).t.list.length := by omega
              obtain ⟨he, hesd, hkd⟩ := Fent _ (getD_mem hjl)
              refine c_region ?_
              refine o_T (y_move rfl) rfl ?_
              refine o_T (y_move rfl) rfl ?_
              refine o_T (y_is sl_46 rfl rfl (by omega) (by omega)) rfl ?_
              refine o_ld one_3 rfl (ms (ms (ms (ms m0)))) (iV_get j (by omega) (by omega)) rfl ?_
              refine o_L (y_assign rfl) rfl rfl ?_
              refine o_nil0 rfl ?_
              refine c_seq ?_
              refine c_seq ?_
              refine c_joinE (ι := Unit) (fun i => [(99, .bool false)]) (fun i => True) (fun _ _ h => h) ?_ ?_
              · skip
                refine c_region ?_
                refine o_T (y_move rfl) rfl ?_
                refine o_T (y_lss rfl rfl) rfl ?_
                refine o_T (y_move rfl) rfl ?_
                refine o_split 87 rfl (fun h307 => ?_) (fun h307 => ?_)
                · try simp only [decide_eq_true_eq, decide_eq_false_iff_not, Bool.not_eq_true', Bool.not_eq_false', Int.not_lt, Int.not_le, Decidable.not_not, beq_iff_eq, bne_iff_ne, ne_eq, beq_eq_false_iff_ne, WA.wd] at h307
                  exfalso; have := Fsrt.2 _ (getD_mem hjl); omega
                · try simp only [decide_eq_true_eq, decide_eq_false_iff_not, Bool.not_eq_true', Bool.not_eq_false', Int.not_lt, Int.not_le, Decidable.not_not, beq_iff_eq, bne_iff_ne, ne_eq, beq_eq_false_iff_ne, WA.wd] at h307
                  refine o_take rfl rfl rfl ?_
                  refine o_T (y_move rfl) rfl ?_
                  refine o_take rfl rfl rfl ?_
                  refine o_T (y_gtr rfl rfl) rfl ?_
                  refine o_take rfl rfl rfl ?_
                  refine o_T (y_move rfl) rfl ?_
                  refine o_split 90 rfl (fun h307_1 => ?_) (fun h307_1 => ?_)
                  · try simp only [decide_eq_true_eq, decide_eq_false_iff_not, Bool.not_eq_true', Bool.not_eq_false', Int.not_lt, Int.not_le, Decidable.not_not, beq_iff_eq, bne_iff_ne, ne_eq, beq_eq_false_iff_ne, WA.wd] at h307_1
                    refine o_take rfl rfl rfl ?_
                    refine o_T (y_move rfl) rfl ?_
                    refine o_take rfl rfl rfl ?_
                    refine o_T (y_move rfl) rfl ?_
                    refine o_take rfl rfl rfl ?_
                    refine o_T (y_sub rfl rfl (w64 (by omega))) rfl ?_
                    refine o_take rfl rfl rfl ?_
                    refine o_T (y_is sl_46 rfl rfl (by omega) (by omega)) rfl ?_
                    refine o_take rfl rfl rfl ?_
                    refine o_ld one_3 rfl (ms (ms (ms (ms m0)))) (iV_get (j - 1) (by omega) (by omega)) rfl ?_
                    refine o_take rfl rfl rfl ?_
                    refine o_T (y_move rfl) rfl ?_
                    refine o_take rfl rfl rfl ?_
                    refine o_T (y_geq rfl rfl) rfl ?_
                    refine o_take rfl rfl rfl ?_
                    refine o_T (y_pickT rfl rfl) rfl ?_
                    refine o_T (y_pickF rfl rfl) rfl ?_
                    refine o_split 99 rfl (fun h307_2 => ?_) (fun h307_2 => ?_)
                    · try simp only [decide_eq_true_eq, decide_eq_false_iff_not, Bool.not_eq_true', Bool.not_eq_false', Int.not_lt, Int.not_le, Decidable.not_not, beq_iff_eq, bne_iff_ne, ne_eq, beq_eq_false_iff_ne, WA.wd] at h307_2
                      exfalso; have := sorted_at Fsrt.1 (i := j - 1) (by omega); rw [show j - 1 + 1 = j by omega] at this; omega
                    · try simp only [decide_eq_true_eq, decide_eq_false_iff_not, Bool.not_eq_true', Bool.not_eq_false', Int.not_lt, Int.not_le, Decidable.not_not, beq_iff_eq, bne_iff_ne, ne_eq, beq_eq_false_iff_ne, WA.wd] at h307_2
                      refine o_nil1 99 rfl rfl ?_
                      refine ⟨(), trivial, ⟨by first | rfl | exact gteI rfl (by omega), trivial⟩, ⟨rfl, rfl⟩, _, ((s_take (s_take (s_take (s_take (s_take (s_take (s_take (s_take s_nil)))))))))⟩
                  · try simp only [decide_eq_true_eq, decide_eq_false_iff_not, Bool.not_eq_true', Bool.not_eq_false', Int.not_lt, Int.not_le, Decidable.not_not, beq_iff_eq, bne_iff_ne, ne_eq, beq_eq_false_iff_ne, WA.wd] at h307_1
                    refine o_pass rfl rfl rfl rfl rfl ?_
                    refine o_pass rfl rfl rfl rfl rfl ?_
                    refine o_pass rfl rfl rfl rfl rfl ?_
                    refine o_pass rfl rfl rfl rfl rfl ?_
                    refine o_pass rfl rfl rfl rfl rfl ?_
                    refine o_pass rfl rfl rfl rfl rfl ?_
                    refine o_pass rfl rfl rfl rfl rfl ?_
                    refine o_take rfl rfl rfl ?_
                    refine o_T (y_pickF rfl rfl) rfl ?_
                    refine o_T (y_pickF rfl rfl) rfl ?_
                    refine o_nil1 99 rfl rfl ?_
                    refine ⟨(), trivial, ⟨by first | rfl | exact gteI rfl (by omega), trivial⟩, ⟨rfl, rfl⟩, _, ((s_take (s_take (s_take (s_take (s_take (s_take (s_take (s_take s_nil)))))))))⟩
              · rintro _ _
                try dsimp only at _
                refine c_condF rfl ?_
                refine c_skip ?_
                refine c_seq ?_
                refine c_seq ?_
                refine c_region ?_
                refine o_T (y_move rfl) rfl ?_
                refine o_T (y_move rfl) rfl ?_
                refine o_T (y_nilck rfl) rfl ?_
                refine o_T (y_fa fl_53_8 rfl) rfl ?_
                refine o_T (y_ia ar_47 rfl rfl (by omega) (by omega)) rfl ?_
                refine o_ld one_46 rfl m0 ((Wd.g_seen k (by omega) (by omega)).trans (congrArg some hsv)) rfl ?_
                refine o_T (y_move rfl) rfl ?_
                refine o_callrv en_31 rfl (t31 _ _ _ _ hin2) (s_skip (s_skip (s_skip (s_skip (s_skip (s_skip (s_take s_nil))))))) rfl ?_
                refine o_T (y_not rfl) rfl ?_
                refine o_nil1 108 rfl rfl ?_
                refine c_joinD 1 (ι := Int) (fun i => []) (fun i => [[(A.b, .cells (A.wd q { X k with lost := upA (X k).lost k (H k).lost, top := upA (X k).top k i } { V with seen := sv2, ready := rv3, ints := vi_1 }).enc 53 (0, 0))]]) (fun i => topTo ((X k).seen k) ((H k).t.list.drop (j + 1)) i = some t9) (fun _ _ h => h) ?_ ?_
                · skip
                  refine c_cond rfl (fun h310 => ?_) (fun h310 => ?_)
                  · try simp only [decide_eq_true_eq, decide_eq_false_iff_not, Bool.not_eq_true', Bool.not_eq_false', Int.not_lt, Int.not_le, Decidable.not_not, beq_iff_eq, bne_iff_ne, ne_eq, beq_eq_false_iff_ne, WA.wd] at h310
                    refine c_seq ?_
                    refine c_seq ?_
                    refine c_region ?_
                    refine o_T (y_move rfl) rfl ?_
                    refine o_T (y_move rfl) rfl ?_
                    refine o_T (y_move rfl) rfl ?_
                    refine o_T (y_nilck rfl) rfl ?_
                    refine o_T (y_fa fl_53_7 rfl) rfl ?_
                    refine o_T (y_ia ar_45 rfl rfl (by omega) (by omega)) rfl ?_
                    refine o_ld one_3 rfl m0 ((Wd.g_top k (by omega) (by omega)).trans (congrArg some (congrArg (Value.int .i64) (upA_at _ _ _)))) rfl ?_
                    refine o_T (y_leq rfl rfl) rfl ?_
                    refine o_nil1 116 rfl rfl ?_
                    refine c_cond rfl (fun h311 => ?_) (fun h311 => ?_)
                    · try simp only [decide_eq_true_eq, decide_eq_false_iff_not, Bool.not_eq_true', Bool.not_eq_false', Int.not_lt, Int.not_le, Decidable.not_not, beq_iff_eq, bne_iff_ne, ne_eq, beq_eq_false_iff_ne, WA.wd] at h311
                      exfalso; have := (top_out f2 hjl (by assumption)).1; omega
                    · try simp only [decide_eq_true_eq, decide_eq_false_iff_not, Bool.not_eq_true', Bool.not_eq_false', Int.not_lt, Int.not_le, Decidable.not_not, beq_iff_eq, bne_iff_ne, ne_eq, beq_eq_false_iff_ne, WA.wd] at h311
                      refine c_skip ?_
                      refine c_region ?_
                      refine o_T (y_move rfl) rfl ?_
                      refine o_T (y_move rfl) rfl ?_
                      refine o_T (y_move rfl) rfl ?_
                      refine o_T (y_nilck rfl) rfl ?_
                      refine o_T (y_fa fl_53_7 rfl) rfl ?_
                      refine o_T (y_ia ar_45 rfl rfl (by omega) (by omega)) rfl ?_
                      refine o_st one_3 rfl rfl rfl r0 ((Wd.s_top k (by omega) (by omega)).trans (congrArg Wd.enc (wd_top A q { X k with lost := upA (X k).lost k (H k).lost } { V with seen := sv2, ready := rv3, ints := vi_1 } k t ((H k).t.list.getD j 0)))) (by simp only [Wd.size]; omega) ?_
                      refine o_nil0 rfl ?_
                      refine ⟨((H k).t.list.getD j 0), (top_out f2 hjl (by assumption)).2, trivial, ⟨rfl, rfl⟩, _, ((s_take (s_take (s_take (s_take (s_take (s_take (s_take (s_take s_nil)))))))))⟩
                  · try simp only [decide_eq_true_eq, decide_eq_false_iff_not, Bool.not_eq_true', Bool.not_eq_false', Int.not_lt, Int.not_le, Decidable.not_not, beq_iff_eq, bne_iff_ne, ne_eq, beq_eq_false_iff_ne, WA.wd] at h310
                    refine c_skip ?_
                    refine ⟨t, (top_in f2 hjl (by assumption)), trivial, ⟨rfl, rfl⟩, _, ((s_take (s_take (s_take (s_take (s_take (s_take (s_take (s_take s_nil)))))))))⟩
                · rintro t2 hT2
                  try dsimp only at hT2
                  refine c_seq ?_
                  refine c_region ?_
                  refine o_T (y_move rfl) rfl ?_
                  refine o_T (y_move rfl) rfl ?_
                  refine o_call en_32 rfl (i32 hh hk3 (ok _ hk3).1 _ ((ok _ hk3).2 _)) (s_skip (s_skip (s_skip (s_skip (s_skip (s_take s_nil)))))) rfl ?_
                  rintro v S' ⟨pc_1, gc_1, rfl, hi_2, rfl⟩
                  refine o_T (y_move rfl) rfl ?_
                  refine o_T (y_extract rfl rfl) rfl ?_
                  refine o_T (y_extract rfl rfl) rfl ?_
                  refine o_alloc ze_69 rfl rfl (fun b_1 => ?_)
                  refine o_sta ag_69 rfl rfl (si_plain hi_2) rfl r0 (setAll_full _ _ rfl) (of_ble rfl) ?_
                  refine o_L (y_assign rfl) rfl rfl ?_
                  refine o_nil0 rfl ?_
                  refine c_seq ?_
                  refine c_seq ?_
                  refine c_region ?_
                  refine o_T (y_move rfl) rfl ?_
                  refine o_T (y_neq rfl rfl) rfl ?_
                  refine o_T (y_move rfl) rfl ?_
                  refine o_split 131 rfl (fun h317 => ?_) (fun h317 => ?_)
                  · try simp only [decide_eq_true_eq, decide_eq_false_iff_not, Bool.not_eq_true', Bool.not_eq_false', Int.not_lt, Int.not_le, Decidable.not_not, beq_iff_eq, bne_iff_ne, ne_eq, beq_eq_false_iff_ne, WA.wd] at h317
                    first | exact absurd he h317 | exact absurd hesd h317
                  · try simp only [decide_eq_true_eq, decide_eq_false_iff_not, Bool.not_eq_true', Bool.not_eq_false', Int.not_lt, Int.not_le, Decidable.not_not, beq_iff_eq, bne_iff_ne, ne_eq, beq_eq_false_iff_ne, WA.wd] at h317
                    refine o_take rfl rfl rfl ?_
                    refine o_T (y_fa fl_69_0 rfl) rfl ?_
                    refine o_take rfl rfl rfl ?_
                    refine o_T (y_fa fl_66_0 rfl) rfl ?_
                    refine o_take rfl rfl rfl ?_
                    refine o_ld one_3 rfl m0 Si.g0 rfl ?_
                    refine o_take rfl rfl rfl ?_
                    refine o_T (y_move rfl) rfl ?_
                    refine o_take rfl rfl rfl ?_
                    refine o_T (y_neq rfl rfl) rfl ?_
                    refine o_T (y_pickF rfl rfl) rfl ?_
                    refine o_nil1 137 rfl rfl ?_
                    refine c_cond rfl (fun h317_1 => ?_) (fun h317_1 => ?_)
                    · try simp only [decide_eq_true_eq, decide_eq_false_iff_not, Bool.not_eq_true', Bool.not_eq_false', Int.not_lt, Int.not_le, Decidable.not_not, beq_iff_eq, bne_iff_ne, ne_eq, beq_eq_false_iff_ne, WA.wd] at h317_1
                      first | exact absurd he h317_1 | exact absurd hesd h317_1
                    · try simp only [decide_eq_true_eq, decide_eq_false_iff_not, Bool.not_eq_true', Bool.not_eq_false', Int.not_lt, Int.not_le, Decidable.not_not, beq_iff_eq, bne_iff_ne, ne_eq, beq_eq_false_iff_ne, WA.wd] at h317_1
                      refine c_skip ?_
                      refine c_seq ?_
                      refine c_region ?_
                      refine o_T (y_fa fl_69_0 rfl) rfl ?_
                      refine o_T (y_fa fl_66_1 rfl) rfl ?_
                      refine o_ld one_3 rfl m0 Si.g1 rfl ?_
                      refine o_T (y_eql rfl rfl) rfl ?_
                      refine o_nil1 141 rfl rfl ?_
                      refine c_cond rfl (fun h320 => ?_) (fun h320 => ?_)
                      · try simp only [decide_eq_true_eq, decide_eq_false_iff_not, Bool.not_eq_true', Bool.not_eq_false', Int.not_lt, Int.not_le, Decidable.not_not, beq_iff_eq, bne_iff_ne, ne_eq, beq_eq_false_iff_ne, WA.wd] at h320
                        refine c_seq ?_
                        refine c_seq ?_
                        obtain ⟨bi_1, hpcbi_1, hgcbi_1⟩ := InfG.ok hi_2 he
                        subst hpcbi_1 hgcbi_1
                        obtain ⟨ln, hsee, hrow⟩ := rows_yes f3 hjl h320
                        obtain ⟨hNK, hNL⟩ := nSee_NOk f7 (ent_Ok (ok _ hk3).1 _) hsee
                        refine c_draw #[true, true, true, true, true, true, false, true] rfl (n := 8) rfl ?_
                        refine d_T 0 rfl (by kernel_rfl) rfl (y_move rfl) rfl ?_
                        refine d_T 1 rfl (by kernel_rfl) rfl (y_nilck rfl) rfl ?_
                        refine d_T 2 rfl (by kernel_rfl) rfl (y_fa fl_53_6 rfl) rfl ?_
                        refine d_ld 3 rfl (by kernel_rfl) one_44 rfl (fun x hx => hx) (ms (ms (ms m0))) Wd.g30 rfl ?_
                        refine d_T 4 rfl (by kernel_rfl) rfl (y_move rfl) rfl ?_
                        refine d_ldw 5 rfl (by kernel_rfl) ag_69 rfl (fun x hx => hx) m0 rfl rfl ?_
                        refine d_hard 6 rfl (by kernel_rfl) ?_
                        refine o_call en_33 rfl (i33 f5 f7 (by omega) (ent_Ok (ok _ hk3).1 _) (info_avail (ok _ hk3).1 _) hk3 _ hsee) (s_get (ks (ks (ks (ks k0)))) (s_get (ks k0) s_nil)) rfl ?_
                        rintro v S' ⟨gn_1, rfl, hn_1, rfl⟩
                        refine o_stop (fun h => nomatch h) ?_
                        refine d_T 7 rfl (by kernel_rfl) rfl (y_not rfl) rfl ?_
                        refine d_nil1 149 (by kernel_rfl) rfl rfl ?_
                        refine c_condF rfl ?_
                        refine c_skip ?_
                        refine c_seq ?_
                        refine c_region ?_
                        refine o_T (y_fa fl_69_0 rfl) rfl ?_
                        refine o_T (y_fa fl_66_6 rfl) rfl ?_
                        refine o_ld one_3 rfl (ms (ms m0)) Si.g6 rfl ?_
                        refine o_T (y_neq rfl rfl) rfl ?_
                        refine o_T (y_move rfl) rfl ?_
                        refine o_split 154 rfl (fun h324 => ?_) (fun h324 => ?_)
                        · try simp only [decide_eq_true_eq, decide_eq_false_iff_not, Bool.not_eq_true', Bool.not_eq_false', Int.not_lt, Int.not_le, Decidable.not_not, beq_iff_eq, bne_iff_ne, ne_eq, beq_eq_false_iff_ne, WA.wd] at h324
                          refine o_take rfl rfl rfl ?_
                          refine o_T (y_fa fl_69_0 rfl) rfl ?_
                          refine o_take rfl rfl rfl ?_
                          refine o_T (y_fa fl_66_7 rfl) rfl ?_
                          refine o_take rfl rfl rfl ?_
                          refine o_ld one_4 rfl (ms (ms m0)) Si.g7 rfl ?_
                          refine o_T (y_pickT rfl rfl) rfl ?_
                          refine o_T (y_move rfl) rfl ?_
                          refine o_split 159 rfl (fun h324_1 => ?_) (fun h324_1 => ?_)
                          · try simp only [decide_eq_true_eq, decide_eq_false_iff_not, Bool.not_eq_true', Bool.not_eq_false', Int.not_lt, Int.not_le, Decidable.not_not, beq_iff_eq, bne_iff_ne, ne_eq, beq_eq_false_iff_ne, WA.wd] at h324_1
                            refine o_take rfl rfl rfl ?_
                            refine o_T (y_move rfl) rfl ?_
                            refine o_take rfl rfl rfl ?_
                            refine o_T (y_move rfl) rfl ?_
                            refine o_take rfl rfl rfl ?_
                            refine o_T (y_move rfl) rfl ?_
                            refine o_take rfl rfl rfl ?_
                            refine o_call en_34 rfl (t34 A q { X k with lost := upA (X k).lost k (H k).lost, top := upA (X k).top k t2, ready := r } { V with seen := sv2, ready := rv3, ints := vi_1 } _ _ _ f6) (s_skip (s_skip (s_skip (s_skip (s_take (s_take s_nil)))))) rfl ?_
                            rintro v S' ⟨rfl, rfl⟩
                            refine o_take rfl rfl rfl ?_
                            refine o_T (y_lss rfl rfl) rfl ?_
                            refine o_T (y_pickT rfl rfl) rfl ?_
                            refine o_nil1 165 rfl rfl ?_
                            refine c_cond rfl (fun h324_2 => ?_) (fun h324_2 => ?_)
                            · try simp only [decide_eq_true_eq, decide_eq_false_iff_not, Bool.not_eq_true', Bool.not_eq_false', Int.not_lt, Int.not_le, Decidable.not_not, beq_iff_eq, bne_iff_ne, ne_eq, beq_eq_false_iff_ne, WA.wd] at h324_2
                              obtain ⟨prd, crd, hrv⟩ := f6.slice
                              subst hrv
                              refine c_draw #[true, true, true, true, true, true, true, true, true, true, true, true, false, true, true, false] rfl (n := 16) rfl ?_
                              refine d_T 0 rfl (by kernel_rfl) rfl (y_move rfl) rfl ?_
                              refine d_T 1 rfl (by kernel_rfl) rfl (y_move rfl) rfl ?_
                              refine d_T 2 rfl (by kernel_rfl) rfl (y_nilck rfl) rfl ?_
                              refine d_T 3 rfl (by kernel_rfl) rfl (y_fa fl_53_14 rfl) rfl ?_
                              refine d_ld 4 rfl (by kernel_rfl) one_48 rfl (fun x hx => hx) m0 Wd.g46 rfl ?_
                              refine d_T 5 rfl (by kernel_rfl) rfl (y_move rfl) rfl ?_
                              refine d_T 6 rfl (by kernel_rfl) rfl (y_move rfl) rfl ?_
                              refine d_T 7 rfl (by kernel_rfl) rfl (y_fa fl_69_0 rfl) rfl ?_
                              refine d_T 8 rfl (by kernel_rfl) rfl (y_fa fl_66_6 rfl) rfl ?_
                              refine d_ld 9 rfl (by kernel_rfl) one_3 rfl (fun x hx => hx) (ms (ms (ms (ms m0)))) Si.g6 rfl ?_
                              refine d_T 10 rfl (by kernel_rfl) rfl (y_build st_76 rfl (fb rfl rfl rfl Wt.s0 (fb rfl rfl rfl Wt.s1 (fb rfl rfl rfl Wt.s2 fb0)))) rfl ?_
                              refine d_hard 11 rfl (by kernel_rfl) ?_
                              refine o_bs1 sz_48 rfl rfl rfl rfl rfl rfl (fun b_2 => ?_)
                              refine o_stop (fun _ => (fun x hx => (ms hx))) ?_
                              refine d_hard 12 rfl (by kernel_rfl) ?_
                              refine o_lapp0 (R := wtR) (u := ⟨(k : Int), ((H k).t.list.getD j 0), ((H k).ent ((H k).t.list.getD j 0)).parent⟩) sz_48 rfl rfl rfl f6 rfl rfl ⟨rfl, rfl⟩ (sel0 (s_get (ks (ks k0)) (s_get k0 s_nil))) (by omega) (by omega) rfl (fun v_9 gv_9 hl_9 => ?_)
                              refine o_dropnil ?_
                              obtain ⟨bq, cq, hvq⟩ := hl_9.slice
                              subst hvq
                              refine o_stop (fun h => nomatch h) ?_
                              refine d_T 13 rfl (by kernel_rfl) rfl (y_nilck rfl) rfl ?_
                              refine d_T 14 rfl (by kernel_rfl) rfl (y_fa fl_53_14 rfl) rfl ?_
                              refine d_hard 15 rfl (by kernel_rfl) ?_
                              refine o_st one_48 rfl rfl rfl (rs r0) Wd.s46 (of_blt rfl) ?_
                              refine o_stop (fun h => nomatch h) ?_
                              refine d_nil0 (by kernel_rfl) rfl ?_
                              refine c_region ?_
                              refine o_T (y_move rfl) rfl ?_
                              refine o_T (y_add rfl rfl (w64 (by omega))) rfl ?_
                              refine o_L (y_assign rfl) rfl rfl ?_
                              refine o_nil0 rfl ?_
                              refine ⟨(j + 1, t2, ln, rdyStep k (H k) r ((H k).t.list.getD j 0), .slice (some ⟨bq, 0, none⟩) (r ++ [(⟨(k : Int), ((H k).t.list.getD j 0), ((H k).ent ((H k).t.list.getD j 0)).parent⟩ : Wt)]).length cq, gn_1, gv_9), ⟨⟨by omega, hT2, hrow, rdy_step f4 hjl, hn_1, by rw [rdyStep_yes h320 (by assumption) (by assumption) (by assumption)]; exact .of hl_9, hNK, by (try dsimp only); omega, by have := rdyStep_len k (H k) r ((H k).t.list.getD j 0); (try dsimp only); omega⟩, by dsimp only; omega⟩, ⟨gteI rfl (by dsimp only; omega), trivial⟩, ⟨rfl, rfl⟩, _, ((s_get (ks k0) (s_get (ks k0) (s_get k0 (s_get (ks (ks (ks k0))) (s_get (ks (ks (ks k0))) (s_get (ks (ks k0)) (s_get (ks (ks k0)) (s_get (ks (ks k0)) s_nil)))))))))⟩
                            · try simp only [decide_eq_true_eq, decide_eq_false_iff_not, Bool.not_eq_true', Bool.not_eq_false', Int.not_lt, Int.not_le, Decidable.not_not, beq_iff_eq, bne_iff_ne, ne_eq, beq_eq_false_iff_ne, WA.wd] at h324_2
                              refine c_skip ?_
                              refine c_region ?_
                              refine o_T (y_move rfl) rfl ?_
                              refine o_T (y_add rfl rfl (w64 (by omega))) rfl ?_
                              refine o_L (y_assign rfl) rfl rfl ?_
                              refine o_nil0 rfl ?_
                              refine ⟨(j + 1, t2, ln, rdyStep k (H k) r ((H k).t.list.getD j 0), rv3, gn_1, gr3), ⟨⟨by omega, hT2, hrow, rdy_step f4 hjl, hn_1, by rw [show rdyStep k (H k) r ((H k).t.list.getD j 0) = r from by first | exact rdyStep_n1 (by assumption) | exact rdyStep_n2 (by assumption) | exact rdyStep_n3 (by assumption) | exact rdyStep_n4 (by assumption)]; exact f6, hNK, by (try dsimp only); omega, by have := rdyStep_len k (H k) r ((H k).t.list.getD j 0); (try dsimp only); omega⟩, by dsimp only; omega⟩, ⟨gteI rfl (by dsimp only; omega), trivial⟩, ⟨rfl, rfl⟩, _, ((s_get k0 (s_get (ks k0) (s_get k0 (s_get (ks (ks (ks k0))) (s_get (ks (ks (ks k0))) (s_get (ks (ks k0)) (s_get (ks (ks k0)) (s_get (ks (ks k0)) s_nil)))))))))⟩
                          · try simp only [decide_eq_true_eq, decide_eq_false_iff_not, Bool.not_eq_true', Bool.not_eq_false', Int.not_lt, Int.not_le, Decidable.not_not, beq_iff_eq, bne_iff_ne, ne_eq, beq_eq_false_iff_ne, WA.wd] at h324_1
                            refine o_pass rfl rfl rfl rfl rfl ?_
                            refine o_pass rfl rfl rfl rfl rfl ?_
                            refine o_pass rfl rfl rfl rfl rfl ?_
                            refine o_pass rfl rfl rfl rfl rfl ?_
                            refine o_pass rfl rfl rfl rfl rfl ?_
                            refine o_T (y_pickF rfl rfl) rfl ?_
                            refine o_nil1 165 rfl rfl ?_
                            refine c_condF rfl ?_
                            refine c_skip ?_
                            refine c_region ?_
                            refine o_T (y_move rfl) rfl ?_
                            refine o_T (y_add rfl rfl (w64 (by omega))) rfl ?_
                            refine o_L (y_assign rfl) rfl rfl ?_
                            refine o_nil0 rfl ?_
                            refine ⟨(j + 1, t2, ln, rdyStep k (H k) r ((H k).t.list.getD j 0), rv3, gn_1, gr3), ⟨⟨by omega, hT2, hrow, rdy_step f4 hjl, hn_1, by rw [show rdyStep k (H k) r ((H k).t.list.getD j 0) = r from by first | exact rdyStep_n1 (by assumption) | exact rdyStep_n2 (by assumption) | exact rdyStep_n3 (by assumption) | exact rdyStep_n4 (by assumption)]; exact f6, hNK, by (try dsimp only); omega, by have := rdyStep_len k (H k) r ((H k).t.list.getD j 0); (try dsimp only); omega⟩, by dsimp only; omega⟩, ⟨gteI rfl (by dsimp only; omega), trivial⟩, ⟨rfl, rfl⟩, _, ((s_get (ks (ks (ks (ks k0)))) (s_get k0 (s_get (ks (ks (ks k0))) (s_get (ks (ks (ks k0))) (s_get (ks (ks (ks k0))) (s_get (ks (ks k0)) (s_get (ks (ks k0)) (s_get (ks (ks k0)) s_nil)))))))))⟩
                        · try simp only [decide_eq_true_eq, decide_eq_false_iff_not, Bool.not_eq_true', Bool.not_eq_false', Int.not_lt, Int.not_le, Decidable.not_not, beq_iff_eq, bne_iff_ne, ne_eq, beq_eq_false_iff_ne, WA.wd] at h324
                          refine o_pass rfl rfl rfl rfl rfl ?_
                          refine o_pass rfl rfl rfl rfl rfl ?_
                          refine o_pass rfl rfl rfl rfl rfl ?_
                          refine o_T (y_pickF rfl rfl) rfl ?_
                          refine o_T (y_move rfl) rfl ?_
                          refine o_pass rfl rfl rfl rfl rfl ?_
                          refine o_pass rfl rfl rfl rfl rfl ?_
                          refine o_pass rfl rfl rfl rfl rfl ?_
                          refine o_pass rfl rfl rfl rfl rfl ?_
                          refine o_pass rfl rfl rfl rfl rfl ?_
                          refine o_T (y_pickF rfl rfl) rfl ?_
                          refine o_nil1 165 rfl rfl ?_
                          refine c_condF rfl ?_
                          refine c_skip ?_
                          refine c_region ?_
                          refine o_T (y_move rfl) rfl ?_
                          refine o_T (y_add rfl rfl (w64 (by omega))) rfl ?_
                          refine o_L (y_assign rfl) rfl rfl ?_
                          refine o_nil0 rfl ?_
                          refine ⟨(j + 1, t2, ln, rdyStep k (H k) r ((H k).t.list.getD j 0), rv3, gn_1, gr3), ⟨⟨by omega, hT2, hrow, rdy_step f4 hjl, hn_1, by rw [show rdyStep k (H k) r ((H k).t.list.getD j 0) = r from by first | exact rdyStep_n1 (by assumption) | exact rdyStep_n2 (by assumption) | exact rdyStep_n3 (by assumption) | exact rdyStep_n4 (by assumption)]; exact f6, hNK, by (try dsimp only); omega, by have := rdyStep_len k (H k) r ((H k).t.list.getD j 0); (try dsimp only); omega⟩, by dsimp only; omega⟩, ⟨gteI rfl (by dsimp only; omega), trivial⟩, ⟨rfl, rfl⟩, _, ((s_get (ks (ks (ks (ks k0)))) (s_get k0 (s_get (ks (ks (ks k0))) (s_get (ks (ks (ks k0))) (s_get (ks (ks (ks k0))) (s_get (ks (ks k0)) (s_get (ks (ks k0)) (s_get (ks (ks k0)) s_nil)))))))))⟩
                      · try simp only [decide_eq_true_eq, decide_eq_false_iff_not, Bool.not_eq_true', Bool.not_eq_false', Int.not_lt, Int.not_le, Decidable.not_not, beq_iff_eq, bne_iff_ne, ne_eq, beq_eq_false_iff_ne, WA.wd] at h320
                        refine c_seq ?_
                        refine c_region ?_
                        refine o_T (y_fa fl_69_0 rfl) rfl ?_
                        refine o_T (y_fa fl_66_1 rfl) rfl ?_
                        refine o_ld one_3 rfl m0 Si.g1 rfl ?_
                        refine o_T (y_neq rfl rfl) rfl ?_
                        refine o_nil1 184 rfl rfl ?_
                        refine c_cond rfl (fun h327 => ?_) (fun h327 => ?_)
                        · try simp only [decide_eq_true_eq, decide_eq_false_iff_not, Bool.not_eq_true', Bool.not_eq_false', Int.not_lt, Int.not_le, Decidable.not_not, beq_iff_eq, bne_iff_ne, ne_eq, beq_eq_false_iff_ne, WA.wd] at h327
                          exfalso; omega
                        · try simp only [decide_eq_true_eq, decide_eq_false_iff_not, Bool.not_eq_true', Bool.not_eq_false', Int.not_lt, Int.not_le, Decidable.not_not, beq_iff_eq, bne_iff_ne, ne_eq, beq_eq_false_iff_ne, WA.wd] at h327
                          refine c_skip ?_
                          refine c_region ?_
                          refine o_T (y_move rfl) rfl ?_
                          refine o_T (y_add rfl rfl (w64 (by omega))) rfl ?_
                          refine o_L (y_assign rfl) rfl rfl ?_
                          refine o_nil0 rfl ?_
                          refine ⟨(j + 1, t2, l, rdyStep k (H k) r ((H k).t.list.getD j 0), rv3, gn3, gr3), ⟨⟨by omega, hT2, rows_no f3 hjl h320, rdy_step f4 hjl, f5, by rw [show rdyStep k (H k) r ((H k).t.list.getD j 0) = r from by first | exact rdyStep_n1 (by assumption) | exact rdyStep_n2 (by assumption) | exact rdyStep_n3 (by assumption) | exact rdyStep_n4 (by assumption)]; exact f6, f7, by (try dsimp only); omega, by have := rdyStep_len k (H k) r ((H k).t.list.getD j 0); (try dsimp only); omega⟩, by dsimp only; omega⟩, ⟨gteI rfl (by dsimp only; omega), trivial⟩, ⟨rfl, rfl⟩, _, ((s_get (ks (ks (ks k0))) (s_get (ks (ks (ks k0))) (s_get (ks (ks (ks k0))) (s_get (ks (ks (ks k0))) (s_get (ks (ks (ks k0))) (s_get (ks (ks k0)) (s_get (ks (ks k0)) (s_get (ks (ks k0)) s_nil)))))))))⟩
            · try simp only [decide_eq_true_eq, decide_eq_false_iff_not, Bool.not_eq_true', Bool.not_eq_false', Int.not_lt, Int.not_le, Decidable.not_not, beq_iff_eq, bne_iff_ne, ne_eq, beq_eq_false_iff_ne, WA.wd] at h305
              refine c_exit ?_
              refine c_seq ?_
              obtain rfl : j = (H k).t.list.length := by omega
              obtain rfl := top_end f2
              obtain rfl := rows_end f3
              obtain rfl := rdy_end f4
              refine c_region ?_
              refine o_T (y_move rfl) rfl ?_
              refine o_T (y_move rfl) rfl ?_
              refine o_T (y_move rfl) rfl ?_
              refine o_T (y_nilck rfl) rfl ?_
              refine o_T (y_fa fl_53_8 rfl) rfl ?_
              refine o_T (y_ia ar_47 rfl rfl (by omega) (by omega)) rfl ?_
              refine o_st one_46 rfl rfl rfl r0 (Wd.s_seen k (by omega) (by omega)) (by simp only [Wd.size]; omega) ?_
              refine o_nil0 rfl ?_
              refine c_seq ?_
              refine c_seq ?_
              obtain ⟨gs4, hs4, hp4⟩ := hbk (H k).t.list (inV b2_1 (H k).t.list) (inG b2_1 (H k).t.list 3) (Inl.mk (by omega))
              refine c_front (s_get (ks (ks (ks (ks k0)))) (s_get (ks (ks (ks (ks (ks (ks k0)))))) (s_get k0 (s_get k0 (s_get k0 (s_get k0 (s_get k0 (s_get k0 s_nil)))))))) ?_
              refine c_sht hp4 ?_
              refine c_region ?_
              refine o_T (y_move rfl) rfl ?_
              refine o_T (y_move rfl) rfl ?_
              refine o_call en_35 rfl (t35 A q { X k with lost := upA (X k).lost k (H k).lost, top := upA (X k).top k t, seen := upA (X k).seen k (H k).t.list } { V with seen := (upA sv2 k (inV b2_1 (H k).t.list)), ready := rv3, ints := vi_1 } gh gs4 k hk3 (by rw [show ({ X k with lost := upA (X k).lost k (H k).lost, top := upA (X k).top k t, seen := upA (X k).seen k (H k).t.list } : Wrld).H = H from hH]; exact hh) (by rw [show ({ X k with lost := upA (X k).lost k (H k).lost, top := upA (X k).top k t, seen := upA (X k).seen k (H k).t.list } : Wrld).H = H from hH]; exact ok) hs4 (by show upA _ _ _ _ = _; rw [upA_at]; show _ = ((X k).H k).t.list; rw [hH]) (by rw [show ({ X k with lost := upA (X k).lost k (H k).lost, top := upA (X k).top k t, seen := upA (X k).seen k (H k).t.list } : Wrld).H = H from hH]; exact fun sd hsd => ⟨(Fent sd hsd).1, fun z => ((Fent sd hsd).2.2.resolve_left (by omega)).2⟩)) (s_get (ks k0) (s_get (ks (ks (ks (ks k0)))) (s_get k0 s_nil))) rfl ?_
              rintro v S' ⟨rfl, rfl⟩
              refine o_T (y_not rfl) rfl ?_
              refine o_nil1 194 rfl rfl ?_
              refine c_condF rfl ?_
              refine c_skip ?_
              refine c_seq ?_
              refine c_front (s_get (ks (ks k0)) (s_get k0 (s_get k0 (s_get k0 (s_get k0 (s_get k0 (s_get k0 s_nil))))))) ?_
              refine c_opn hp4 ?_
              refine c_region ?_
              refine o_L (y_assign rfl) rfl rfl ?_
              refine o_nil0 rfl ?_
              refine c_block ?_
              refine c_loopG (ι := Nat × List Chunk) (fun i_ => [(12, .int .i64 (i_.1 : Int))]) (fun i_ => [i_.2]) (fun i_ => i_.1 ≤ l.length ∧ NtG A.bn (goneTo k (H k).t.list l i_.1) (X k).dl i_.2) (fun i_ => l.length - i_.1) (0, gn3) (by exact ⟨Nat.zero_le _, f5⟩) ⟨by first | rfl | exact gteI rfl (by omega), trivial⟩ (s_get (ks (ks (ks (ks k0)))) (s_get k0 (s_get k0 (s_get k0 (s_get k0 (s_get k0 (s_get k0 (s_get k0 s_nil)))))))) ?_
              rintro ⟨j5, gn5⟩ ⟨u1, u2⟩
              try dsimp only [List.cons_append, List.nil_append] at *
              have hgl := (NOk.goneTo f7 k (H k).t.list j5).2
              refine c_seq ?_
              refine c_seq ?_
              obtain ⟨vn, gvn, gdn, hNn, hgn⟩ := u2
              subst hgn
              have hNb := lstN_bnd hNn
              obtain ⟨pn, cn, hvn⟩ := hNn.slice
              subst hvn
              refine c_cut3 (g1 := [(A.bn, .cells (Nt.mk (.slice pn (goneTo k (H k).t.list l j5).length cn) (X k).dl).enc 80 (0, 0))]) (g2 := gvn) (g3 := gdn) ?_
              refine c_region ?_
              refine o_T (y_move rfl) rfl ?_
              refine o_T (y_move rfl) rfl ?_
              refine o_T (y_nilck rfl) rfl ?_
              refine o_T (y_fa fl_53_6 rfl) rfl ?_
              refine o_ld one_44 rfl (ms (ms (ms (ms (ms m0))))) Wd.g30 rfl ?_
              refine o_T (y_nilck rfl) rfl ?_
              refine o_T (y_fa fl_80_0 rfl) rfl ?_
              refine o_ld one_78 rfl m0 Nt.g0 rfl ?_
              refine o_T (y_len Tryz.underlying78 rfl) rfl ?_
              refine o_T (y_lss rfl rfl) rfl ?_
              refine o_nil1 204 rfl rfl ?_
              refine c_cond rfl (fun h335 => ?_) (fun h335 => ?_)
              · try simp only [decide_eq_true_eq, decide_eq_false_iff_not, Bool.not_eq_true', Bool.not_eq_false', Int.not_lt, Int.not_le, Decidable.not_not, beq_iff_eq, bne_iff_ne, ne_eq, beq_eq_false_iff_ne, WA.wd] at h335
                refine c_skip ?_
                refine c_seq ?_
                refine c_block ?_
                refine c_seq ?_
                have hj5 : j5 < (goneTo k (H k).t.list l j5).length := by omega
                obtain ⟨bw, cpw, cur, hv2, hg2, hO⟩ := (hNn.lst (by omega)).open
                injection hv2 with e1 e2 e3
                subst e1 e3 hg2
                refine c_region ?_
                refine o_T (y_move rfl) rfl ?_
                refine o_T (y_nilck rfl) rfl ?_
                refine o_T (y_fa fl_53_6 rfl) rfl ?_
                refine o_ld one_44 rfl (ms (ms (ms (ms (ms m0))))) Wd.g30 rfl ?_
                refine o_T (y_nilck rfl) rfl ?_
                refine o_T (y_fa fl_80_0 rfl) rfl ?_
                refine o_ld one_78 rfl m0 Nt.g0 rfl ?_
                refine o_T (y_move rfl) rfl ?_
                refine o_T (y_is sl_78 rfl rfl (by omega) (by omega)) rfl ?_
                refine o_T (y_fa fl_83_0 rfl) rfl ?_
                refine o_ld one_3 rfl (ms m0) (Ed.l_host hO j5 hj5 (by omega)) rfl ?_
                refine o_T (y_move rfl) rfl ?_
                refine o_T (y_eql rfl rfl) rfl ?_
                refine o_T (y_move rfl) rfl ?_
                refine o_split 220 rfl (fun h336 => ?_) (fun h336 => ?_)
                · try simp only [decide_eq_true_eq, decide_eq_false_iff_not, Bool.not_eq_true', Bool.not_eq_false', Int.not_lt, Int.not_le, Decidable.not_not, beq_iff_eq, bne_iff_ne, ne_eq, beq_eq_false_iff_ne, WA.wd] at h336
                  refine o_take rfl rfl rfl ?_
                  refine o_T (y_move rfl) rfl ?_
                  refine o_take rfl rfl rfl ?_
                  refine o_T (y_nilck rfl) rfl ?_
                  refine o_take rfl rfl rfl ?_
                  refine o_T (y_fa fl_53_6 rfl) rfl ?_
                  refine o_take rfl rfl rfl ?_
                  refine o_ld one_44 rfl (ms (ms (ms (ms (ms m0))))) Wd.g30 rfl ?_
                  refine o_take rfl rfl rfl ?_
                  refine o_T (y_nilck rfl) rfl ?_
                  refine o_take rfl rfl rfl ?_
                  refine o_T (y_fa fl_80_0 rfl) rfl ?_
                  refine o_take rfl rfl rfl ?_
                  refine o_ld one_78 rfl m0 Nt.g0 rfl ?_
                  refine o_take rfl rfl rfl ?_
                  refine o_T (y_move rfl) rfl ?_
                  refine o_take rfl rfl rfl ?_
                  refine o_T (y_is sl_78 rfl rfl (by omega) (by omega)) rfl ?_
                  refine o_take rfl rfl rfl ?_
                  refine o_T (y_fa fl_83_15 rfl) rfl ?_
                  refine o_take rfl rfl rfl ?_
                  refine o_ld one_4 rfl (ms m0) (Ed.l_gone hO j5 hj5 (by omega)) rfl ?_
                  refine o_take rfl rfl rfl ?_
                  refine o_T (y_not rfl) rfl ?_
                  refine o_T (y_pickT rfl rfl) rfl ?_
                  refine o_T (y_move rfl) rfl ?_
                  refine o_split 234 rfl (fun h336_1 => ?_) (fun h336_1 => ?_)
                  · try simp only [decide_eq_true_eq, decide_eq_false_iff_not, Bool.not_eq_true', Bool.not_eq_false', Int.not_lt, Int.not_le, Decidable.not_not, beq_iff_eq, bne_iff_ne, ne_eq, beq_eq_false_iff_ne, WA.wd] at h336_1
                    refine o_take rfl rfl rfl ?_
                    refine o_T (y_move rfl) rfl ?_
                    refine o_take rfl rfl rfl ?_
                    refine o_T (y_move rfl) rfl ?_
                    refine o_take rfl rfl rfl ?_
                    refine o_T (y_nilck rfl) rfl ?_
                    refine o_take rfl rfl rfl ?_
                    refine o_T (y_fa fl_53_6 rfl) rfl ?_
                    refine o_take rfl rfl rfl ?_
                    refine o_ld one_44 rfl (ms (ms (ms (ms (ms m0))))) Wd.g30 rfl ?_
                    refine o_take rfl rfl rfl ?_
                    refine o_T (y_nilck rfl) rfl ?_
                    refine o_take rfl rfl rfl ?_
                    refine o_T (y_fa fl_80_0 rfl) rfl ?_
                    refine o_take rfl rfl rfl ?_
                    refine o_ld one_78 rfl m0 Nt.g0 rfl ?_
                    refine o_take rfl rfl rfl ?_
                    refine o_T (y_move rfl) rfl ?_
                    refine o_take rfl rfl rfl ?_
                    refine o_T (y_is sl_78 rfl rfl (by omega) (by omega)) rfl ?_
                    refine o_take rfl rfl rfl ?_
                    refine o_T (y_fa fl_83_1 rfl) rfl ?_
                    refine o_take rfl rfl rfl ?_
                    refine o_ld one_3 rfl (ms m0) (Ed.l_sd hO j5 hj5 (by omega)) rfl ?_
                    refine o_take rfl rfl rfl ?_
                    refine o_callrv en_31 rfl (t31 _ _ _ _ (Inl.mk (by omega))) (s_skip (s_skip (s_skip (s_take s_nil)))) rfl ?_
                    refine o_take rfl rfl rfl ?_
                    refine o_T (y_not rfl) rfl ?_
                    refine o_T (y_pickT rfl rfl) rfl ?_
                    refine o_nil1 249 rfl rfl ?_
                    refine c_cond rfl (fun h336_2 => ?_) (fun h336_2 => ?_)
                    · try simp only [decide_eq_true_eq, decide_eq_false_iff_not, Bool.not_eq_true', Bool.not_eq_false', Int.not_lt, Int.not_le, Decidable.not_not, beq_iff_eq, bne_iff_ne, ne_eq, beq_eq_false_iff_ne, WA.wd] at h336_2
                      refine c_seq ?_
                      have hgp : goneP k (H k).t.list ((goneTo k (H k).t.list l j5)[j5]) = true := by unfold goneP; simp [*]
                      have hun := FN.unl j5 _ (List.getElem?_eq_getElem hj5) (by omega) hgp
                      refine c_glue3 ?_
                      refine c_region ?_
                      refine o_T (y_move rfl) rfl ?_
                      refine o_T (y_nilck rfl) rfl ?_
                      refine o_T (y_fa fl_53_6 rfl) rfl ?_
                      refine o_ld one_44 rfl (ms (ms (ms m0))) Wd.g30 rfl ?_
                      refine o_T (y_move rfl) rfl ?_
                      refine o_call en_36 rfl (i36 (⟨_, _, _, hNn, rfl⟩ : NtG A.bn (goneTo k (H k).t.list l j5) (X k).dl _) _) (s_take s_nil) rfl ?_
                      rintro v S' ⟨gn_2, rfl, hn_2, rfl⟩
                      refine o_T (y_not rfl) rfl ?_
                      refine o_nil1 256 rfl rfl ?_
                      refine c_cond rfl (fun h337 => ?_) (fun h337 => ?_)
                      · try simp only [decide_eq_true_eq, decide_eq_false_iff_not, Bool.not_eq_true', Bool.not_eq_false', Int.not_lt, Int.not_le, Decidable.not_not, beq_iff_eq, bne_iff_ne, ne_eq, beq_eq_false_iff_ne, WA.wd] at h337
                        exact absurd (hun.symm.trans h337) (fun z => nomatch z)
                      · try simp only [decide_eq_true_eq, decide_eq_false_iff_not, Bool.not_eq_true', Bool.not_eq_false', Int.not_lt, Int.not_le, Decidable.not_not, beq_iff_eq, bne_iff_ne, ne_eq, beq_eq_false_iff_ne, WA.wd] at h337
                        refine c_skip ?_
                        refine c_region ?_
                        refine o_T (y_move rfl) rfl ?_
                        refine o_T (y_add rfl rfl (w64 (by omega))) rfl ?_
                        refine o_L (y_assign rfl) rfl rfl ?_
                        refine o_nil0 rfl ?_
                        refine ⟨(j5 + 1, gn_2), ⟨⟨by omega, by rw [gone_at hj5, if_pos hgp]; exact hn_2⟩, by dsimp only; omega⟩, ⟨gteI rfl (by dsimp only; omega), trivial⟩, ⟨rfl, rfl⟩, _, ((s_take (s_take (s_take (s_take (s_take (s_take (s_take (s_take s_nil)))))))))⟩
                    · try simp only [decide_eq_true_eq, decide_eq_false_iff_not, Bool.not_eq_true', Bool.not_eq_false', Int.not_lt, Int.not_le, Decidable.not_not, beq_iff_eq, bne_iff_ne, ne_eq, beq_eq_false_iff_ne, WA.wd] at h336_2
                      refine c_skip ?_
                      refine c_glue3 ?_
                      refine c_region ?_
                      refine o_T (y_move rfl) rfl ?_
                      refine o_T (y_add rfl rfl (w64 (by omega))) rfl ?_
                      refine o_L (y_assign rfl) rfl rfl ?_
                      refine o_nil0 rfl ?_
                      refine ⟨(j5 + 1, _), ⟨⟨by omega, by rw [gone_at hj5, if_neg (by unfold goneP; simp [*])]; exact (⟨_, _, _, hNn, rfl⟩ : NtG A.bn (goneTo k (H k).t.list l j5) (X k).dl _)⟩, by dsimp only; omega⟩, ⟨gteI rfl (by dsimp only; omega), trivial⟩, ⟨rfl, rfl⟩, _, ((s_take (s_take (s_take (s_take (s_take (s_take (s_take (s_take s_nil)))))))))⟩
                  · try simp only [decide_eq_true_eq, decide_eq_false_iff_not, Bool.not_eq_true', Bool.not_eq_false', Int.not_lt, Int.not_le, Decidable.not_not, beq_iff_eq, bne_iff_ne, ne_eq, beq_eq_false_iff_ne, WA.wd] at h336_1
                    refine o_pass rfl rfl rfl rfl rfl ?_
                    refine o_pass rfl rfl rfl rfl rfl ?_
                    refine o_pass rfl rfl rfl rfl rfl ?_
                    refine o_pass rfl rfl rfl rfl rfl ?_
                    refine o_pass rfl rfl rfl rfl rfl ?_
                    refine o_pass rfl rfl rfl rfl rfl ?_
                    refine o_pass rfl rfl rfl rfl rfl ?_
                    refine o_pass rfl rfl rfl rfl rfl ?_
                    refine o_pass rfl rfl rfl rfl rfl ?_
                    refine o_pass rfl rfl rfl rfl rfl ?_
                    refine o_pass rfl rfl rfl rfl rfl ?_
                    refine o_pass rfl rfl rfl rfl rfl ?_
                    refine o_pass rfl rfl rfl rfl rfl ?_
                    refine o_pass rfl rfl rfl rfl rfl ?_
                    refine o_T (y_pickF rfl rfl) rfl ?_
                    refine o_nil1 249 rfl rfl ?_
                    refine c_condF rfl ?_
                    refine c_skip ?_
                    refine c_glue3 ?_
                    refine c_region ?_
                    refine o_T (y_move rfl) rfl ?_
                    refine o_T (y_add rfl rfl (w64 (by omega))) rfl ?_
                    refine o_L (y_assign rfl) rfl rfl ?_
                    refine o_nil0 rfl ?_
                    refine ⟨(j5 + 1, _), ⟨⟨by omega, by rw [gone_at hj5, if_neg (by unfold goneP; simp [*])]; exact (⟨_, _, _, hNn, rfl⟩ : NtG A.bn (goneTo k (H k).t.list l j5) (X k).dl _)⟩, by dsimp only; omega⟩, ⟨gteI rfl (by dsimp only; omega), trivial⟩, ⟨rfl, rfl⟩, _, ((s_take (s_take (s_take (s_take (s_take (s_take (s_take (s_take s_nil)))))))))⟩
                · try simp only [decide_eq_true_eq, decide_eq_false_iff_not, Bool.not_eq_true', Bool.not_eq_false', Int.not_lt, Int.not_le, Decidable.not_not, beq_iff_eq, bne_iff_ne, ne_eq, beq_eq_false_iff_ne, WA.wd] at h336
                  refine o_pass rfl rfl rfl rfl rfl ?_
                  refine o_pass rfl rfl rfl rfl rfl ?_
                  refine o_pass rfl rfl rfl rfl rfl ?_
                  refine o_pass rfl rfl rfl rfl rfl ?_
                  refine o_pass rfl rfl rfl rfl rfl ?_
                  refine o_pass rfl rfl rfl rfl rfl ?_
                  refine o_pass rfl rfl rfl rfl rfl ?_
                  refine o_pass rfl rfl rfl rfl rfl ?_
                  refine o_pass rfl rfl rfl rfl rfl ?_
                  refine o_pass rfl rfl rfl rfl rfl ?_
                  refine o_pass rfl rfl rfl rfl rfl ?_
                  refine o_pass rfl rfl rfl rfl rfl ?_
                  refine o_T (y_pickF rfl rfl) rfl ?_
                  refine o_T (y_move rfl) rfl ?_
                  refine o_pass rfl rfl rfl rfl rfl ?_
                  refine o_pass rfl rfl rfl rfl rfl ?_
                  refine o_pass rfl rfl rfl rfl rfl ?_
                  refine o_pass rfl rfl rfl rfl rfl ?_
                  refine o_pass rfl rfl rfl rfl rfl ?_
                  refine o_pass rfl rfl rfl rfl rfl ?_
                  refine o_pass rfl rfl rfl rfl rfl ?_
                  refine o_pass rfl rfl rfl rfl rfl ?_
                  refine o_pass rfl rfl rfl rfl rfl ?_
                  refine o_pass rfl rfl rfl rfl rfl ?_
                  refine o_pass rfl rfl rfl rfl rfl ?_
                  refine o_pass rfl rfl rfl rfl rfl ?_
                  refine o_pass rfl rfl rfl rfl rfl ?_
                  refine o_pass rfl rfl rfl rfl rfl ?_
                  refine o_T (y_pickF rfl rfl) rfl ?_
                  refine o_nil1 249 rfl rfl ?_
                  refine c_condF rfl ?_
                  refine c_skip ?_
                  refine c_glue3 ?_
                  refine c_region ?_
                  refine o_T (y_move rfl) rfl ?_
                  refine o_T (y_add rfl rfl (w64 (by omega))) rfl ?_
                  refine o_L (y_assign rfl) rfl rfl ?_
                  refine o_nil0 rfl ?_
                  refine ⟨(j5 + 1, _), ⟨⟨by omega, by rw [gone_at hj5, if_neg (by unfold goneP; simp [*])]; exact (⟨_, _, _, hNn, rfl⟩ : NtG A.bn (goneTo k (H k).t.list l j5) (X k).dl _)⟩, by dsimp only; omega⟩, ⟨gteI rfl (by dsimp only; omega), trivial⟩, ⟨rfl, rfl⟩, _, ((s_take (s_take (s_take (s_take (s_take (s_take (s_take (s_take s_nil)))))))))⟩
              · try simp only [decide_eq_true_eq, decide_eq_false_iff_not, Bool.not_eq_true', Bool.not_eq_false', Int.not_lt, Int.not_le, Decidable.not_not, beq_iff_eq, bne_iff_ne, ne_eq, beq_eq_false_iff_ne, WA.wd] at h335
                refine c_exit ?_
                refine c_glue3 ?_
                obtain rfl : j5 = l.length := by omega
                have hNF : NtG A.bn (goneTo k (H k).t.list l l.length) (X k).dl ([(A.bn, .cells (Nt.mk (.slice pn (goneTo k (H k).t.list l l.length).length cn) (X k).dl).enc 80 (0, 0))] ++ (gvn ++ gdn)) := ⟨_, _, _, hNn, rfl⟩
                refine c_front (s_get (ks k0) (s_get (ks k0) (s_get k0 (s_get k0 (s_get k0 (s_get k0 (s_get k0 (s_get k0 s_nil)))))))) ?_
                refine c_sht hp4 ?_
                refine c_row (g' := [(A.b, .cells (A.wd q (X (k + 1)) { V with seen := (upA sv2 k (inV b2_1 (H k).t.list)), ready := rv3, ints := vi_1 }).enc 53 (0, 0))]) (qs (qs q0)) (by rw [Fz]) ?_
                refine c_region ?_
                refine o_T (y_move rfl) rfl ?_
                refine o_T (y_add rfl rfl (w64 (by omega))) rfl ?_
                refine o_L (y_assign rfl) rfl rfl ?_
                refine o_nil0 rfl ?_
                refine ⟨(k + 1, upA sv2 k (inV b2_1 (H k).t.list), rv3, vi_1, ([(A.bn, .cells (Nt.mk (.slice pn (goneTo k (H k).t.list l l.length).length cn) (X k).dl).enc 80 (0, 0))] ++ (gvn ++ gdn)), gs4, gr3, gi_1), ⟨⟨by omega, by rw [Fz]; show NtG A.bn l2 (X k).dl _; rw [FN.gone]; exact hNF, by rw [Fz]; exact hs4, by rw [Fz]; exact f6, by have := hi_1; rw [show mI + (k + 1) = mI + k + 1 by omega]; exact this, by rw [Fz]; rw [FN.gone]; exact (NOk.goneTo f7 _ _ _).1, by rw [Fz]; dsimp only; rw [FN.gone, (NOk.goneTo f7 _ _ _).2]; omega, by rw [Fz]; dsimp only; omega⟩, by dsimp only; omega⟩, ⟨gteI rfl (by dsimp only; omega), trivial⟩, ⟨rfl, rfl⟩, _, ((s_get (ks (ks k0)) (s_get (ks k0) (s_get k0 (s_get (ks k0) (s_get (ks k0) (s_get k0 s_nil)))))))⟩
    · try simp only [decide_eq_true_eq, decide_eq_false_iff_not, Bool.not_eq_true', Bool.not_eq_false', Int.not_lt, Int.not_le, Decidable.not_not, beq_iff_eq, bne_iff_ne, ne_eq, beq_eq_false_iff_ne, WA.wd] at h284
      refine c_exit ?_
      refine c_seq ?_
      obtain rfl : k = 3 := by omega
      have hH3 := hXH 3 (by omega)
      have hh3 : HsG (X 3).H A.hv A.bv gh := by rw [hH3]; exact hh
      have ok3 : ∀ i, i < 3 → ((X 3).H i).Ok ∧ InfoOk ((X 3).H i) := by rw [hH3]; exact ok
      refine c_region ?_
      refine o_T (y_move rfl) rfl ?_
      refine o_call en_37 rfl (t37 A q (X 3) { V with seen := sv2, ready := rv2, ints := iv2 } gh gr2 hh3 ok3 e4 (by omega) hrh) (s_get k0 (s_get (ks (ks (ks (ks k0)))) (s_get (ks (ks k0)) s_nil))) rfl ?_
      rintro v S' ⟨vr_1, gr_1, rfl, hr_1, rfl⟩
      refine o_nil0 rfl ?_
      refine c_seq ?_
      refine c_region ?_
      refine o_L (y_assign rfl) rfl rfl ?_
      refine o_nil0 rfl ?_
      refine c_ret ?_
      refine fun aX wX heX hsX => ret1 Tryz.results14 heX rfl (s_get k0 (s_get k0 (s_get (ks k0) (s_get (ks k0) (s_get k0 (s_get k0 s_nil)))))) ?_
      exact ⟨rfl, sv2, vr_1, iv2, _, _, _, _, e2, e3, hr_1, e5, rfl⟩

end Go.Proofs.Qxb6500351aGreat
