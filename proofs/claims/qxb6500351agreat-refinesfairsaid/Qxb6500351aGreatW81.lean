/- MADE BY PROGRAM (tools/gen.py over tools/specsw.py): walks. -/
import Derived.Test.Qxb6500351aGreatMd25
import Derived.Test.Qxb6500351aGreatW73
import Derived.Test.Qxb6500351aGreatW70
set_option linter.unusedVariables false
set_option linter.unusedSimpArgs false
namespace Go.Proofs.Qxb6500351aGreat
open Go.Eng
set_option maxRecDepth 20000
set_option maxHeartbeats 4000000
attribute [local irreducible] Hst.ent Hst.err Hst.infoC
/-- (*e2e/towerlaw.World).Accept -/
theorem t46 (A : WA) (q : Bool) (x : Wrld) (V : WV) (gh gq gr : List Chunk) (c : Nat) (c3 : c < 3) (p : Int) (hh : HsG x.H A.hv A.bv gh) (ok : ∀ i, i < 3 → (x.H i).Ok ∧ InfoOk (x.H i)) (hq : q = true → HsG x.H A.qv A.qb gq) (hr : LstN 76 3 wtR V.ready x.ready gr []) (hsd : ∀ r, r ∈ x.ready → r.sd ≠ 0) (hkid : -998 ≤ ((x.H c).t.rows ((x.H c).t.find p).toNat).kids) (ha1 : ((x.H c).t.accept p).2.1 = (x.accW c p).1) (ha2 : ((x.H c).t.accept p).1 = (x.accW c p).2) : Trip Tryz.prog 46 #[.pointer (some ⟨A.b, 0, none⟩), .int .i64 (c : Int), .int .i64 p] [[(A.b, .cells (A.wd q x V).enc 53 (0, 0))], gh, gq, gr] (fun u S' => u = .bool true ∧ ∃ gh' gq', HsG (upA x.H c { (x.H c) with t := ((x.H c).t.accept p).2.2 }) A.hv A.bv gh' ∧ (q = true → HsG (upA x.H c { (x.H c) with t := ((x.H c).t.accept p).2.2 }) A.qv A.qb gq') ∧ S' = [[(A.b, .cells (A.wd q x V).enc 53 (0, 0))], gh', gq', gr]) := by
  obtain ⟨prd, crd, hrv⟩ := hr.slice
  have hrl := lstN_bnd hr
  refine fn_entry (args := [.pointer (some ⟨A.b, 0, none⟩), .int .i64 (c : Int), .int .i64 p]) Tryz.func46 rfl Tryz.ntmps46 rfl (fun w0 => ?_)
  refine c_seq ?_
  refine c_region ?_
  refine o_L (y_assign rfl) rfl rfl ?_
  refine o_nil0 rfl ?_
  refine c_seq ?_
  refine c_region ?_
  refine o_L (y_assign rfl) rfl rfl ?_
  refine o_L (y_assign rfl) rfl rfl ?_
  refine o_nil0 rfl ?_
  refine c_seq ?_
  refine c_seq ?_
  refine c_region ?_
  refine o_T (y_move rfl) rfl ?_
  refine o_T (y_move rfl) rfl ?_
  refine o_T (y_move rfl) rfl ?_
  refine o_call en_92 rfl (t92 _ _ _ _ _ _ (by assumption) _ hh ok) (s_take (s_take s_nil)) rfl ?_
  rintro v S' ⟨rfl, rfl⟩
  refine o_T (y_not rfl) rfl ?_
  refine o_nil1 18 rfl rfl ?_
  refine c_joinE (ι := Unit) (fun i => [(7, .int .i64 (x.accW c p).1), (8, .int .i64 (x.accW c p).2)]) (fun i => True) (fun _ _ h => h) ?_ ?_
  · skip
    refine c_cond rfl (fun h572 => ?_) (fun h572 => ?_)
    · try simp only [decide_eq_true_eq, decide_eq_false_iff_not, Bool.not_eq_true', Bool.not_eq_false', Int.not_lt, Int.not_le, Decidable.not_not, beq_iff_eq, bne_iff_ne, ne_eq, beq_eq_false_iff_ne, WA.wd] at h572
      refine c_region ?_
      refine o_L (y_assign rfl) rfl rfl ?_
      refine o_nil0 rfl ?_
      refine ⟨(), trivial, ⟨gteI rfl (by rw [Wrld.accW_no h572]), gteI rfl (by rw [Wrld.accW_no h572]), trivial⟩, ⟨rfl, rfl⟩, _, ((s_take (s_take (s_take (s_take s_nil)))))⟩
    · try simp only [decide_eq_true_eq, decide_eq_false_iff_not, Bool.not_eq_true', Bool.not_eq_false', Int.not_lt, Int.not_le, Decidable.not_not, beq_iff_eq, bne_iff_ne, ne_eq, beq_eq_false_iff_ne, WA.wd] at h572
      refine c_seq ?_
      refine c_region ?_
      refine o_L (y_assign rfl) rfl rfl ?_
      refine o_nil0 rfl ?_
      refine c_seq ?_
      refine c_region ?_
      refine o_L (y_assign rfl) rfl rfl ?_
      refine o_nil0 rfl ?_
      refine c_block ?_
      refine c_loopG (ι := Nat × Int × Int) (fun i_ => [(7, .int .i64 i_.2.1), (8, .int .i64 i_.2.2), (9, .int .i64 (i_.1 : Int))]) (fun i_ => []) (fun i_ => i_.1 ≤ x.ready.length ∧ AccI x c p i_.1 i_.2.1 i_.2.2) (fun i_ => x.ready.length - i_.1) (0, 14, 0) (by exact ⟨Nat.zero_le _, .inl ⟨rfl, rfl, by simp⟩⟩) ⟨by first | rfl | exact gteI rfl (by omega), by first | rfl | exact gteI rfl (by omega), by first | rfl | exact gteI rfl (by omega), trivial⟩ (s_take (s_take (s_take (s_take s_nil)))) ?_
      rintro ⟨k, wn, ch⟩ ⟨g1, g2⟩
      try dsimp only [List.cons_append, List.nil_append] at *
      refine c_seq ?_
      refine c_seq ?_
      refine c_region ?_
      refine o_T (y_move rfl) rfl ?_
      refine o_T (y_move rfl) rfl ?_
      refine o_T (y_nilck rfl) rfl ?_
      refine o_T (y_fa fl_53_14 rfl) rfl ?_
      refine o_ld one_48 rfl m0 (Wd.g46.trans (congrArg some hrv)) rfl ?_
      refine o_T (y_len Tryz.underlying48 rfl) rfl ?_
      refine o_T (y_lss rfl rfl) rfl ?_
      refine o_T (y_move rfl) rfl ?_
      refine o_split 26 rfl (fun h576 => ?_) (fun h576 => ?_)
      · try simp only [decide_eq_true_eq, decide_eq_false_iff_not, Bool.not_eq_true', Bool.not_eq_false', Int.not_lt, Int.not_le, Decidable.not_not, beq_iff_eq, bne_iff_ne, ne_eq, beq_eq_false_iff_ne, WA.wd] at h576
        refine o_take rfl rfl rfl ?_
        refine o_T (y_move rfl) rfl ?_
        refine o_take rfl rfl rfl ?_
        refine o_T (y_eql rfl rfl) rfl ?_
        refine o_T (y_pickT rfl rfl) rfl ?_
        refine o_nil1 29 rfl rfl ?_
        refine c_cond rfl (fun h576_1 => ?_) (fun h576_1 => ?_)
        · try simp only [decide_eq_true_eq, decide_eq_false_iff_not, Bool.not_eq_true', Bool.not_eq_false', Int.not_lt, Int.not_le, Decidable.not_not, beq_iff_eq, bne_iff_ne, ne_eq, beq_eq_false_iff_ne, WA.wd] at h576_1
          refine c_skip ?_
          refine c_seq ?_
          refine c_block ?_
          refine c_seq ?_
          have hk : k < x.ready.length := by omega
          have g3 := g2.none hsd h576_1
          obtain ⟨bw, cpw, cur, hv2, hg2, hO⟩ := (hr.lst (by omega)).open
          subst hg2
          refine c_region ?_
          refine o_T (y_move rfl) rfl ?_
          refine o_T (y_nilck rfl) rfl ?_
          refine o_T (y_fa fl_53_14 rfl) rfl ?_
          refine o_ld one_48 rfl m0 (Wd.g46.trans (congrArg some hv2)) rfl ?_
          refine o_T (y_move rfl) rfl ?_
          refine o_T (y_is sl_48 rfl rfl (by omega) (by omega)) rfl ?_
          refine o_T (y_fa fl_76_0 rfl) rfl ?_
          refine o_ld one_3 rfl (ms (ms (ms m0))) (Wt.l_host hO k (by omega) (by omega)) rfl ?_
          refine o_T (y_move rfl) rfl ?_
          refine o_T (y_eql rfl rfl) rfl ?_
          refine o_T (y_move rfl) rfl ?_
          refine o_split 42 rfl (fun h577 => ?_) (fun h577 => ?_)
          · try simp only [decide_eq_true_eq, decide_eq_false_iff_not, Bool.not_eq_true', Bool.not_eq_false', Int.not_lt, Int.not_le, Decidable.not_not, beq_iff_eq, bne_iff_ne, ne_eq, beq_eq_false_iff_ne, WA.wd] at h577
            refine o_take rfl rfl rfl ?_
            refine o_T (y_move rfl) rfl ?_
            refine o_take rfl rfl rfl ?_
            refine o_T (y_nilck rfl) rfl ?_
            refine o_take rfl rfl rfl ?_
            refine o_T (y_fa fl_53_14 rfl) rfl ?_
            refine o_take rfl rfl rfl ?_
            refine o_ld one_48 rfl m0 (Wd.g46.trans (congrArg some hv2)) rfl ?_
            refine o_take rfl rfl rfl ?_
            refine o_T (y_move rfl) rfl ?_
            refine o_take rfl rfl rfl ?_
            refine o_T (y_is sl_48 rfl rfl (by omega) (by omega)) rfl ?_
            refine o_take rfl rfl rfl ?_
            refine o_T (y_fa fl_76_2 rfl) rfl ?_
            refine o_take rfl rfl rfl ?_
            refine o_ld one_3 rfl (ms (ms (ms m0))) (Wt.l_parent hO k (by omega) (by omega)) rfl ?_
            refine o_take rfl rfl rfl ?_
            refine o_T (y_move rfl) rfl ?_
            refine o_take rfl rfl rfl ?_
            refine o_T (y_eql rfl rfl) rfl ?_
            refine o_T (y_pickT rfl rfl) rfl ?_
            refine o_nil1 53 rfl rfl ?_
            refine c_cond rfl (fun h577_1 => ?_) (fun h577_1 => ?_)
            · try simp only [decide_eq_true_eq, decide_eq_false_iff_not, Bool.not_eq_true', Bool.not_eq_false', Int.not_lt, Int.not_le, Decidable.not_not, beq_iff_eq, bne_iff_ne, ne_eq, beq_eq_false_iff_ne, WA.wd] at h577_1
              refine c_draw #[true, true, true, true, true, true, true, true, true, true] rfl (n := 10) rfl ?_
              refine d_T 0 rfl (by kernel_rfl) rfl (y_move rfl) rfl ?_
              refine d_T 1 rfl (by kernel_rfl) rfl (y_nilck rfl) rfl ?_
              refine d_T 2 rfl (by kernel_rfl) rfl (y_fa fl_53_14 rfl) rfl ?_
              refine d_ld 3 rfl (by kernel_rfl) one_48 rfl (fun x hx => hx) m0 (Wd.g46.trans (congrArg some hv2)) rfl ?_
              refine d_T 4 rfl (by kernel_rfl) rfl (y_move rfl) rfl ?_
              refine d_T 5 rfl (by kernel_rfl) rfl (y_is sl_48 rfl rfl (by omega) (by omega)) rfl ?_
              refine d_T 6 rfl (by kernel_rfl) rfl (y_fa fl_76_1 rfl) rfl ?_
              refine d_ld 7 rfl (by kernel_rfl) one_3 rfl (fun x hx => hx) (ms (ms (ms m0))) (Wt.l_sd hO k (by omega) (by omega)) rfl ?_
              refine d_L 8 rfl (by kernel_rfl) rfl (y_assign rfl) rfl rfl ?_
              refine d_L 9 rfl (by kernel_rfl) rfl (y_assign rfl) rfl rfl ?_
              refine d_nil0 (by kernel_rfl) rfl ?_
              refine c_region ?_
              refine o_T (y_move rfl) rfl ?_
              refine o_T (y_add rfl rfl (w64 (by omega))) rfl ?_
              refine o_L (y_assign rfl) rfl rfl ?_
              refine o_nil0 rfl ?_
              refine ⟨(k + 1, 0, (x.ready[k]).sd), ⟨⟨by omega, .inr ⟨_, find_at g3.2.2 hk (wOf_iff.2 ⟨by assumption, by assumption⟩), rfl, rfl⟩⟩, by dsimp only; omega⟩, ⟨rfl, rfl, gteI rfl (by dsimp only; omega), trivial⟩, ⟨rfl, rfl⟩, _, ((s_take (s_take (s_take (s_take s_nil)))))⟩
            · try simp only [decide_eq_true_eq, decide_eq_false_iff_not, Bool.not_eq_true', Bool.not_eq_false', Int.not_lt, Int.not_le, Decidable.not_not, beq_iff_eq, bne_iff_ne, ne_eq, beq_eq_false_iff_ne, WA.wd] at h577_1
              refine c_skip ?_
              refine c_region ?_
              refine o_T (y_move rfl) rfl ?_
              refine o_T (y_add rfl rfl (w64 (by omega))) rfl ?_
              refine o_L (y_assign rfl) rfl rfl ?_
              refine o_nil0 rfl ?_
              refine ⟨(k + 1, wn, ch), ⟨⟨by omega, .inl ⟨g3.1, g3.2.1, take_step (P := fun y : Wt => ¬ wOf c p y = true) g3.2.2 hk (by rw [wOf_iff]; first | exact fun z => absurd z.1 (by assumption) | exact fun z => absurd z.2 (by assumption))⟩⟩, by dsimp only; omega⟩, ⟨rfl, rfl, gteI rfl (by dsimp only; omega), trivial⟩, ⟨rfl, rfl⟩, _, ((s_take (s_take (s_take (s_take s_nil)))))⟩
          · try simp only [decide_eq_true_eq, decide_eq_false_iff_not, Bool.not_eq_true', Bool.not_eq_false', Int.not_lt, Int.not_le, Decidable.not_not, beq_iff_eq, bne_iff_ne, ne_eq, beq_eq_false_iff_ne, WA.wd] at h577
            refine o_pass rfl rfl rfl rfl rfl ?_
            refine o_pass rfl rfl rfl rfl rfl ?_
            refine o_pass rfl rfl rfl rfl rfl ?_
            refine o_pass rfl rfl rfl rfl rfl ?_
            refine o_pass rfl rfl rfl rfl rfl ?_
            refine o_pass rfl rfl rfl rfl rfl ?_
            refine o_pass rfl rfl rfl rfl rfl ?_
            refine o_pass rfl rfl rfl rfl rfl ?_
            refine o_pass rfl rfl rfl rfl rfl ?_
            refine o_pass rfl rfl rfl rfl rfl ?_
            refine o_T (y_pickF rfl rfl) rfl ?_
            refine o_nil1 53 rfl rfl ?_
            refine c_condF rfl ?_
            refine c_skip ?_
            refine c_region ?_
            refine o_T (y_move rfl) rfl ?_
            refine o_T (y_add rfl rfl (w64 (by omega))) rfl ?_
            refine o_L (y_assign rfl) rfl rfl ?_
            refine o_nil0 rfl ?_
            refine ⟨(k + 1, wn, ch), ⟨⟨by omega, .inl ⟨g3.1, g3.2.1, take_step (P := fun y : Wt => ¬ wOf c p y = true) g3.2.2 hk (by rw [wOf_iff]; first | exact fun z => absurd z.1 (by assumption) | exact fun z => absurd z.2 (by assumption))⟩⟩, by dsimp only; omega⟩, ⟨rfl, rfl, gteI rfl (by dsimp only; omega), trivial⟩, ⟨rfl, rfl⟩, _, ((s_take (s_take (s_take (s_take s_nil)))))⟩
        · try simp only [decide_eq_true_eq, decide_eq_false_iff_not, Bool.not_eq_true', Bool.not_eq_false', Int.not_lt, Int.not_le, Decidable.not_not, beq_iff_eq, bne_iff_ne, ne_eq, beq_eq_false_iff_ne, WA.wd] at h576_1
          refine c_exit ?_
          refine ⟨(), trivial, ⟨gteI rfl (g2.end h572 (by first | exact .inl (by omega) | exact .inr (by assumption))).1, gteI rfl (g2.end h572 (by first | exact .inl (by omega) | exact .inr (by assumption))).2, trivial⟩, ⟨rfl, rfl⟩, _, ((s_take (s_take (s_take (s_take s_nil)))))⟩
      · try simp only [decide_eq_true_eq, decide_eq_false_iff_not, Bool.not_eq_true', Bool.not_eq_false', Int.not_lt, Int.not_le, Decidable.not_not, beq_iff_eq, bne_iff_ne, ne_eq, beq_eq_false_iff_ne, WA.wd] at h576
        refine o_pass rfl rfl rfl rfl rfl ?_
        refine o_pass rfl rfl rfl rfl rfl ?_
        refine o_T (y_pickF rfl rfl) rfl ?_
        refine o_nil1 29 rfl rfl ?_
        refine c_condF rfl ?_
        refine c_exit ?_
        refine ⟨(), trivial, ⟨gteI rfl (g2.end h572 (by first | exact .inl (by omega) | exact .inr (by assumption))).1, gteI rfl (g2.end h572 (by first | exact .inl (by omega) | exact .inr (by assumption))).2, trivial⟩, ⟨rfl, rfl⟩, _, ((s_take (s_take (s_take (s_take s_nil)))))⟩
  · rintro ⟨⟩ _
    try dsimp only at _
    refine c_seq ?_
    refine c_region ?_
    refine o_T (y_move rfl) rfl ?_
    refine o_T (y_move rfl) rfl ?_
    refine o_T (y_nilck rfl) rfl ?_
    refine o_T (y_fa fl_53_0 rfl) rfl ?_
    refine o_T (y_ia ar_34 rfl rfl (by omega) (by omega)) rfl ?_
    refine o_ld one_33 rfl m0 (Wd.g_h c (by omega) (by omega)) rfl ?_
    refine o_T (y_move rfl) rfl ?_
    refine o_call en_93 rfl (i93 hh c3 (ok _ c3).1 _ hkid) (s_skip (s_take s_nil)) rfl ?_
    rintro v S' ⟨gx_1, rfl, hx_1, rfl⟩
    refine o_T (y_move rfl) rfl ?_
    refine o_T (y_extract rfl rfl) rfl ?_
    refine o_T (y_extract rfl rfl) rfl ?_
    refine o_L (y_assign rfl) rfl rfl ?_
    refine o_L (y_assign rfl) rfl rfl ?_
    refine o_nil0 rfl ?_
    refine c_seq ?_
    refine c_seq ?_
    refine c_region ?_
    refine o_T (y_move rfl) rfl ?_
    refine o_T (y_nilck rfl) rfl ?_
    refine o_T (y_fa fl_53_3 rfl) rfl ?_
    refine o_ld one_4 rfl (ms m0) Wd.g27 rfl ?_
    refine o_nil1 76 rfl rfl ?_
    refine c_front (s_get (ks (ks k0)) (s_get k0 (s_get k0 (s_get k0 s_nil)))) ?_
    refine c_joinD 1 (ι := List Chunk) (fun i => []) (fun i => [i]) (fun i => q = true → HsG (upA x.H c { (x.H c) with t := ((x.H c).t.accept p).2.2 }) A.qv A.qb i) (fun _ _ h => h) ?_ ?_
    · skip
      refine c_cond rfl (fun h583 => ?_) (fun h583 => ?_)
      · try simp only [decide_eq_true_eq, decide_eq_false_iff_not, Bool.not_eq_true', Bool.not_eq_false', Int.not_lt, Int.not_le, Decidable.not_not, beq_iff_eq, bne_iff_ne, ne_eq, beq_eq_false_iff_ne, WA.wd] at h583
        refine c_seq ?_
        refine c_region ?_
        refine o_T (y_move rfl) rfl ?_
        refine o_T (y_move rfl) rfl ?_
        refine o_T (y_nilck rfl) rfl ?_
        refine o_T (y_fa fl_53_2 rfl) rfl ?_
        refine o_T (y_ia ar_34 rfl rfl (by omega) (by omega)) rfl ?_
        refine o_ld one_33 rfl (ms (ms m0)) (Wd.g_q c (by omega) (by omega)) rfl ?_
        refine o_T (y_move rfl) rfl ?_
        refine o_call en_93 rfl (i93 (hq h583) c3 (ok _ c3).1 _ hkid) (s_take s_nil) rfl ?_
        rintro v S' ⟨gx_2, rfl, hx_2, rfl⟩
        refine o_T (y_move rfl) rfl ?_
        refine o_T (y_extract rfl rfl) rfl ?_
        refine o_T (y_extract rfl rfl) rfl ?_
        refine o_L (y_assign rfl) rfl rfl ?_
        refine o_L (y_assign rfl) rfl rfl ?_
        refine o_nil0 rfl ?_
        refine c_seq ?_
        refine c_region ?_
        refine o_T (y_move rfl) rfl ?_
        refine o_T (y_move rfl) rfl ?_
        refine o_T (y_neq rfl rfl) rfl ?_
        refine o_T (y_move rfl) rfl ?_
        refine o_split 91 rfl (fun h585 => ?_) (fun h585 => ?_)
        · try simp only [decide_eq_true_eq, decide_eq_false_iff_not, Bool.not_eq_true', Bool.not_eq_false', Int.not_lt, Int.not_le, Decidable.not_not, beq_iff_eq, bne_iff_ne, ne_eq, beq_eq_false_iff_ne, WA.wd] at h585
          exact absurd trivial h585
        · try simp only [decide_eq_true_eq, decide_eq_false_iff_not, Bool.not_eq_true', Bool.not_eq_false', Int.not_lt, Int.not_le, Decidable.not_not, beq_iff_eq, bne_iff_ne, ne_eq, beq_eq_false_iff_ne, WA.wd] at h585
          refine o_take rfl rfl rfl ?_
          refine o_T (y_move rfl) rfl ?_
          refine o_take rfl rfl rfl ?_
          refine o_T (y_move rfl) rfl ?_
          refine o_take rfl rfl rfl ?_
          refine o_T (y_neq rfl rfl) rfl ?_
          refine o_T (y_pickF rfl rfl) rfl ?_
          refine o_nil1 95 rfl rfl ?_
          refine c_cond rfl (fun h585_1 => ?_) (fun h585_1 => ?_)
          · try simp only [decide_eq_true_eq, decide_eq_false_iff_not, Bool.not_eq_true', Bool.not_eq_false', Int.not_lt, Int.not_le, Decidable.not_not, beq_iff_eq, bne_iff_ne, ne_eq, beq_eq_false_iff_ne, WA.wd] at h585_1
            exact absurd trivial h585_1
          · try simp only [decide_eq_true_eq, decide_eq_false_iff_not, Bool.not_eq_true', Bool.not_eq_false', Int.not_lt, Int.not_le, Decidable.not_not, beq_iff_eq, bne_iff_ne, ne_eq, beq_eq_false_iff_ne, WA.wd] at h585_1
            refine c_skip ?_
            refine ⟨gx_2, fun _ => hx_2, trivial, ⟨rfl, rfl⟩, _, ((s_take (s_take (s_take (s_take s_nil)))))⟩
      · try simp only [decide_eq_true_eq, decide_eq_false_iff_not, Bool.not_eq_true', Bool.not_eq_false', Int.not_lt, Int.not_le, Decidable.not_not, beq_iff_eq, bne_iff_ne, ne_eq, beq_eq_false_iff_ne, WA.wd] at h583
        refine c_skip ?_
        refine ⟨gq, fun z => absurd (z.symm.trans h583) (fun y => nomatch y), trivial, ⟨rfl, rfl⟩, _, ((s_take (s_take (s_take (s_take s_nil)))))⟩
    · rintro gq2 hq2
      try dsimp only at hq2
      refine c_seq ?_
      refine c_region ?_
      refine o_T (y_move rfl) rfl ?_
      refine o_T (y_move rfl) rfl ?_
      refine o_T (y_eql rfl rfl) rfl ?_
      refine o_T (y_move rfl) rfl ?_
      refine o_split 99 rfl (fun h589 => ?_) (fun h589 => ?_)
      · try simp only [decide_eq_true_eq, decide_eq_false_iff_not, Bool.not_eq_true', Bool.not_eq_false', Int.not_lt, Int.not_le, Decidable.not_not, beq_iff_eq, bne_iff_ne, ne_eq, beq_eq_false_iff_ne, WA.wd] at h589
        refine o_take rfl rfl rfl ?_
        refine o_T (y_move rfl) rfl ?_
        refine o_take rfl rfl rfl ?_
        refine o_T (y_move rfl) rfl ?_
        refine o_take rfl rfl rfl ?_
        refine o_T (y_eql rfl rfl) rfl ?_
        refine o_T (y_pickT rfl rfl) rfl ?_
        refine o_L (y_assign rfl) rfl rfl ?_
        refine o_nil0 rfl ?_
        refine c_ret ?_
        refine fun aX wX heX hsX => ret1 Tryz.results46 heX rfl (s_get (ks (ks k0)) (s_get (ks k0) (s_get k0 (s_get k0 s_nil)))) ?_
        exact ⟨congrArg Value.bool (by first | rfl | exact decide_eq_true ha2), _, _, hx_1, hq2, rfl⟩
      · try simp only [decide_eq_true_eq, decide_eq_false_iff_not, Bool.not_eq_true', Bool.not_eq_false', Int.not_lt, Int.not_le, Decidable.not_not, beq_iff_eq, bne_iff_ne, ne_eq, beq_eq_false_iff_ne, WA.wd] at h589
        first | exact absurd ha1 h589 | exact absurd ha2 h589

end Go.Proofs.Qxb6500351aGreat
