/- MADE BY PROGRAM (tools/gen.py over tools/specsw.py): walks. -/
import Derived.Test.Qxb6500351aGreatW71
set_option linter.unusedVariables false
set_option linter.unusedSimpArgs false
namespace Go.Proofs.Qxb6500351aGreat
open Go.Eng
set_option maxRecDepth 20000
set_option maxHeartbeats 4000000
/-- (*e2e/towerlaw.World).count -/
theorem t88 (A : WA) (q : Bool) (x : Wrld) (V : WV) (gh gs : List Chunk) (c : Nat) (c3 : c < 3) (kd : Int) (hh : HsG x.H A.hv A.bv gh) (ok : ∀ i, i < 3 → (x.H i).Ok ∧ InfoOk (x.H i)) (hs : SnG x.seen V.seen gs) : Trip Tryz.prog 88 #[.pointer (some ⟨A.b, 0, none⟩), .int .i64 (c : Int), .int .i64 kd] [[(A.b, .cells (A.wd q x V).enc 53 (0, 0))], gh, gs] (fun u S' => u = .int .i64 (x.cnt c kd : Nat) ∧ S' = [[(A.b, .cells (A.wd q x V).enc 53 (0, 0))], gh, gs]) := by
  obtain ⟨gc, grest, hin, hpm, hbk⟩ := hs.at c3
  obtain ⟨pse, hsv⟩ := hin.slice
  have hsl := hin.1
  refine fn_entry (args := [.pointer (some ⟨A.b, 0, none⟩), .int .i64 (c : Int), .int .i64 kd]) Tryz.func88 rfl Tryz.ntmps88 rfl (fun w0 => ?_)
  refine c_seq ?_
  refine c_region ?_
  refine o_L (y_assign rfl) rfl rfl ?_
  refine o_nil0 rfl ?_
  refine c_seq ?_
  refine c_region ?_
  refine o_L (y_assign rfl) rfl rfl ?_
  refine o_nil0 rfl ?_
  refine c_seq ?_
  refine c_seq ?_
  refine c_front (s_get (ks (ks k0)) (s_get k0 (s_get k0 s_nil))) ?_
  refine c_opn hpm ?_
  refine c_region ?_
  refine o_L (y_assign rfl) rfl rfl ?_
  refine o_nil0 rfl ?_
  refine c_block ?_
  refine c_loopG (ι := Nat) (fun i => [(7, .int .i64 (((x.seen c).take i).countP (fun sd => decide ((x.H c).err sd = 0) && decide (((x.H c).ent sd).kind = kd)) : Nat)), (8, .int .i64 (i : Int))]) (fun i => []) (fun i => i ≤ (x.seen c).length) (fun i => (x.seen c).length - i) 0 (by omega) ⟨by first | rfl | exact gteI rfl (by omega), by first | rfl | exact gteI rfl (by omega), trivial⟩ (s_take (s_take (s_take (s_take s_nil)))) ?_
  rintro k hI
  try dsimp only at hI
  have hcl : ((x.seen c).take k).countP (fun sd => decide ((x.H c).err sd = 0) && decide (((x.H c).ent sd).kind = kd)) ≤ k := Nat.le_trans List.countP_le_length (by rw [List.length_take]; omega)
  refine c_seq ?_
  refine c_seq ?_
  refine c_region ?_
  refine o_T (y_move rfl) rfl ?_
  refine o_T (y_move rfl) rfl ?_
  refine o_T (y_move rfl) rfl ?_
  refine o_T (y_nilck rfl) rfl ?_
  refine o_T (y_fa fl_53_8 rfl) rfl ?_
  refine o_T (y_ia ar_47 rfl rfl (by omega) (by omega)) rfl ?_
  refine o_ld one_46 rfl (ms (ms m0)) ((Wd.g_seen c (by omega) (by omega)).trans (congrArg some hsv)) rfl ?_
  refine o_T (y_len Tryz.underlying46 rfl) rfl ?_
  refine o_T (y_lss rfl rfl) rfl ?_
  refine o_nil1 19 rfl rfl ?_
  refine c_cond rfl (fun h467 => ?_) (fun h467 => ?_)
  · try simp only [decide_eq_true_eq, decide_eq_false_iff_not, Bool.not_eq_true', Bool.not_eq_false', Int.not_lt, Int.not_le, Decidable.not_not, beq_iff_eq, bne_iff_ne, ne_eq, beq_eq_false_iff_ne, WA.wd] at h467
    refine c_skip ?_
    refine c_seq ?_
    refine c_block ?_
    refine c_seq ?_
    obtain ⟨bs, hsv2, hgc⟩ := hin.pos (by omega)
    subst hgc
    refine c_draw #[true, true, true, true, true, true, true, true, true, true, true, true, true, true, true, true, true, true, true, true, false, true] rfl (n := 22) rfl ?_
    refine d_T 0 rfl (by kernel_rfl) rfl (y_move rfl) rfl ?_
    refine d_T 1 rfl (by kernel_rfl) rfl (y_move rfl) rfl ?_
    refine d_T 2 rfl (by kernel_rfl) rfl (y_nilck rfl) rfl ?_
    refine d_T 3 rfl (by kernel_rfl) rfl (y_fa fl_53_0 rfl) rfl ?_
    refine d_T 4 rfl (by kernel_rfl) rfl (y_ia ar_34 rfl rfl (by omega) (by omega)) rfl ?_
    refine d_ld 5 rfl (by kernel_rfl) one_33 rfl (fun x hx => hx) (ms (ms m0)) (Wd.g_h c (by omega) (by omega)) rfl ?_
    refine d_T 6 rfl (by kernel_rfl) rfl (y_move rfl) rfl ?_
    refine d_T 7 rfl (by kernel_rfl) rfl (y_move rfl) rfl ?_
    refine d_T 8 rfl (by kernel_rfl) rfl (y_nilck rfl) rfl ?_
    refine d_T 9 rfl (by kernel_rfl) rfl (y_fa fl_53_8 rfl) rfl ?_
    refine d_T 10 rfl (by kernel_rfl) rfl (y_ia ar_47 rfl rfl (by omega) (by omega)) rfl ?_
    refine d_ld 11 rfl (by kernel_rfl) one_46 rfl (fun x hx => hx) (ms (ms m0)) ((Wd.g_seen c (by omega) (by omega)).trans (congrArg some hsv2)) rfl ?_
    refine d_T 12 rfl (by kernel_rfl) rfl (y_move rfl) rfl ?_
    refine d_T 13 rfl (by kernel_rfl) rfl (y_is sl_46 rfl rfl (by omega) (by omega)) rfl ?_
    refine d_ld 14 rfl (by kernel_rfl) one_3 rfl (fun x hx => hx) m0 (iV_get k (by omega) (by omega)) rfl ?_
    refine d_hard2A 19 15 (l := [15, 19]) rfl rfl (by kernel_rfl) (by first | exact .inl rfl | exact .inr rfl) ze_69 rfl rfl (fun b_1 => ?_) ?_
    · skip
      refine d_hard 15 rfl (by kernel_rfl) ?_
      refine o_call en_32 rfl (i32 hh (by assumption) (ok _ (by assumption)).1 _ ((ok _ (by assumption)).2 _)) (s_skip (s_skip (s_skip (s_skip (s_take s_nil))))) rfl ?_
      rintro v S' ⟨pc_1, gc_1, rfl, hi_1, rfl⟩
      refine o_front (s_get k0 (s_get (ks k0) (s_get (ks k0) (s_get (ks k0) (s_get (ks k0) (s_get k0 s_nil)))))) ?_
      refine o_stop (fun _ => (fun x hx => (ms (ms hx)))) ?_
      refine d_T 16 rfl (by kernel_rfl) rfl (y_move rfl) rfl ?_
      refine d_T 17 rfl (by kernel_rfl) rfl (y_extract rfl rfl) rfl ?_
      refine d_T 18 rfl (by kernel_rfl) rfl (y_extract rfl rfl) rfl ?_
      refine d_hard 20 rfl (by kernel_rfl) ?_
      refine o_sta ag_69 rfl rfl (si_plain hi_1) rfl (rs r0) (setAll_full _ _ rfl) (of_ble rfl) ?_
      refine o_stop (fun h => nomatch h) ?_
      refine d_L 21 rfl (by kernel_rfl) rfl (y_assign rfl) rfl rfl ?_
      refine d_nil0 (by kernel_rfl) rfl ?_
      refine c_seq ?_
      refine c_region ?_
      refine o_T (y_move rfl) rfl ?_
      refine o_T (y_eql rfl rfl) rfl ?_
      refine o_T (y_move rfl) rfl ?_
      refine o_split 43 rfl (fun h469 => ?_) (fun h469 => ?_)
      · try simp only [decide_eq_true_eq, decide_eq_false_iff_not, Bool.not_eq_true', Bool.not_eq_false', Int.not_lt, Int.not_le, Decidable.not_not, beq_iff_eq, bne_iff_ne, ne_eq, beq_eq_false_iff_ne, WA.wd] at h469
        refine o_take rfl rfl rfl ?_
        refine o_T (y_fa fl_69_0 rfl) rfl ?_
        refine o_take rfl rfl rfl ?_
        refine o_T (y_fa fl_66_1 rfl) rfl ?_
        refine o_take rfl rfl rfl ?_
        refine o_ld one_3 rfl (ms m0) Si.g1 rfl ?_
        refine o_take rfl rfl rfl ?_
        refine o_T (y_move rfl) rfl ?_
        refine o_take rfl rfl rfl ?_
        refine o_T (y_eql rfl rfl) rfl ?_
        refine o_T (y_pickT rfl rfl) rfl ?_
        refine o_nil1 49 rfl rfl ?_
        refine c_cond rfl (fun h469_1 => ?_) (fun h469_1 => ?_)
        · try simp only [decide_eq_true_eq, decide_eq_false_iff_not, Bool.not_eq_true', Bool.not_eq_false', Int.not_lt, Int.not_le, Decidable.not_not, beq_iff_eq, bne_iff_ne, ne_eq, beq_eq_false_iff_ne, WA.wd] at h469_1
          refine c_region ?_
          refine o_T (y_move rfl) rfl ?_
          refine o_T (y_add rfl rfl (w64 (by omega))) rfl ?_
          refine o_L (y_assign rfl) rfl rfl ?_
          refine o_nil0 rfl ?_
          refine c_region ?_
          refine o_T (y_move rfl) rfl ?_
          refine o_T (y_add rfl rfl (w64 (by omega))) rfl ?_
          refine o_L (y_assign rfl) rfl rfl ?_
          refine o_nil0 rfl ?_
          refine ⟨(k + 1), ⟨by omega, by first | omega | (dsimp only; omega)⟩, ⟨gteI rfl (by (try dsimp only); rw [cnt_step (by omega)]; rw [if_pos (by (simp only [Bool.and_eq_true, decide_eq_true_eq]; first | exact ⟨by assumption, by assumption⟩ | exact fun z => absurd z.1 (by assumption) | exact fun z => absurd z.2 (by assumption) | exact ⟨⟨by assumption, by assumption⟩, by assumption⟩ | exact fun z => absurd z.1.1 (by assumption) | exact fun z => absurd z.1.2 (by assumption)))]; omega), gteI rfl (by (try dsimp only); omega), trivial⟩, ⟨rfl, rfl⟩, _, ((s_skip (s_skip (s_take (s_take (s_take (s_take s_nil)))))))⟩
        · try simp only [decide_eq_true_eq, decide_eq_false_iff_not, Bool.not_eq_true', Bool.not_eq_false', Int.not_lt, Int.not_le, Decidable.not_not, beq_iff_eq, bne_iff_ne, ne_eq, beq_eq_false_iff_ne, WA.wd] at h469_1
          refine c_skip ?_
          refine c_region ?_
          refine o_T (y_move rfl) rfl ?_
          refine o_T (y_add rfl rfl (w64 (by omega))) rfl ?_
          refine o_L (y_assign rfl) rfl rfl ?_
          refine o_nil0 rfl ?_
          refine ⟨(k + 1), ⟨by omega, by first | omega | (dsimp only; omega)⟩, ⟨gteI rfl (by (try dsimp only); rw [cnt_step (by omega)]; rw [if_neg (by (simp only [Bool.and_eq_true, decide_eq_true_eq]; first | exact ⟨by assumption, by assumption⟩ | exact fun z => absurd z.1 (by assumption) | exact fun z => absurd z.2 (by assumption) | exact ⟨⟨by assumption, by assumption⟩, by assumption⟩ | exact fun z => absurd z.1.1 (by assumption) | exact fun z => absurd z.1.2 (by assumption)))]; omega), gteI rfl (by (try dsimp only); omega), trivial⟩, ⟨rfl, rfl⟩, _, ((s_skip (s_skip (s_take (s_take (s_take (s_take s_nil)))))))⟩
      · try simp only [decide_eq_true_eq, decide_eq_false_iff_not, Bool.not_eq_true', Bool.not_eq_false', Int.not_lt, Int.not_le, Decidable.not_not, beq_iff_eq, bne_iff_ne, ne_eq, beq_eq_false_iff_ne, WA.wd] at h469
        refine o_pass rfl rfl rfl rfl rfl ?_
        refine o_pass rfl rfl rfl rfl rfl ?_
        refine o_pass rfl rfl rfl rfl rfl ?_
        refine o_pass rfl rfl rfl rfl rfl ?_
        refine o_pass rfl rfl rfl rfl rfl ?_
        refine o_T (y_pickF rfl rfl) rfl ?_
        refine o_nil1 49 rfl rfl ?_
        refine c_condF rfl ?_
        refine c_skip ?_
        refine c_region ?_
        refine o_T (y_move rfl) rfl ?_
        refine o_T (y_add rfl rfl (w64 (by omega))) rfl ?_
        refine o_L (y_assign rfl) rfl rfl ?_
        refine o_nil0 rfl ?_
        refine ⟨(k + 1), ⟨by omega, by first | omega | (dsimp only; omega)⟩, ⟨gteI rfl (by (try dsimp only); rw [cnt_step (by omega)]; rw [if_neg (by (simp only [Bool.and_eq_true, decide_eq_true_eq]; first | exact ⟨by assumption, by assumption⟩ | exact fun z => absurd z.1 (by assumption) | exact fun z => absurd z.2 (by assumption) | exact ⟨⟨by assumption, by assumption⟩, by assumption⟩ | exact fun z => absurd z.1.1 (by assumption) | exact fun z => absurd z.1.2 (by assumption)))]; omega), gteI rfl (by (try dsimp only); omega), trivial⟩, ⟨rfl, rfl⟩, _, ((s_skip (s_skip (s_take (s_take (s_take (s_take s_nil)))))))⟩
    · skip
      refine o_call en_32 rfl (i32 hh (by assumption) (ok _ (by assumption)).1 _ ((ok _ (by assumption)).2 _)) (s_skip (s_skip (s_skip (s_take s_nil)))) rfl ?_
      rintro v S' ⟨pc_2, gc_2, rfl, hi_2, rfl⟩
      refine o_front (s_get k0 (s_get (ks k0) (s_get (ks k0) (s_get (ks k0) (s_get k0 s_nil))))) ?_
      refine o_stop (fun _ => (fun x hx => (ms hx))) ?_
      refine d_T 16 rfl (by kernel_rfl) rfl (y_move rfl) rfl ?_
      refine d_T 17 rfl (by kernel_rfl) rfl (y_extract rfl rfl) rfl ?_
      refine d_T 18 rfl (by kernel_rfl) rfl (y_extract rfl rfl) rfl ?_
      refine d_hardA 19 rfl (by kernel_rfl) ze_69 rfl rfl (fun b_2 => ?_)
      refine d_hard 20 rfl (by kernel_rfl) ?_
      refine o_sta ag_69 rfl rfl (si_plain hi_2) rfl r0 (setAll_full _ _ rfl) (of_ble rfl) ?_
      refine o_stop (fun h => nomatch h) ?_
      refine d_L 21 rfl (by kernel_rfl) rfl (y_assign rfl) rfl rfl ?_
      refine d_nil0 (by kernel_rfl) rfl ?_
      refine c_seq ?_
      refine c_region ?_
      refine o_T (y_move rfl) rfl ?_
      refine o_T (y_eql rfl rfl) rfl ?_
      refine o_T (y_move rfl) rfl ?_
      refine o_split 43 rfl (fun h469 => ?_) (fun h469 => ?_)
      · try simp only [decide_eq_true_eq, decide_eq_false_iff_not, Bool.not_eq_true', Bool.not_eq_false', Int.not_lt, Int.not_le, Decidable.not_not, beq_iff_eq, bne_iff_ne, ne_eq, beq_eq_false_iff_ne, WA.wd] at h469
        refine o_take rfl rfl rfl ?_
        refine o_T (y_fa fl_69_0 rfl) rfl ?_
        refine o_take rfl rfl rfl ?_
        refine o_T (y_fa fl_66_1 rfl) rfl ?_
        refine o_take rfl rfl rfl ?_
        refine o_ld one_3 rfl m0 Si.g1 rfl ?_
        refine o_take rfl rfl rfl ?_
        refine o_T (y_move rfl) rfl ?_
        refine o_take rfl rfl rfl ?_
        refine o_T (y_eql rfl rfl) rfl ?_
        refine o_T (y_pickT rfl rfl) rfl ?_
        refine o_nil1 49 rfl rfl ?_
        refine c_cond rfl (fun h469_1 => ?_) (fun h469_1 => ?_)
        · try simp only [decide_eq_true_eq, decide_eq_false_iff_not, Bool.not_eq_true', Bool.not_eq_false', Int.not_lt, Int.not_le, Decidable.not_not, beq_iff_eq, bne_iff_ne, ne_eq, beq_eq_false_iff_ne, WA.wd] at h469_1
          refine c_region ?_
          refine o_T (y_move rfl) rfl ?_
          refine o_T (y_add rfl rfl (w64 (by omega))) rfl ?_
          refine o_L (y_assign rfl) rfl rfl ?_
          refine o_nil0 rfl ?_
          refine c_region ?_
          refine o_T (y_move rfl) rfl ?_
          refine o_T (y_add rfl rfl (w64 (by omega))) rfl ?_
          refine o_L (y_assign rfl) rfl rfl ?_
          refine o_nil0 rfl ?_
          refine ⟨(k + 1), ⟨by omega, by first | omega | (dsimp only; omega)⟩, ⟨gteI rfl (by (try dsimp only); rw [cnt_step (by omega)]; rw [if_pos (by (simp only [Bool.and_eq_true, decide_eq_true_eq]; first | exact ⟨by assumption, by assumption⟩ | exact fun z => absurd z.1 (by assumption) | exact fun z => absurd z.2 (by assumption) | exact ⟨⟨by assumption, by assumption⟩, by assumption⟩ | exact fun z => absurd z.1.1 (by assumption) | exact fun z => absurd z.1.2 (by assumption)))]; omega), gteI rfl (by (try dsimp only); omega), trivial⟩, ⟨rfl, rfl⟩, _, ((s_skip (s_skip (s_take (s_take (s_take (s_take s_nil)))))))⟩
        · try simp only [decide_eq_true_eq, decide_eq_false_iff_not, Bool.not_eq_true', Bool.not_eq_false', Int.not_lt, Int.not_le, Decidable.not_not, beq_iff_eq, bne_iff_ne, ne_eq, beq_eq_false_iff_ne, WA.wd] at h469_1
          refine c_skip ?_
          refine c_region ?_
          refine o_T (y_move rfl) rfl ?_
          refine o_T (y_add rfl rfl (w64 (by omega))) rfl ?_
          refine o_L (y_assign rfl) rfl rfl ?_
          refine o_nil0 rfl ?_
          refine ⟨(k + 1), ⟨by omega, by first | omega | (dsimp only; omega)⟩, ⟨gteI rfl (by (try dsimp only); rw [cnt_step (by omega)]; rw [if_neg (by (simp only [Bool.and_eq_true, decide_eq_true_eq]; first | exact ⟨by assumption, by assumption⟩ | exact fun z => absurd z.1 (by assumption) | exact fun z => absurd z.2 (by assumption) | exact ⟨⟨by assumption, by assumption⟩, by assumption⟩ | exact fun z => absurd z.1.1 (by assumption) | exact fun z => absurd z.1.2 (by assumption)))]; omega), gteI rfl (by (try dsimp only); omega), trivial⟩, ⟨rfl, rfl⟩, _, ((s_skip (s_skip (s_take (s_take (s_take (s_take s_nil)))))))⟩
      · try simp only [decide_eq_true_eq, decide_eq_false_iff_not, Bool.not_eq_true', Bool.not_eq_false', Int.not_lt, Int.not_le, Decidable.not_not, beq_iff_eq, bne_iff_ne, ne_eq, beq_eq_false_iff_ne, WA.wd] at h469
        refine o_pass rfl rfl rfl rfl rfl ?_
        refine o_pass rfl rfl rfl rfl rfl ?_
        refine o_pass rfl rfl rfl rfl rfl ?_
        refine o_pass rfl rfl rfl rfl rfl ?_
        refine o_pass rfl rfl rfl rfl rfl ?_
        refine o_T (y_pickF rfl rfl) rfl ?_
        refine o_nil1 49 rfl rfl ?_
        refine c_condF rfl ?_
        refine c_skip ?_
        refine c_region ?_
        refine o_T (y_move rfl) rfl ?_
        refine o_T (y_add rfl rfl (w64 (by omega))) rfl ?_
        refine o_L (y_assign rfl) rfl rfl ?_
        refine o_nil0 rfl ?_
        refine ⟨(k + 1), ⟨by omega, by first | omega | (dsimp only; omega)⟩, ⟨gteI rfl (by (try dsimp only); rw [cnt_step (by omega)]; rw [if_neg (by (simp only [Bool.and_eq_true, decide_eq_true_eq]; first | exact ⟨by assumption, by assumption⟩ | exact fun z => absurd z.1 (by assumption) | exact fun z => absurd z.2 (by assumption) | exact ⟨⟨by assumption, by assumption⟩, by assumption⟩ | exact fun z => absurd z.1.1 (by assumption) | exact fun z => absurd z.1.2 (by assumption)))]; omega), gteI rfl (by (try dsimp only); omega), trivial⟩, ⟨rfl, rfl⟩, _, ((s_skip (s_skip (s_take (s_take (s_take (s_take s_nil)))))))⟩
  · try simp only [decide_eq_true_eq, decide_eq_false_iff_not, Bool.not_eq_true', Bool.not_eq_false', Int.not_lt, Int.not_le, Decidable.not_not, beq_iff_eq, bne_iff_ne, ne_eq, beq_eq_false_iff_ne, WA.wd] at h467
    refine c_exit ?_
    refine c_seq ?_
    refine c_sht hpm ?_
    refine c_region ?_
    refine o_T (y_move rfl) rfl ?_
    refine o_L (y_assign rfl) rfl rfl ?_
    refine o_nil0 rfl ?_
    refine c_ret ?_
    refine fun aX wX heX hsX => ret1 Tryz.results88 heX rfl (s_get (ks k0) (s_get (ks k0) (s_get k0 s_nil))) ?_
    obtain rfl : k = (x.seen c).length := by omega
    rw [List.take_length]
    exact ⟨rfl, rfl⟩

/-- (*e2e/towerlaw.World).listens -/
theorem t56 (A : WA) (q : Bool) (x : Wrld) (V : WV) (gh gs : List Chunk) (c : Nat) (c3 : c < 3) (p : Int) (hh : HsG x.H A.hv A.bv gh) (ok : ∀ i, i < 3 → (x.H i).Ok ∧ InfoOk (x.H i)) (hs : SnG x.seen V.seen gs) : Trip Tryz.prog 56 #[.pointer (some ⟨A.b, 0, none⟩), .int .i64 (c : Int), .int .i64 p] [[(A.b, .cells (A.wd q x V).enc 53 (0, 0))], gh, gs] (fun u S' => u = .bool (x.listensB c p) ∧ S' = [[(A.b, .cells (A.wd q x V).enc 53 (0, 0))], gh, gs]) := by
  obtain ⟨gc, grest, hin, hpm, hbk⟩ := hs.at c3
  obtain ⟨pse, hsv⟩ := hin.slice
  have hsl := hin.1
  refine fn_entry (args := [.pointer (some ⟨A.b, 0, none⟩), .int .i64 (c : Int), .int .i64 p]) Tryz.func56 rfl Tryz.ntmps56 rfl (fun w0 => ?_)
  refine c_seq ?_
  refine c_region ?_
  refine o_L (y_assign rfl) rfl rfl ?_
  refine o_nil0 rfl ?_
  refine c_seq ?_
  refine c_seq ?_
  refine c_front (s_get (ks (ks k0)) (s_get k0 (s_get k0 s_nil))) ?_
  refine c_opn hpm ?_
  refine c_region ?_
  refine o_L (y_assign rfl) rfl rfl ?_
  refine o_nil0 rfl ?_
  refine c_block ?_
  refine c_loopG (ι := Nat) (fun i => [(7, .int .i64 (i : Int))]) (fun i => []) (fun i => i ≤ (x.seen c).length ∧ ∀ y ∈ (x.seen c).take i, ¬ (fun sd => decide ((x.H c).err sd = 0) && decide (((x.H c).ent sd).kind = 1) && decide (((x.H c).ent sd).lPort = p)) y = true) (fun i => (x.seen c).length - i) 0 (by exact ⟨by omega, by simp⟩) ⟨by first | rfl | exact gteI rfl (by omega), trivial⟩ (s_take (s_take (s_take (s_take s_nil)))) ?_
  rintro k ⟨g3, g4⟩
  try dsimp only [List.cons_append, List.nil_append] at *
  refine c_seq ?_
  refine c_seq ?_
  refine c_region ?_
  refine o_T (y_move rfl) rfl ?_
  refine o_T (y_move rfl) rfl ?_
  refine o_T (y_move rfl) rfl ?_
  refine o_T (y_nilck rfl) rfl ?_
  refine o_T (y_fa fl_53_8 rfl) rfl ?_
  refine o_T (y_ia ar_47 rfl rfl (by omega) (by omega)) rfl ?_
  refine o_ld one_46 rfl (ms (ms m0)) ((Wd.g_seen c (by omega) (by omega)).trans (congrArg some hsv)) rfl ?_
  refine o_T (y_len Tryz.underlying46 rfl) rfl ?_
  refine o_T (y_lss rfl rfl) rfl ?_
  refine o_nil1 18 rfl rfl ?_
  refine c_cond rfl (fun h478 => ?_) (fun h478 => ?_)
  · try simp only [decide_eq_true_eq, decide_eq_false_iff_not, Bool.not_eq_true', Bool.not_eq_false', Int.not_lt, Int.not_le, Decidable.not_not, beq_iff_eq, bne_iff_ne, ne_eq, beq_eq_false_iff_ne, WA.wd] at h478
    refine c_skip ?_
    refine c_seq ?_
    refine c_block ?_
    refine c_seq ?_
    obtain ⟨bs, hsv2, hgc⟩ := hin.pos (by omega)
    subst hgc
    refine c_draw #[true, true, true, true, true, true, true, true, true, true, true, true, true, true, true, true, true, true, true, true, false, true] rfl (n := 22) rfl ?_
    refine d_T 0 rfl (by kernel_rfl) rfl (y_move rfl) rfl ?_
    refine d_T 1 rfl (by kernel_rfl) rfl (y_move rfl) rfl ?_
    refine d_T 2 rfl (by kernel_rfl) rfl (y_nilck rfl) rfl ?_
    refine d_T 3 rfl (by kernel_rfl) rfl (y_fa fl_53_0 rfl) rfl ?_
    refine d_T 4 rfl (by kernel_rfl) rfl (y_ia ar_34 rfl rfl (by omega) (by omega)) rfl ?_
    refine d_ld 5 rfl (by kernel_rfl) one_33 rfl (fun x hx => hx) (ms (ms m0)) (Wd.g_h c (by omega) (by omega)) rfl ?_
    refine d_T 6 rfl (by kernel_rfl) rfl (y_move rfl) rfl ?_
    refine d_T 7 rfl (by kernel_rfl) rfl (y_move rfl) rfl ?_
    refine d_T 8 rfl (by kernel_rfl) rfl (y_nilck rfl) rfl ?_
    refine d_T 9 rfl (by kernel_rfl) rfl (y_fa fl_53_8 rfl) rfl ?_
    refine d_T 10 rfl (by kernel_rfl) rfl (y_ia ar_47 rfl rfl (by omega) (by omega)) rfl ?_
    refine d_ld 11 rfl (by kernel_rfl) one_46 rfl (fun x hx => hx) (ms (ms m0)) ((Wd.g_seen c (by omega) (by omega)).trans (congrArg some hsv2)) rfl ?_
    refine d_T 12 rfl (by kernel_rfl) rfl (y_move rfl) rfl ?_
    refine d_T 13 rfl (by kernel_rfl) rfl (y_is sl_46 rfl rfl (by omega) (by omega)) rfl ?_
    refine d_ld 14 rfl (by kernel_rfl) one_3 rfl (fun x hx => hx) m0 (iV_get k (by omega) (by omega)) rfl ?_
    refine d_hard2A 19 15 (l := [15, 19]) rfl rfl (by kernel_rfl) (by first | exact .inl rfl | exact .inr rfl) ze_69 rfl rfl (fun b_1 => ?_) ?_
    · skip
      refine d_hard 15 rfl (by kernel_rfl) ?_
      refine o_call en_32 rfl (i32 hh (by assumption) (ok _ (by assumption)).1 _ ((ok _ (by assumption)).2 _)) (s_skip (s_skip (s_skip (s_skip (s_take s_nil))))) rfl ?_
      rintro v S' ⟨pc_1, gc_1, rfl, hi_1, rfl⟩
      refine o_front (s_get k0 (s_get (ks k0) (s_get (ks k0) (s_get (ks k0) (s_get (ks k0) (s_get k0 s_nil)))))) ?_
      refine o_stop (fun _ => (fun x hx => (ms (ms hx)))) ?_
      refine d_T 16 rfl (by kernel_rfl) rfl (y_move rfl) rfl ?_
      refine d_T 17 rfl (by kernel_rfl) rfl (y_extract rfl rfl) rfl ?_
      refine d_T 18 rfl (by kernel_rfl) rfl (y_extract rfl rfl) rfl ?_
      refine d_hard 20 rfl (by kernel_rfl) ?_
      refine o_sta ag_69 rfl rfl (si_plain hi_1) rfl (rs r0) (setAll_full _ _ rfl) (of_ble rfl) ?_
      refine o_stop (fun h => nomatch h) ?_
      refine d_L 21 rfl (by kernel_rfl) rfl (y_assign rfl) rfl rfl ?_
      refine d_nil0 (by kernel_rfl) rfl ?_
      refine c_seq ?_
      refine c_region ?_
      refine o_T (y_move rfl) rfl ?_
      refine o_T (y_eql rfl rfl) rfl ?_
      refine o_T (y_move rfl) rfl ?_
      refine o_split 42 rfl (fun h480 => ?_) (fun h480 => ?_)
      · try simp only [decide_eq_true_eq, decide_eq_false_iff_not, Bool.not_eq_true', Bool.not_eq_false', Int.not_lt, Int.not_le, Decidable.not_not, beq_iff_eq, bne_iff_ne, ne_eq, beq_eq_false_iff_ne, WA.wd] at h480
        refine o_take rfl rfl rfl ?_
        refine o_T (y_fa fl_69_0 rfl) rfl ?_
        refine o_take rfl rfl rfl ?_
        refine o_T (y_fa fl_66_1 rfl) rfl ?_
        refine o_take rfl rfl rfl ?_
        refine o_ld one_3 rfl (ms m0) Si.g1 rfl ?_
        refine o_take rfl rfl rfl ?_
        refine o_T (y_eql rfl rfl) rfl ?_
        refine o_T (y_pickT rfl rfl) rfl ?_
        refine o_T (y_move rfl) rfl ?_
        refine o_split 48 rfl (fun h480_1 => ?_) (fun h480_1 => ?_)
        · try simp only [decide_eq_true_eq, decide_eq_false_iff_not, Bool.not_eq_true', Bool.not_eq_false', Int.not_lt, Int.not_le, Decidable.not_not, beq_iff_eq, bne_iff_ne, ne_eq, beq_eq_false_iff_ne, WA.wd] at h480_1
          refine o_take rfl rfl rfl ?_
          refine o_T (y_fa fl_69_0 rfl) rfl ?_
          refine o_take rfl rfl rfl ?_
          refine o_T (y_fa fl_66_2 rfl) rfl ?_
          refine o_take rfl rfl rfl ?_
          refine o_ld one_3 rfl (ms m0) Si.g2 rfl ?_
          refine o_take rfl rfl rfl ?_
          refine o_T (y_move rfl) rfl ?_
          refine o_take rfl rfl rfl ?_
          refine o_T (y_eql rfl rfl) rfl ?_
          refine o_T (y_pickT rfl rfl) rfl ?_
          refine o_nil1 54 rfl rfl ?_
          refine c_cond rfl (fun h480_2 => ?_) (fun h480_2 => ?_)
          · try simp only [decide_eq_true_eq, decide_eq_false_iff_not, Bool.not_eq_true', Bool.not_eq_false', Int.not_lt, Int.not_le, Decidable.not_not, beq_iff_eq, bne_iff_ne, ne_eq, beq_eq_false_iff_ne, WA.wd] at h480_2
            refine c_seq ?_
            refine c_front (s_get (ks (ks k0)) (s_get (ks (ks k0)) (s_get k0 (s_get k0 (s_get k0 (s_get k0 s_nil)))))) ?_
            refine c_sht hpm ?_
            refine c_region ?_
            refine o_L (y_assign rfl) rfl rfl ?_
            refine o_nil0 rfl ?_
            refine c_ret ?_
            refine fun aX wX heX hsX => ret1 Tryz.results56 heX rfl (s_get (ks (ks (ks k0))) (s_get (ks (ks (ks k0))) (s_get k0 s_nil))) ?_
            refine ⟨congrArg Value.bool (any_at (k := k) (by omega) (by (simp only [Bool.and_eq_true, decide_eq_true_eq]; first | exact ⟨by assumption, by assumption⟩ | exact fun z => absurd z.1 (by assumption) | exact fun z => absurd z.2 (by assumption) | exact ⟨⟨by assumption, by assumption⟩, by assumption⟩ | exact fun z => absurd z.1.1 (by assumption) | exact fun z => absurd z.1.2 (by assumption)))).symm, rfl⟩
          · try simp only [decide_eq_true_eq, decide_eq_false_iff_not, Bool.not_eq_true', Bool.not_eq_false', Int.not_lt, Int.not_le, Decidable.not_not, beq_iff_eq, bne_iff_ne, ne_eq, beq_eq_false_iff_ne, WA.wd] at h480_2
            refine c_skip ?_
            refine c_region ?_
            refine o_T (y_move rfl) rfl ?_
            refine o_T (y_add rfl rfl (w64 (by omega))) rfl ?_
            refine o_L (y_assign rfl) rfl rfl ?_
            refine o_nil0 rfl ?_
            refine ⟨(k + 1), ⟨⟨by omega, take_step (P := fun y => ¬ (fun sd => decide ((x.H c).err sd = 0) && decide (((x.H c).ent sd).kind = 1) && decide (((x.H c).ent sd).lPort = p)) y = true) g4 (by omega) (by rw [← getD_at (by omega)]; (simp only [Bool.and_eq_true, decide_eq_true_eq]; first | exact ⟨by assumption, by assumption⟩ | exact fun z => absurd z.1 (by assumption) | exact fun z => absurd z.2 (by assumption) | exact ⟨⟨by assumption, by assumption⟩, by assumption⟩ | exact fun z => absurd z.1.1 (by assumption) | exact fun z => absurd z.1.2 (by assumption)))⟩, by first | omega | (dsimp only; omega)⟩, ⟨by first | rfl | exact gteI rfl (by omega), trivial⟩, ⟨rfl, rfl⟩, _, ((s_skip (s_skip (s_take (s_take (s_take (s_take s_nil)))))))⟩
        · try simp only [decide_eq_true_eq, decide_eq_false_iff_not, Bool.not_eq_true', Bool.not_eq_false', Int.not_lt, Int.not_le, Decidable.not_not, beq_iff_eq, bne_iff_ne, ne_eq, beq_eq_false_iff_ne, WA.wd] at h480_1
          refine o_pass rfl rfl rfl rfl rfl ?_
          refine o_pass rfl rfl rfl rfl rfl ?_
          refine o_pass rfl rfl rfl rfl rfl ?_
          refine o_pass rfl rfl rfl rfl rfl ?_
          refine o_pass rfl rfl rfl rfl rfl ?_
          refine o_T (y_pickF rfl rfl) rfl ?_
          refine o_nil1 54 rfl rfl ?_
          refine c_condF rfl ?_
          refine c_skip ?_
          refine c_region ?_
          refine o_T (y_move rfl) rfl ?_
          refine o_T (y_add rfl rfl (w64 (by omega))) rfl ?_
          refine o_L (y_assign rfl) rfl rfl ?_
          refine o_nil0 rfl ?_
          refine ⟨(k + 1), ⟨⟨by omega, take_step (P := fun y => ¬ (fun sd => decide ((x.H c).err sd = 0) && decide (((x.H c).ent sd).kind = 1) && decide (((x.H c).ent sd).lPort = p)) y = true) g4 (by omega) (by rw [← getD_at (by omega)]; (simp only [Bool.and_eq_true, decide_eq_true_eq]; first | exact ⟨by assumption, by assumption⟩ | exact fun z => absurd z.1 (by assumption) | exact fun z => absurd z.2 (by assumption) | exact ⟨⟨by assumption, by assumption⟩, by assumption⟩ | exact fun z => absurd z.1.1 (by assumption) | exact fun z => absurd z.1.2 (by assumption)))⟩, by first | omega | (dsimp only; omega)⟩, ⟨by first | rfl | exact gteI rfl (by omega), trivial⟩, ⟨rfl, rfl⟩, _, ((s_skip (s_skip (s_take (s_take (s_take (s_take s_nil)))))))⟩
      · try simp only [decide_eq_true_eq, decide_eq_false_iff_not, Bool.not_eq_true', Bool.not_eq_false', Int.not_lt, Int.not_le, Decidable.not_not, beq_iff_eq, bne_iff_ne, ne_eq, beq_eq_false_iff_ne, WA.wd] at h480
        refine o_pass rfl rfl rfl rfl rfl ?_
        refine o_pass rfl rfl rfl rfl rfl ?_
        refine o_pass rfl rfl rfl rfl rfl ?_
        refine o_pass rfl rfl rfl rfl rfl ?_
        refine o_T (y_pickF rfl rfl) rfl ?_
        refine o_T (y_move rfl) rfl ?_
        refine o_pass rfl rfl rfl rfl rfl ?_
        refine o_pass rfl rfl rfl rfl rfl ?_
        refine o_pass rfl rfl rfl rfl rfl ?_
        refine o_pass rfl rfl rfl rfl rfl ?_
        refine o_pass rfl rfl rfl rfl rfl ?_
        refine o_T (y_pickF rfl rfl) rfl ?_
        refine o_nil1 54 rfl rfl ?_
        refine c_condF rfl ?_
        refine c_skip ?_
        refine c_region ?_
        refine o_T (y_move rfl) rfl ?_
        refine o_T (y_add rfl rfl (w64 (by omega))) rfl ?_
        refine o_L (y_assign rfl) rfl rfl ?_
        refine o_nil0 rfl ?_
        refine ⟨(k + 1), ⟨⟨by omega, take_step (P := fun y => ¬ (fun sd => decide ((x.H c).err sd = 0) && decide (((x.H c).ent sd).kind = 1) && decide (((x.H c).ent sd).lPort = p)) y = true) g4 (by omega) (by rw [← getD_at (by omega)]; (simp only [Bool.and_eq_true, decide_eq_true_eq]; first | exact ⟨by assumption, by assumption⟩ | exact fun z => absurd z.1 (by assumption) | exact fun z => absurd z.2 (by assumption) | exact ⟨⟨by assumption, by assumption⟩, by assumption⟩ | exact fun z => absurd z.1.1 (by assumption) | exact fun z => absurd z.1.2 (by assumption)))⟩, by first | omega | (dsimp only; omega)⟩, ⟨by first | rfl | exact gteI rfl (by omega), trivial⟩, ⟨rfl, rfl⟩, _, ((s_skip (s_skip (s_take (s_take (s_take (s_take s_nil)))))))⟩
    · skip
      refine o_call en_32 rfl (i32 hh (by assumption) (ok _ (by assumption)).1 _ ((ok _ (by assumption)).2 _)) (s_skip (s_skip (s_skip (s_take s_nil)))) rfl ?_
      rintro v S' ⟨pc_2, gc_2, rfl, hi_2, rfl⟩
      refine o_front (s_get k0 (s_get (ks k0) (s_get (ks k0) (s_get (ks k0) (s_get k0 s_nil))))) ?_
      refine o_stop (fun _ => (fun x hx => (ms hx))) ?_
      refine d_T 16 rfl (by kernel_rfl) rfl (y_move rfl) rfl ?_
      refine d_T 17 rfl (by kernel_rfl) rfl (y_extract rfl rfl) rfl ?_
      refine d_T 18 rfl (by kernel_rfl) rfl (y_extract rfl rfl) rfl ?_
      refine d_hardA 19 rfl (by kernel_rfl) ze_69 rfl rfl (fun b_2 => ?_)
      refine d_hard 20 rfl (by kernel_rfl) ?_
      refine o_sta ag_69 rfl rfl (si_plain hi_2) rfl r0 (setAll_full _ _ rfl) (of_ble rfl) ?_
      refine o_stop (fun h => nomatch h) ?_
      refine d_L 21 rfl (by kernel_rfl) rfl (y_assign rfl) rfl rfl ?_
      refine d_nil0 (by kernel_rfl) rfl ?_
      refine c_seq ?_
      refine c_region ?_
      refine o_T (y_move rfl) rfl ?_
      refine o_T (y_eql rfl rfl) rfl ?_
      refine o_T (y_move rfl) rfl ?_
      refine o_split 42 rfl (fun h480 => ?_) (fun h480 => ?_)
      · try simp only [decide_eq_true_eq, decide_eq_false_iff_not, Bool.not_eq_true', Bool.not_eq_false', Int.not_lt, Int.not_le, Decidable.not_not, beq_iff_eq, bne_iff_ne, ne_eq, beq_eq_false_iff_ne, WA.wd] at h480
        refine o_take rfl rfl rfl ?_
        refine o_T (y_fa fl_69_0 rfl) rfl ?_
        refine o_take rfl rfl rfl ?_
        refine o_T (y_fa fl_66_1 rfl) rfl ?_
        refine o_take rfl rfl rfl ?_
        refine o_ld one_3 rfl m0 Si.g1 rfl ?_
        refine o_take rfl rfl rfl ?_
        refine o_T (y_eql rfl rfl) rfl ?_
        refine o_T (y_pickT rfl rfl) rfl ?_
        refine o_T (y_move rfl) rfl ?_
        refine o_split 48 rfl (fun h480_1 => ?_) (fun h480_1 => ?_)
        · try simp only [decide_eq_true_eq, decide_eq_false_iff_not, Bool.not_eq_true', Bool.not_eq_false', Int.not_lt, Int.not_le, Decidable.not_not, beq_iff_eq, bne_iff_ne, ne_eq, beq_eq_false_iff_ne, WA.wd] at h480_1
          refine o_take rfl rfl rfl ?_
          refine o_T (y_fa fl_69_0 rfl) rfl ?_
          refine o_take rfl rfl rfl ?_
          refine o_T (y_fa fl_66_2 rfl) rfl ?_
          refine o_take rfl rfl rfl ?_
          refine o_ld one_3 rfl m0 Si.g2 rfl ?_
          refine o_take rfl rfl rfl ?_
          refine o_T (y_move rfl) rfl ?_
          refine o_take rfl rfl rfl ?_
          refine o_T (y_eql rfl rfl) rfl ?_
          refine o_T (y_pickT rfl rfl) rfl ?_
          refine o_nil1 54 rfl rfl ?_
          refine c_cond rfl (fun h480_2 => ?_) (fun h480_2 => ?_)
          · try simp only [decide_eq_true_eq, decide_eq_false_iff_not, Bool.not_eq_true', Bool.not_eq_false', Int.not_lt, Int.not_le, Decidable.not_not, beq_iff_eq, bne_iff_ne, ne_eq, beq_eq_false_iff_ne, WA.wd] at h480_2
            refine c_seq ?_
            refine c_front (s_get (ks (ks k0)) (s_get (ks (ks k0)) (s_get k0 (s_get k0 (s_get k0 (s_get k0 s_nil)))))) ?_
            refine c_sht hpm ?_
            refine c_region ?_
            refine o_L (y_assign rfl) rfl rfl ?_
            refine o_nil0 rfl ?_
            refine c_ret ?_
            refine fun aX wX heX hsX => ret1 Tryz.results56 heX rfl (s_get (ks (ks (ks k0))) (s_get (ks (ks (ks k0))) (s_get k0 s_nil))) ?_
            refine ⟨congrArg Value.bool (any_at (k := k) (by omega) (by (simp only [Bool.and_eq_true, decide_eq_true_eq]; first | exact ⟨by assumption, by assumption⟩ | exact fun z => absurd z.1 (by assumption) | exact fun z => absurd z.2 (by assumption) | exact ⟨⟨by assumption, by assumption⟩, by assumption⟩ | exact fun z => absurd z.1.1 (by assumption) | exact fun z => absurd z.1.2 (by assumption)))).symm, rfl⟩
          · try simp only [decide_eq_true_eq, decide_eq_false_iff_not, Bool.not_eq_true', Bool.not_eq_false', Int.not_lt, Int.not_le, Decidable.not_not, beq_iff_eq, bne_iff_ne, ne_eq, beq_eq_false_iff_ne, WA.wd] at h480_2
            refine c_skip ?_
            refine c_region ?_
            refine o_T (y_move rfl) rfl ?_
            refine o_T (y_add rfl rfl (w64 (by omega))) rfl ?_
            refine o_L (y_assign rfl) rfl rfl ?_
            refine o_nil0 rfl ?_
            refine ⟨(k + 1), ⟨⟨by omega, take_step (P := fun y => ¬ (fun sd => decide ((x.H c).err sd = 0) && decide (((x.H c).ent sd).kind = 1) && decide (((x.H c).ent sd).lPort = p)) y = true) g4 (by omega) (by rw [← getD_at (by omega)]; (simp only [Bool.and_eq_true, decide_eq_true_eq]; first | exact ⟨by assumption, by assumption⟩ | exact fun z => absurd z.1 (by assumption) | exact fun z => absurd z.2 (by assumption) | exact ⟨⟨by assumption, by assumption⟩, by assumption⟩ | exact fun z => absurd z.1.1 (by assumption) | exact fun z => absurd z.1.2 (by assumption)))⟩, by first | omega | (dsimp only; omega)⟩, ⟨by first | rfl | exact gteI rfl (by omega), trivial⟩, ⟨rfl, rfl⟩, _, ((s_skip (s_skip (s_take (s_take (s_take (s_take s_nil)))))))⟩
        · try simp only [decide_eq_true_eq, decide_eq_false_iff_not, Bool.not_eq_true', Bool.not_eq_false', Int.not_lt, Int.not_le, Decidable.not_not, beq_iff_eq, bne_iff_ne, ne_eq, beq_eq_false_iff_ne, WA.wd] at h480_1
          refine o_pass rfl rfl rfl rfl rfl ?_
          refine o_pass rfl rfl rfl rfl rfl ?_
          refine o_pass rfl rfl rfl rfl rfl ?_
          refine o_pass rfl rfl rfl rfl rfl ?_
          refine o_pass rfl rfl rfl rfl rfl ?_
          refine o_T (y_pickF rfl rfl) rfl ?_
          refine o_nil1 54 rfl rfl ?_
          refine c_condF rfl ?_
          refine c_skip ?_
          refine c_region ?_
          refine o_T (y_move rfl) rfl ?_
          refine o_T (y_add rfl rfl (w64 (by omega))) rfl ?_
          refine o_L (y_assign rfl) rfl rfl ?_
          refine o_nil0 rfl ?_
          refine ⟨(k + 1), ⟨⟨by omega, take_step (P := fun y => ¬ (fun sd => decide ((x.H c).err sd = 0) && decide (((x.H c).ent sd).kind = 1) && decide (((x.H c).ent sd).lPort = p)) y = true) g4 (by omega) (by rw [← getD_at (by omega)]; (simp only [Bool.and_eq_true, decide_eq_true_eq]; first | exact ⟨by assumption, by assumption⟩ | exact fun z => absurd z.1 (by assumption) | exact fun z => absurd z.2 (by assumption) | exact ⟨⟨by assumption, by assumption⟩, by assumption⟩ | exact fun z => absurd z.1.1 (by assumption) | exact fun z => absurd z.1.2 (by assumption)))⟩, by first | omega | (dsimp only; omega)⟩, ⟨by first | rfl | exact gteI rfl (by omega), trivial⟩, ⟨rfl, rfl⟩, _, ((s_skip (s_skip (s_take (s_take (s_take (s_take s_nil)))))))⟩
      · try simp only [decide_eq_true_eq, decide_eq_false_iff_not, Bool.not_eq_true', Bool.not_eq_false', Int.not_lt, Int.not_le, Decidable.not_not, beq_iff_eq, bne_iff_ne, ne_eq, beq_eq_false_iff_ne, WA.wd] at h480
        refine o_pass rfl rfl rfl rfl rfl ?_
        refine o_pass rfl rfl rfl rfl rfl ?_
        refine o_pass rfl rfl rfl rfl rfl ?_
        refine o_pass rfl rfl rfl rfl rfl ?_
        refine o_T (y_pickF rfl rfl) rfl ?_
        refine o_T (y_move rfl) rfl ?_
        refine o_pass rfl rfl rfl rfl rfl ?_
        refine o_pass rfl rfl rfl rfl rfl ?_
        refine o_pass rfl rfl rfl rfl rfl ?_
        refine o_pass rfl rfl rfl rfl rfl ?_
        refine o_pass rfl rfl rfl rfl rfl ?_
        refine o_T (y_pickF rfl rfl) rfl ?_
        refine o_nil1 54 rfl rfl ?_
        refine c_condF rfl ?_
        refine c_skip ?_
        refine c_region ?_
        refine o_T (y_move rfl) rfl ?_
        refine o_T (y_add rfl rfl (w64 (by omega))) rfl ?_
        refine o_L (y_assign rfl) rfl rfl ?_
        refine o_nil0 rfl ?_
        refine ⟨(k + 1), ⟨⟨by omega, take_step (P := fun y => ¬ (fun sd => decide ((x.H c).err sd = 0) && decide (((x.H c).ent sd).kind = 1) && decide (((x.H c).ent sd).lPort = p)) y = true) g4 (by omega) (by rw [← getD_at (by omega)]; (simp only [Bool.and_eq_true, decide_eq_true_eq]; first | exact ⟨by assumption, by assumption⟩ | exact fun z => absurd z.1 (by assumption) | exact fun z => absurd z.2 (by assumption) | exact ⟨⟨by assumption, by assumption⟩, by assumption⟩ | exact fun z => absurd z.1.1 (by assumption) | exact fun z => absurd z.1.2 (by assumption)))⟩, by first | omega | (dsimp only; omega)⟩, ⟨by first | rfl | exact gteI rfl (by omega), trivial⟩, ⟨rfl, rfl⟩, _, ((s_skip (s_skip (s_take (s_take (s_take (s_take s_nil)))))))⟩
  · try simp only [decide_eq_true_eq, decide_eq_false_iff_not, Bool.not_eq_true', Bool.not_eq_false', Int.not_lt, Int.not_le, Decidable.not_not, beq_iff_eq, bne_iff_ne, ne_eq, beq_eq_false_iff_ne, WA.wd] at h478
    refine c_exit ?_
    refine c_seq ?_
    refine c_sht hpm ?_
    refine c_region ?_
    refine o_L (y_assign rfl) rfl rfl ?_
    refine o_nil0 rfl ?_
    refine c_ret ?_
    refine fun aX wX heX hsX => ret1 Tryz.results56 heX rfl (s_get (ks k0) (s_get (ks k0) (s_get k0 s_nil))) ?_
    refine ⟨congrArg Value.bool (any_no (take_all g4 (by omega))).symm, rfl⟩

end Go.Proofs.Qxb6500351aGreat
