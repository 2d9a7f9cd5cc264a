/- MADE BY PROGRAM (tools/gen.py over tools/specs351.py): walks. -/
import Derived.Test.Qxb6500351aGreatFacts
import Derived.Test.Qxb6500351aGreatMd3
import Derived.Test.Qxb6500351aGreatW3
set_option linter.unusedVariables false
set_option linter.unusedSimpArgs false
namespace Go.Proofs.Qxb6500351aGreat
open Go.Eng
set_option maxRecDepth 20000
/-- (*e2e/seg.RecvBuf).bit -/
theorem t219 (b : Nat) (r : Rb) (d : Int) (ok : r.Ok) (hd : 0 ≤ d ∧ d ≤ 256) : Trip Tryz.prog 219 #[.pointer (some ⟨b, 0, none⟩), .int .i64 d] [[(b, .cells r.enc 165 (0, 0))]] (fun u S' => u = .int .u16 ((r.mark d : Nat) : Int) ∧ S' = [[(b, .cells r.enc 165 (0, 0))]]) := by
  have ok0 := ok
  obtain ⟨k1, k2, k3, k4, k5, k6, k8, k9⟩ := ok
  refine fn_entry (args := [.pointer (some ⟨b, 0, none⟩), .int .i64 d]) Tryz.func219 rfl Tryz.ntmps219 rfl (fun w0 => ?_)
  refine c_seq ?_
  refine c_region ?_
  refine o_L (y_assign rfl) rfl rfl ?_
  refine o_nil0 rfl ?_
  refine c_seq ?_
  refine c_region ?_
  refine o_T (y_move rfl) rfl ?_
  refine o_T (y_nilck rfl) rfl ?_
  refine o_T (y_fa fl_165_1 rfl) rfl ?_
  refine o_ld one_5 rfl m0 Rb.g16 rfl ?_
  refine o_T (y_conv Tryz.underlying5 Tryz.underlying3 rfl (w64 (by omega))) rfl ?_
  refine o_T (y_move rfl) rfl ?_
  refine o_T (y_add rfl rfl (w64 (by omega))) rfl ?_
  refine o_T (y_rem rfl rfl (by decide) (tm (by omega))) rfl ?_
  refine o_T (y_conv Tryz.underlying3 Tryz.underlying131 rfl (w64ui (by omega))) rfl ?_
  refine o_T (y_shl rfl rfl (by omega) (shl_one (n := r.place d) (by unfold Rb.place; omega) (r.place_lt d) (fun h => nomatch h))) rfl ?_
  refine o_L (y_assign rfl) rfl rfl ?_
  refine o_nil0 rfl ?_
  refine c_ret ?_
  refine fun aX wX heX hsX => ret1 Tryz.results219 heX rfl (s_take s_nil) ?_
  exact ⟨rfl, rfl⟩

/-- (*e2e/seg.RecvBuf).Held -/
theorem t113 (b : Nat) (r : Rb) (ok : r.Ok) : Trip Tryz.prog 113 #[.pointer (some ⟨b, 0, none⟩)] [[(b, .cells r.enc 165 (0, 0))]] (fun u S' => u = .int .i64 r.held ∧ S' = [[(b, .cells r.enc 165 (0, 0))]]) := by
  have ok0 := ok
  obtain ⟨k1, k2, k3, k4, k5, k6, k8, k9⟩ := ok
  refine fn_entry (args := [.pointer (some ⟨b, 0, none⟩)]) Tryz.func113 rfl Tryz.ntmps113 rfl (fun w0 => ?_)
  refine c_seq ?_
  refine c_region ?_
  refine o_L (y_assign rfl) rfl rfl ?_
  refine o_nil0 rfl ?_
  refine c_seq ?_
  refine c_region ?_
  refine o_L (y_assign rfl) rfl rfl ?_
  refine o_nil0 rfl ?_
  refine c_seq ?_
  refine c_seq ?_
  refine c_region ?_
  refine o_T (y_move rfl) rfl ?_
  refine o_T (y_nilck rfl) rfl ?_
  refine o_T (y_fa fl_165_3 rfl) rfl ?_
  refine o_ld one_163 rfl m0 Rb.g18 rfl ?_
  refine o_L (y_assign rfl) rfl rfl ?_
  refine o_nil0 rfl ?_
  refine c_block ?_
  refine c_loopG (ι := Nat) (fun i => [(3, .int .i64 (pop r.ahead.toNat - pop i)), (4, .int .u16 (i : Int))]) (fun i => []) (fun i => i < 65536) (fun i => i) r.ahead.toNat (by omega) ⟨gteI rfl (by omega), gteI rfl (nat_of k5).symm, trivial⟩ (s_take s_nil) ?_
  rintro m hI
  try dsimp only at hI
  have p1 := pop_b m
  have p2 := pop_b r.ahead.toNat
  refine c_seq ?_
  refine c_seq ?_
  refine c_region ?_
  refine o_T (y_move rfl) rfl ?_
  refine o_T (y_neq rfl rfl) rfl ?_
  refine o_nil1 10 rfl rfl ?_
  refine c_cond rfl (fun h43 => ?_) (fun h43 => ?_)
  · try simp only [decide_eq_true_eq, decide_eq_false_iff_not, Bool.not_eq_true', Bool.not_eq_false', Int.not_lt, Int.not_le, Decidable.not_not, beq_iff_eq, bne_iff_ne, ne_eq, beq_eq_false_iff_ne] at h43
    refine c_skip ?_
    refine c_seq ?_
    refine c_block ?_
    refine c_region ?_
    refine o_T (y_move rfl) rfl ?_
    refine o_T (y_add rfl rfl (w64 (by omega))) rfl ?_
    refine o_L (y_assign rfl) rfl rfl ?_
    refine o_nil0 rfl ?_
    refine c_region ?_
    refine o_T (y_move rfl) rfl ?_
    refine o_T (y_move rfl) rfl ?_
    refine o_T (y_sub rfl rfl (w16 _)) rfl ?_
    refine o_T (y_and rfl rfl rfl) rfl ?_
    refine o_L (y_assign rfl) rfl rfl ?_
    refine o_nil0 rfl ?_
    refine ⟨(m &&& (m - 1)), ⟨by have := and_pred_lt (m := m) (by omega); omega, and_pred_lt (by omega)⟩, ⟨gteI rfl (by have := pop_step (m := m) (by omega); omega), gteI rfl (and_pred16 (by omega) hI), trivial⟩, ⟨rfl, rfl⟩, _, ((s_take s_nil))⟩
  · try simp only [decide_eq_true_eq, decide_eq_false_iff_not, Bool.not_eq_true', Bool.not_eq_false', Int.not_lt, Int.not_le, Decidable.not_not, beq_iff_eq, bne_iff_ne, ne_eq, beq_eq_false_iff_ne] at h43
    refine c_exit ?_
    refine c_seq ?_
    refine c_region ?_
    refine o_T (y_move rfl) rfl ?_
    refine o_L (y_assign rfl) rfl rfl ?_
    refine o_nil0 rfl ?_
    refine c_ret ?_
    refine fun aX wX heX hsX => ret1 Tryz.results113 heX rfl (s_take s_nil) ?_
    refine ⟨congrArg (Value.int .i64) ?_, rfl⟩
    have h0 : m = 0 := by omega
    subst h0
    simp [Rb.held, pop_zero]

/-- (*e2e/seg.RecvBuf).Insert -/
theorem t218 (b : Nat) (r : Rb) (seq : Int) (b2 o n cap e : Nat) (cs : Array Value) (l : List Int) (ok : r.Ok) (hy : BytAt o n cap cs l) : Trip Tryz.prog 218 #[.pointer (some ⟨b, 0, none⟩), .int .i64 seq, .slice (some ⟨b2, o, none⟩) n cap] [[(b, .cells r.enc 165 (0, 0))], [(b2, .cells cs e (0, 0))]] (fun u S' => u = .int .i64 (r.ins seq l).2 ∧ S' = [[(b, .cells (r.ins seq l).1.enc 165 (0, 0))], [(b2, .cells cs e (0, 0))]]) := by
  have ok0 := ok
  obtain ⟨k1, k2, k3, k4, k5, k6, k8, k9⟩ := ok
  have hn := hy.n_eq
  have hl := hy.len
  have hb := hy.bytes
  refine fn_entry (args := [.pointer (some ⟨b, 0, none⟩), .int .i64 seq, .slice (some ⟨b2, o, none⟩) n cap]) Tryz.func218 rfl Tryz.ntmps218 rfl (fun w0 => ?_)
  refine c_seq ?_
  refine c_region ?_
  refine o_L (y_assign rfl) rfl rfl ?_
  refine o_nil0 rfl ?_
  refine c_seq ?_
  refine c_region ?_
  refine o_T (y_move rfl) rfl ?_
  refine o_T (y_move rfl) rfl ?_
  refine o_T (y_nilck rfl) rfl ?_
  refine o_T (y_fa fl_165_1 rfl) rfl ?_
  refine o_ld one_5 rfl m0 Rb.g16 rfl ?_
  refine o_T (y_conv Tryz.underlying5 Tryz.underlying3 rfl (w64 (by omega))) rfl ?_
  refine o_callv en_212 rfl (t212 _ _) rfl ?_
  refine o_L (y_assign rfl) rfl rfl ?_
  refine o_nil0 rfl ?_
  refine c_seq ?_
  refine c_region ?_
  refine o_T (y_move rfl) rfl ?_
  refine o_T (y_nilck rfl) rfl ?_
  refine o_T (y_fa fl_165_2 rfl) rfl ?_
  refine o_ld one_3 rfl m0 Rb.g17 rfl ?_
  refine o_T (y_sub rfl rfl (w64 (by omega))) rfl ?_
  refine o_L (y_assign rfl) rfl rfl ?_
  refine o_nil0 rfl ?_
  refine c_seq ?_
  refine c_seq ?_
  obtain ⟨K, hK⟩ : ∃ K, K = r.layN (seqDiff seq r.nxt) l := ⟨_, rfl⟩
  have hK2 := r.layN_le (seqDiff seq r.nxt) l
  rw [← hK] at hK2
  have hq := seqDiff_b seq r.nxt
  refine c_region ?_
  refine o_L (y_assign rfl) rfl rfl ?_
  refine o_nil0 rfl ?_
  refine c_block ?_
  refine c_loopG (ι := Nat) (fun i => [(9, .int .i64 (i : Int))]) (fun i => [[(b, .cells (r.lay (seqDiff seq r.nxt) l i).enc 165 (0, 0))]]) (fun i => i ≤ K) (fun i => K - i) 0 (by omega) ⟨by first | rfl | exact gteI rfl (by omega), trivial⟩ (s_take (s_take s_nil)) ?_
  rintro k hI
  try dsimp only at hI
  have s1 := r.lay_same (seqDiff seq r.nxt) l k
  have okL := Rb.ok_lay ok0 (d0 := (seqDiff seq r.nxt)) hb k (by omega)
  refine c_seq ?_
  refine c_seq ?_
  refine c_region ?_
  refine o_T (y_move rfl) rfl ?_
  refine o_T (y_move rfl) rfl ?_
  refine o_T (y_len Tryz.underlying81 rfl) rfl ?_
  refine o_T (y_lss rfl rfl) rfl ?_
  refine o_T (y_move rfl) rfl ?_
  refine o_split 29 rfl (fun h82 => ?_) (fun h82 => ?_)
  · try simp only [decide_eq_true_eq, decide_eq_false_iff_not, Bool.not_eq_true', Bool.not_eq_false', Int.not_lt, Int.not_le, Decidable.not_not, beq_iff_eq, bne_iff_ne, ne_eq, beq_eq_false_iff_ne] at h82
    refine o_take rfl rfl rfl ?_
    refine o_T (y_move rfl) rfl ?_
    refine o_take rfl rfl rfl ?_
    refine o_T (y_move rfl) rfl ?_
    refine o_take rfl rfl rfl ?_
    refine o_T (y_add rfl rfl (w64 (by omega))) rfl ?_
    refine o_take rfl rfl rfl ?_
    refine o_T (y_move rfl) rfl ?_
    refine o_take rfl rfl rfl ?_
    refine o_T (y_lss rfl rfl) rfl ?_
    refine o_T (y_pickT rfl rfl) rfl ?_
    refine o_nil1 35 rfl rfl ?_
    refine c_cond rfl (fun h82_1 => ?_) (fun h82_1 => ?_)
    · try simp only [decide_eq_true_eq, decide_eq_false_iff_not, Bool.not_eq_true', Bool.not_eq_false', Int.not_lt, Int.not_le, Decidable.not_not, beq_iff_eq, bne_iff_ne, ne_eq, beq_eq_false_iff_ne] at h82_1
      refine c_skip ?_
      refine c_seq ?_
      refine c_block ?_
      refine c_seq ?_
      refine c_seq ?_
      refine c_region ?_
      refine o_T (y_move rfl) rfl ?_
      refine o_T (y_move rfl) rfl ?_
      refine o_T (y_add rfl rfl (w64 (by omega))) rfl ?_
      refine o_T (y_lss rfl rfl) rfl ?_
      refine o_nil1 41 rfl rfl ?_
      refine c_cond rfl (fun h83 => ?_) (fun h83 => ?_)
      · try simp only [decide_eq_true_eq, decide_eq_false_iff_not, Bool.not_eq_true', Bool.not_eq_false', Int.not_lt, Int.not_le, Decidable.not_not, beq_iff_eq, bne_iff_ne, ne_eq, beq_eq_false_iff_ne] at h83
        refine c_exit ?_
        refine c_region ?_
        refine o_T (y_move rfl) rfl ?_
        refine o_T (y_add rfl rfl (w64 (by omega))) rfl ?_
        refine o_L (y_assign rfl) rfl rfl ?_
        refine o_nil0 rfl ?_
        have e9 := Rb.lay_neg (r := r) (p := l) h83
        refine ⟨(k + 1), ⟨by omega, by first | omega | (dsimp only; omega)⟩, ⟨by first | rfl | exact gteI rfl (by omega), trivial⟩, ⟨rfl, rfl⟩, _, (by dsimp only; rw [e9]; exact (s_take (s_take s_nil)))⟩
      · try simp only [decide_eq_true_eq, decide_eq_false_iff_not, Bool.not_eq_true', Bool.not_eq_false', Int.not_lt, Int.not_le, Decidable.not_not, beq_iff_eq, bne_iff_ne, ne_eq, beq_eq_false_iff_ne] at h83
        refine c_skip ?_
        refine c_seq ?_
        refine c_region ?_
        refine o_T (y_move rfl) rfl ?_
        refine o_T (y_move rfl) rfl ?_
        refine o_T (y_move rfl) rfl ?_
        refine o_T (y_add rfl rfl (w64 (by omega))) rfl ?_
        refine o_callrv en_219 rfl (t219 _ _ _ (by assumption) (by omega)) (s_take s_nil) rfl ?_
        refine o_L (y_assign rfl) rfl rfl ?_
        refine o_nil0 rfl ?_
        refine c_seq ?_
        refine c_region ?_
        refine o_T (y_move rfl) rfl ?_
        refine o_T (y_nilck rfl) rfl ?_
        refine o_T (y_fa fl_165_3 rfl) rfl ?_
        refine o_ld one_163 rfl m0 Rb.g18 rfl ?_
        refine o_T (y_move rfl) rfl ?_
        refine o_T (y_and rfl rfl (Rb.band okL _)) rfl ?_
        refine o_T (y_eql rfl rfl) rfl ?_
        refine o_nil1 53 rfl rfl ?_
        refine c_cond rfl (fun h87 => ?_) (fun h87 => ?_)
        · try simp only [decide_eq_true_eq, decide_eq_false_iff_not, Bool.not_eq_true', Bool.not_eq_false', Int.not_lt, Int.not_le, Decidable.not_not, beq_iff_eq, bne_iff_ne, ne_eq, beq_eq_false_iff_ne] at h87
          refine c_seq ?_
          refine c_region ?_
          refine o_T (y_move rfl) rfl ?_
          refine o_T (y_nilck rfl) rfl ?_
          refine o_T (y_fa fl_165_3 rfl) rfl ?_
          refine o_ld one_163 rfl m0 Rb.g18 rfl ?_
          refine o_T (y_move rfl) rfl ?_
          refine o_T (y_or rfl rfl (Rb.bor okL _)) rfl ?_
          refine o_T (y_nilck rfl) rfl ?_
          refine o_T (y_fa fl_165_3 rfl) rfl ?_
          refine o_st one_163 rfl rfl rfl r0 Rb.s18 (of_blt rfl) ?_
          refine o_nil0 rfl ?_
          refine c_draw #[true, true, true, true, true, true, true, true, true, true, true, true, true, true, true, true, true, true, false] rfl (n := 19) rfl ?_
          refine d_T 0 rfl (by kernel_rfl) rfl (y_move rfl) rfl ?_
          refine d_T 1 rfl (by kernel_rfl) rfl (y_move rfl) rfl ?_
          refine d_T 2 rfl (by kernel_rfl) rfl (y_nilck rfl) rfl ?_
          refine d_T 3 rfl (by kernel_rfl) rfl (y_fa fl_165_1 rfl) rfl ?_
          refine d_ld 4 rfl (by kernel_rfl) one_5 rfl (fun x hx => hx) m0 Rb.g16 rfl ?_
          refine d_T 5 rfl (by kernel_rfl) rfl (y_conv Tryz.underlying5 Tryz.underlying3 rfl (w64 (by omega))) rfl ?_
          refine d_T 6 rfl (by kernel_rfl) rfl (y_move rfl) rfl ?_
          refine d_T 7 rfl (by kernel_rfl) rfl (y_add rfl rfl (w64 (by omega))) rfl ?_
          refine d_T 8 rfl (by kernel_rfl) rfl (y_move rfl) rfl ?_
          refine d_T 9 rfl (by kernel_rfl) rfl (y_add rfl rfl (w64 (by omega))) rfl ?_
          refine d_T 10 rfl (by kernel_rfl) rfl (y_rem rfl rfl (by decide) ((tm (by omega)).trans (by rw [Int.add_assoc]))) rfl ?_
          refine d_T 11 rfl (by kernel_rfl) rfl (y_move rfl) rfl ?_
          refine d_T 12 rfl (by kernel_rfl) rfl (y_move rfl) rfl ?_
          refine d_T 13 rfl (by kernel_rfl) rfl (y_is sl_81 rfl rfl (by omega) (by omega)) rfl ?_
          refine d_ld 14 rfl (by kernel_rfl) one_5 rfl (fun x hx => hx) (ms m0) (hy.getD (i := k) (by omega) rfl) rfl ?_
          refine d_T 15 rfl (by kernel_rfl) rfl (y_nilck rfl) rfl ?_
          refine d_T 16 rfl (by kernel_rfl) rfl (y_fa fl_165_0 rfl) rfl ?_
          refine d_T 17 rfl (by kernel_rfl) rfl (y_ia ar_160 rfl rfl (by omega) (by omega)) rfl ?_
          refine d_hard 18 rfl (by kernel_rfl) ?_
          refine o_st one_5 rfl rfl rfl r0 (Rb.s_ring _ (by omega) rfl) (by simp only [Rb.size]; omega) ?_
          refine o_stop (fun h => nomatch h) ?_
          refine d_nil0 (by kernel_rfl) rfl ?_
          refine c_region ?_
          refine o_T (y_move rfl) rfl ?_
          refine o_T (y_add rfl rfl (w64 (by omega))) rfl ?_
          refine o_L (y_assign rfl) rfl rfl ?_
          refine o_nil0 rfl ?_
          have e9 := Rb.lay_put (r := r) (p := l) (by omega) (int_eq_zero.1 h87)
          refine ⟨(k + 1), ⟨by omega, by first | omega | (dsimp only; omega)⟩, ⟨by first | rfl | exact gteI rfl (by omega), trivial⟩, ⟨rfl, rfl⟩, _, (by dsimp only; rw [e9]; exact (s_take (s_take s_nil)))⟩
        · try simp only [decide_eq_true_eq, decide_eq_false_iff_not, Bool.not_eq_true', Bool.not_eq_false', Int.not_lt, Int.not_le, Decidable.not_not, beq_iff_eq, bne_iff_ne, ne_eq, beq_eq_false_iff_ne] at h87
          refine c_skip ?_
          refine c_region ?_
          refine o_T (y_move rfl) rfl ?_
          refine o_T (y_add rfl rfl (w64 (by omega))) rfl ?_
          refine o_L (y_assign rfl) rfl rfl ?_
          refine o_nil0 rfl ?_
          have e9 := Rb.lay_has (r := r) (p := l) (by omega) (fun h => h87 (int_eq_zero.2 h))
          refine ⟨(k + 1), ⟨by omega, by first | omega | (dsimp only; omega)⟩, ⟨by first | rfl | exact gteI rfl (by omega), trivial⟩, ⟨rfl, rfl⟩, _, (by dsimp only; rw [e9]; exact (s_take (s_take s_nil)))⟩
    · try simp only [decide_eq_true_eq, decide_eq_false_iff_not, Bool.not_eq_true', Bool.not_eq_false', Int.not_lt, Int.not_le, Decidable.not_not, beq_iff_eq, bne_iff_ne, ne_eq, beq_eq_false_iff_ne] at h82_1
      refine c_exit ?_
      refine c_seq ?_
      refine c_region ?_
      refine o_L (y_assign rfl) rfl rfl ?_
      refine o_nil0 rfl ?_
      refine c_seq ?_
      refine c_seq ?_
      refine c_region ?_
      refine o_T (y_move rfl) rfl ?_
      refine o_callrv en_219 rfl (t219 _ _ _ (by assumption) (by omega)) (s_take s_nil) rfl ?_
      refine o_L (y_assign rfl) rfl rfl ?_
      refine o_nil0 rfl ?_
      refine c_block ?_
      refine c_loopG (ι := Rb × Nat) (fun i => [(11, .int .i64 (i.2 : Int)), (12, .int .u16 ((i.1.mark 0 : Nat) : Int))]) (fun i => [[(b, .cells i.1.enc 165 (0, 0))]]) (fun i => i.1.Ok ∧ i.1.avail = r.avail + i.2 ∧ (r.lay (seqDiff seq r.nxt) l k).adv.1 = i.1.adv.1 ∧ (r.lay (seqDiff seq r.nxt) l k).adv.2 = i.2 + i.1.adv.2) (fun i => i.1.ahead.toNat) (r.lay (seqDiff seq r.nxt) l k, 0) (by exact ⟨okL, by dsimp only; omega, rfl, by simp⟩) ⟨by first | rfl | exact gteI rfl (by omega), by first | rfl | exact gteI rfl (by omega), trivial⟩ (s_take (s_take s_nil)) ?_
      rintro ⟨q, m⟩ ⟨g1, g2, g3, g4⟩
      try dsimp only [List.cons_append, List.nil_append] at *
      have gk := g1
      obtain ⟨q1, q2, q3, q4, q5, q6, q7, q8⟩ := gk
      refine c_seq ?_
      refine c_seq ?_
      refine c_region ?_
      refine o_T (y_move rfl) rfl ?_
      refine o_T (y_nilck rfl) rfl ?_
      refine o_T (y_fa fl_165_3 rfl) rfl ?_
      refine o_ld one_163 rfl m0 Rb.g18 rfl ?_
      refine o_T (y_move rfl) rfl ?_
      refine o_T (y_and rfl rfl (Rb.band g1 _)) rfl ?_
      refine o_T (y_neq rfl rfl) rfl ?_
      refine o_nil1 88 rfl rfl ?_
      refine c_cond rfl (fun h93 => ?_) (fun h93 => ?_)
      · try simp only [decide_eq_true_eq, decide_eq_false_iff_not, Bool.not_eq_true', Bool.not_eq_false', Int.not_lt, Int.not_le, Decidable.not_not, beq_iff_eq, bne_iff_ne, ne_eq, beq_eq_false_iff_ne] at h93
        refine c_skip ?_
        refine c_seq ?_
        refine c_block ?_
        refine c_seq ?_
        have e93 : q.ahead.toNat &&& q.mark 0 ≠ 0 := fun h => h93 (int_eq_zero.2 h)
        have okS := Rb.ok_step g1 e93
        refine c_region ?_
        refine o_T (y_move rfl) rfl ?_
        refine o_T (y_nilck rfl) rfl ?_
        refine o_T (y_fa fl_165_3 rfl) rfl ?_
        refine o_ld one_163 rfl m0 Rb.g18 rfl ?_
        refine o_T (y_move rfl) rfl ?_
        refine o_T (y_andNot rfl rfl (Rb.bclr g1 _)) rfl ?_
        refine o_T (y_nilck rfl) rfl ?_
        refine o_T (y_fa fl_165_3 rfl) rfl ?_
        refine o_st one_163 rfl rfl rfl r0 Rb.s18 (of_blt rfl) ?_
        refine o_nil0 rfl ?_
        refine c_seq ?_
        refine c_region ?_
        refine o_T (y_move rfl) rfl ?_
        refine o_T (y_nilck rfl) rfl ?_
        refine o_T (y_fa fl_165_1 rfl) rfl ?_
        refine o_ld one_5 rfl m0 Rb.g16 rfl ?_
        refine o_T (y_add rfl rfl (w8 _)) rfl ?_
        refine o_T (y_nilck rfl) rfl ?_
        refine o_T (y_fa fl_165_1 rfl) rfl ?_
        refine o_st one_5 rfl rfl rfl r0 Rb.s16 (of_blt rfl) ?_
        refine o_nil0 rfl ?_
        refine c_seq ?_
        refine c_region ?_
        refine o_T (y_move rfl) rfl ?_
        refine o_T (y_nilck rfl) rfl ?_
        refine o_T (y_fa fl_165_2 rfl) rfl ?_
        refine o_ld one_3 rfl m0 Rb.g17 rfl ?_
        refine o_T (y_add rfl rfl (w64 (by omega))) rfl ?_
        refine o_T (y_nilck rfl) rfl ?_
        refine o_T (y_fa fl_165_2 rfl) rfl ?_
        refine o_st one_3 rfl rfl rfl r0 Rb.s17 (of_blt rfl) ?_
        refine o_nil0 rfl ?_
        refine c_region ?_
        refine o_T (y_move rfl) rfl ?_
        refine o_T (y_add rfl rfl (w64 (by omega))) rfl ?_
        refine o_L (y_assign rfl) rfl rfl ?_
        refine o_nil0 rfl ?_
        refine c_region ?_
        refine o_T (y_move rfl) rfl ?_
        refine o_callrv en_219 rfl (t219 _ _ _ (by assumption) (by omega)) (s_take s_nil) rfl ?_
        refine o_L (y_assign rfl) rfl rfl ?_
        refine o_nil0 rfl ?_
        refine ⟨(q.step, m + 1), ⟨⟨okS, by simp only [Rb.step]; omega, g3.trans (by rw [Rb.adv_step e93]), by have := congrArg Prod.snd (Rb.adv_step e93); dsimp only at *; omega⟩, Rb.step_lt e93⟩, ⟨by first | rfl | exact gteI rfl (by omega), by first | rfl | exact gteI rfl (by omega), trivial⟩, ⟨rfl, rfl⟩, _, ((s_take (s_take s_nil)))⟩
      · try simp only [decide_eq_true_eq, decide_eq_false_iff_not, Bool.not_eq_true', Bool.not_eq_false', Int.not_lt, Int.not_le, Decidable.not_not, beq_iff_eq, bne_iff_ne, ne_eq, beq_eq_false_iff_ne] at h93
        refine c_exit ?_
        refine c_seq ?_
        refine c_region ?_
        refine o_T (y_move rfl) rfl ?_
        refine o_L (y_assign rfl) rfl rfl ?_
        refine o_nil0 rfl ?_
        refine c_ret ?_
        refine fun aX wX heX hsX => ret1 Tryz.results218 heX rfl (s_take (s_take s_nil)) ?_
        have e0 := Rb.adv_stop (r := q) (int_eq_zero.1 h93)
        obtain rfl : k = K := by omega
        subst hK
        rw [e0] at g3 g4
        exact ⟨congrArg (Value.int .i64) (by show (m : Int) = (r.ins seq l).2; unfold Rb.ins; rw [g4]; simp), by show _ = [[(b, Obj.cells (r.ins seq l).1.enc 165 (0, 0))], _]; unfold Rb.ins; rw [g3]⟩
  · try simp only [decide_eq_true_eq, decide_eq_false_iff_not, Bool.not_eq_true', Bool.not_eq_false', Int.not_lt, Int.not_le, Decidable.not_not, beq_iff_eq, bne_iff_ne, ne_eq, beq_eq_false_iff_ne] at h82
    refine o_pass rfl rfl rfl rfl rfl ?_
    refine o_pass rfl rfl rfl rfl rfl ?_
    refine o_pass rfl rfl rfl rfl rfl ?_
    refine o_pass rfl rfl rfl rfl rfl ?_
    refine o_pass rfl rfl rfl rfl rfl ?_
    refine o_T (y_pickF rfl rfl) rfl ?_
    refine o_nil1 35 rfl rfl ?_
    refine c_condF rfl ?_
    refine c_exit ?_
    refine c_seq ?_
    refine c_region ?_
    refine o_L (y_assign rfl) rfl rfl ?_
    refine o_nil0 rfl ?_
    refine c_seq ?_
    refine c_seq ?_
    refine c_region ?_
    refine o_T (y_move rfl) rfl ?_
    refine o_callrv en_219 rfl (t219 _ _ _ (by assumption) (by omega)) (s_take s_nil) rfl ?_
    refine o_L (y_assign rfl) rfl rfl ?_
    refine o_nil0 rfl ?_
    refine c_block ?_
    refine c_loopG (ι := Rb × Nat) (fun i => [(11, .int .i64 (i.2 : Int)), (12, .int .u16 ((i.1.mark 0 : Nat) : Int))]) (fun i => [[(b, .cells i.1.enc 165 (0, 0))]]) (fun i => i.1.Ok ∧ i.1.avail = r.avail + i.2 ∧ (r.lay (seqDiff seq r.nxt) l k).adv.1 = i.1.adv.1 ∧ (r.lay (seqDiff seq r.nxt) l k).adv.2 = i.2 + i.1.adv.2) (fun i => i.1.ahead.toNat) (r.lay (seqDiff seq r.nxt) l k, 0) (by exact ⟨okL, by dsimp only; omega, rfl, by simp⟩) ⟨by first | rfl | exact gteI rfl (by omega), by first | rfl | exact gteI rfl (by omega), trivial⟩ (s_take (s_take s_nil)) ?_
    rintro ⟨q, m⟩ ⟨g1, g2, g3, g4⟩
    try dsimp only [List.cons_append, List.nil_append] at *
    have gk := g1
    obtain ⟨q1, q2, q3, q4, q5, q6, q7, q8⟩ := gk
    refine c_seq ?_
    refine c_seq ?_
    refine c_region ?_
    refine o_T (y_move rfl) rfl ?_
    refine o_T (y_nilck rfl) rfl ?_
    refine o_T (y_fa fl_165_3 rfl) rfl ?_
    refine o_ld one_163 rfl m0 Rb.g18 rfl ?_
    refine o_T (y_move rfl) rfl ?_
    refine o_T (y_and rfl rfl (Rb.band g1 _)) rfl ?_
    refine o_T (y_neq rfl rfl) rfl ?_
    refine o_nil1 88 rfl rfl ?_
    refine c_cond rfl (fun h93 => ?_) (fun h93 => ?_)
    · try simp only [decide_eq_true_eq, decide_eq_false_iff_not, Bool.not_eq_true', Bool.not_eq_false', Int.not_lt, Int.not_le, Decidable.not_not, beq_iff_eq, bne_iff_ne, ne_eq, beq_eq_false_iff_ne] at h93
      refine c_skip ?_
      refine c_seq ?_
      refine c_block ?_
      refine c_seq ?_
      have e93 : q.ahead.toNat &&& q.mark 0 ≠ 0 := fun h => h93 (int_eq_zero.2 h)
      have okS := Rb.ok_step g1 e93
      refine c_region ?_
      refine o_T (y_move rfl) rfl ?_
      refine o_T (y_nilck rfl) rfl ?_
      refine o_T (y_fa fl_165_3 rfl) rfl ?_
      refine o_ld one_163 rfl m0 Rb.g18 rfl ?_
      refine o_T (y_move rfl) rfl ?_
      refine o_T (y_andNot rfl rfl (Rb.bclr g1 _)) rfl ?_
      refine o_T (y_nilck rfl) rfl ?_
      refine o_T (y_fa fl_165_3 rfl) rfl ?_
      refine o_st one_163 rfl rfl rfl r0 Rb.s18 (of_blt rfl) ?_
      refine o_nil0 rfl ?_
      refine c_seq ?_
      refine c_region ?_
      refine o_T (y_move rfl) rfl ?_
      refine o_T (y_nilck rfl) rfl ?_
      refine o_T (y_fa fl_165_1 rfl) rfl ?_
      refine o_ld one_5 rfl m0 Rb.g16 rfl ?_
      refine o_T (y_add rfl rfl (w8 _)) rfl ?_
      refine o_T (y_nilck rfl) rfl ?_
      refine o_T (y_fa fl_165_1 rfl) rfl ?_
      refine o_st one_5 rfl rfl rfl r0 Rb.s16 (of_blt rfl) ?_
      refine o_nil0 rfl ?_
      refine c_seq ?_
      refine c_region ?_
      refine o_T (y_move rfl) rfl ?_
      refine o_T (y_nilck rfl) rfl ?_
      refine o_T (y_fa fl_165_2 rfl) rfl ?_
      refine o_ld one_3 rfl m0 Rb.g17 rfl ?_
      refine o_T (y_add rfl rfl (w64 (by omega))) rfl ?_
      refine o_T (y_nilck rfl) rfl ?_
      refine o_T (y_fa fl_165_2 rfl) rfl ?_
      refine o_st one_3 rfl rfl rfl r0 Rb.s17 (of_blt rfl) ?_
      refine o_nil0 rfl ?_
      refine c_region ?_
      refine o_T (y_move rfl) rfl ?_
      refine o_T (y_add rfl rfl (w64 (by omega))) rfl ?_
      refine o_L (y_assign rfl) rfl rfl ?_
      refine o_nil0 rfl ?_
      refine c_region ?_
      refine o_T (y_move rfl) rfl ?_
      refine o_callrv en_219 rfl (t219 _ _ _ (by assumption) (by omega)) (s_take s_nil) rfl ?_
      refine o_L (y_assign rfl) rfl rfl ?_
      refine o_nil0 rfl ?_
      refine ⟨(q.step, m + 1), ⟨⟨okS, by simp only [Rb.step]; omega, g3.trans (by rw [Rb.adv_step e93]), by have := congrArg Prod.snd (Rb.adv_step e93); dsimp only at *; omega⟩, Rb.step_lt e93⟩, ⟨by first | rfl | exact gteI rfl (by omega), by first | rfl | exact gteI rfl (by omega), trivial⟩, ⟨rfl, rfl⟩, _, ((s_take (s_take s_nil)))⟩
    · try simp only [decide_eq_true_eq, decide_eq_false_iff_not, Bool.not_eq_true', Bool.not_eq_false', Int.not_lt, Int.not_le, Decidable.not_not, beq_iff_eq, bne_iff_ne, ne_eq, beq_eq_false_iff_ne] at h93
      refine c_exit ?_
      refine c_seq ?_
      refine c_region ?_
      refine o_T (y_move rfl) rfl ?_
      refine o_L (y_assign rfl) rfl rfl ?_
      refine o_nil0 rfl ?_
      refine c_ret ?_
      refine fun aX wX heX hsX => ret1 Tryz.results218 heX rfl (s_take (s_take s_nil)) ?_
      have e0 := Rb.adv_stop (r := q) (int_eq_zero.1 h93)
      obtain rfl : k = K := by omega
      subst hK
      rw [e0] at g3 g4
      exact ⟨congrArg (Value.int .i64) (by show (m : Int) = (r.ins seq l).2; unfold Rb.ins; rw [g4]; simp), by show _ = [[(b, Obj.cells (r.ins seq l).1.enc 165 (0, 0))], _]; unfold Rb.ins; rw [g3]⟩

end Go.Proofs.Qxb6500351aGreat
