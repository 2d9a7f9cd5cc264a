/- MADE BY PROGRAM (tools/gen.py over tools/specs351.py): walks. -/
import Derived.Test.Qxb6500351aGreatFacts
import Derived.Test.Qxb6500351aGreatW57
set_option linter.unusedVariables false
set_option linter.unusedSimpArgs false
namespace Go.Proofs.Qxb6500351aGreat
open Go.Eng
set_option maxRecDepth 20000
set_option maxHeartbeats 4000000
/-- (*e2e/hostm.Net).EOF -/
theorem t100 (b bw cw : Nat) (cur : Array Value) (l : List Ned) (gd : List Chunk) (dl : Nat → Int) (i : Int) (vr vs : Value) (gr gs : List Chunk) (hO : EdO bw cw cur l gd) (hp : ∀ x ∈ l, x.peer < l.length) (hx : Cut2 cur l i vr vs gr gs) : Trip Tryz.prog 100 #[.pointer (some ⟨b, 0, none⟩), .int .i64 i] [[(b, .cells (Nt.mk (.slice (some ⟨bw, 0, none⟩) l.length cw) dl).enc 80 (0, 0))], [(bw, .cells cur 83 (0, 0))], gr, gs] (fun u S' => u = .bool (nEOF l i) ∧ S' = [[(b, .cells (Nt.mk (.slice (some ⟨bw, 0, none⟩) l.length cw) dl).enc 80 (0, 0))], [(bw, .cells cur 83 (0, 0))], gr, gs]) := by
  have hn := lstE_of_open hO rfl
  refine fn_entry (args := [.pointer (some ⟨b, 0, none⟩), .int .i64 i]) Tryz.func100 rfl Tryz.ntmps100 rfl (fun w0 => ?_)
  refine c_seq ?_
  refine c_region ?_
  refine o_L (y_assign rfl) rfl rfl ?_
  refine o_nil0 rfl ?_
  refine c_seq ?_
  refine c_seq ?_
  refine c_region ?_
  refine o_T (y_move rfl) rfl ?_
  refine o_T (y_move rfl) rfl ?_
  refine o_callrv en_76 rfl (t76 _ _ _ _ _ _ _ (by assumption)) (s_take s_nil) rfl ?_
  refine o_T (y_not rfl) rfl ?_
  refine o_nil1 9 rfl rfl ?_
  refine c_cond rfl (fun h164 => ?_) (fun h164 => ?_)
  · try simp only [decide_eq_true_eq, decide_eq_false_iff_not, Bool.not_eq_true', Bool.not_eq_false', Int.not_lt, Int.not_le, Decidable.not_not, beq_iff_eq, bne_iff_ne, ne_eq, beq_eq_false_iff_ne] at h164
    refine c_seq ?_
    refine c_region ?_
    refine o_L (y_assign rfl) rfl rfl ?_
    refine o_nil0 rfl ?_
    refine c_ret ?_
    refine fun aX wX heX hsX => ret1 Tryz.results100 heX rfl (s_take (s_take (s_take (s_take s_nil)))) ?_
    exact ⟨congrArg Value.bool (by unfold nEOF; rw [h164]; rfl), rfl⟩
  · try simp only [decide_eq_true_eq, decide_eq_false_iff_not, Bool.not_eq_true', Bool.not_eq_false', Int.not_lt, Int.not_le, Decidable.not_not, beq_iff_eq, bne_iff_ne, ne_eq, beq_eq_false_iff_ne] at h164
    refine c_skip ?_
    refine c_seq ?_
    have hb := nHas_iff.1 h164
    obtain ⟨k, hik⟩ : ∃ k : Nat, i = (k : Int) := ⟨i.toNat, by omega⟩
    subst hik
    have hk : k < l.length := by omega
    have hpl := hp l[k] (List.getElem_mem hk)
    have hxk := hx k rfl hk
    have hln := hO.le
    have hc := hO.capm
    rw [maxLen_eq] at hc
    refine c_region ?_
    refine o_T (y_move rfl) rfl ?_
    refine o_T (y_nilck rfl) rfl ?_
    refine o_T (y_fa fl_80_0 rfl) rfl ?_
    refine o_ld one_78 rfl m0 Nt.g0 rfl ?_
    refine o_T (y_move rfl) rfl ?_
    refine o_T (y_is sl_78 rfl rfl (by omega) (by omega)) rfl ?_
    refine o_T (y_fa fl_83_6 rfl) rfl ?_
    refine o_ld one_3 rfl (ms m0) (Ed.l_peer hO k (by omega) (by omega)) rfl ?_
    refine o_L (y_assign rfl) rfl rfl ?_
    refine o_nil0 rfl ?_
    refine c_seq ?_
    refine c_draw #[true, true, true, true, true, true, true, true, true, true, true, true, true, true, true, true, true, true, true, true, true, true, true, true, true, true, true, true, true, true, true, true] rfl (n := 32) rfl ?_
    refine d_T 0 rfl (by kernel_rfl) rfl (y_move rfl) rfl ?_
    refine d_T 1 rfl (by kernel_rfl) rfl (y_geq rfl rfl) rfl ?_
    refine d_T 2 rfl (by kernel_rfl) rfl (y_move rfl) rfl ?_
    refine d_split 20 rfl (fun h168 => ?_) (fun h168 => ?_)
    · try simp only [decide_eq_true_eq, decide_eq_false_iff_not, Bool.not_eq_true', Bool.not_eq_false', Int.not_lt, Int.not_le, Decidable.not_not, beq_iff_eq, bne_iff_ne, ne_eq, beq_eq_false_iff_ne] at h168
      refine d_Tg 3 rfl rfl rfl rfl (by kernel_rfl) rfl (y_move rfl) rfl ?_
      refine d_Tg 4 rfl rfl rfl rfl (by kernel_rfl) rfl (y_nilck rfl) rfl ?_
      refine d_Tg 5 rfl rfl rfl rfl (by kernel_rfl) rfl (y_fa fl_80_0 rfl) rfl ?_
      refine d_ldt 6 rfl rfl rfl rfl (by kernel_rfl) one_78 rfl (fun x hx => hx) m0 Nt.g0 rfl ?_
      refine d_Tg 7 rfl rfl rfl rfl (by kernel_rfl) rfl (y_move rfl) rfl ?_
      refine d_Tg 8 rfl rfl rfl rfl (by kernel_rfl) rfl (y_is sl_78 rfl rfl (by omega) (by omega)) rfl ?_
      refine d_Tg 9 rfl rfl rfl rfl (by kernel_rfl) rfl (y_fa fl_83_12 rfl) rfl ?_
      refine d_ldt 10 rfl rfl rfl rfl (by kernel_rfl) one_4 rfl (fun x hx => hx) (ms m0) (Ed.l_closed hO l[k].peer.toNat (by omega) (by omega)) rfl ?_
      refine d_T 11 rfl (by kernel_rfl) rfl (y_pickT rfl rfl) rfl ?_
      refine d_T 12 rfl (by kernel_rfl) rfl (y_move rfl) rfl ?_
      refine d_split 30 rfl (fun h168_1 => ?_) (fun h168_1 => ?_)
      · try simp only [decide_eq_true_eq, decide_eq_false_iff_not, Bool.not_eq_true', Bool.not_eq_false', Int.not_lt, Int.not_le, Decidable.not_not, beq_iff_eq, bne_iff_ne, ne_eq, beq_eq_false_iff_ne] at h168_1
        refine d_Tg 13 rfl rfl rfl rfl (by kernel_rfl) rfl (y_move rfl) rfl ?_
        refine d_Tg 14 rfl rfl rfl rfl (by kernel_rfl) rfl (y_nilck rfl) rfl ?_
        refine d_Tg 15 rfl rfl rfl rfl (by kernel_rfl) rfl (y_fa fl_80_0 rfl) rfl ?_
        refine d_ldt 16 rfl rfl rfl rfl (by kernel_rfl) one_78 rfl (fun x hx => hx) m0 Nt.g0 rfl ?_
        refine d_Tg 17 rfl rfl rfl rfl (by kernel_rfl) rfl (y_move rfl) rfl ?_
        refine d_Tg 18 rfl rfl rfl rfl (by kernel_rfl) rfl (y_is sl_78 rfl rfl (by omega) (by omega)) rfl ?_
        refine d_Tg 19 rfl rfl rfl rfl (by kernel_rfl) rfl (y_fa fl_83_8 rfl) rfl ?_
        refine d_ldt 20 rfl rfl rfl rfl (by kernel_rfl) one_81 rfl (fun x hx => hx) (ms m0) (hxk.2.1 _ (by omega)) rfl ?_
        refine d_Tg 21 rfl rfl rfl rfl (by kernel_rfl) rfl (y_move rfl) rfl ?_
        refine d_Tg 22 rfl rfl rfl rfl (by kernel_rfl) rfl (y_nilck rfl) rfl ?_
        refine d_Tg 23 rfl rfl rfl rfl (by kernel_rfl) rfl (y_fa fl_80_0 rfl) rfl ?_
        refine d_ldt 24 rfl rfl rfl rfl (by kernel_rfl) one_78 rfl (fun x hx => hx) m0 Nt.g0 rfl ?_
        refine d_Tg 25 rfl rfl rfl rfl (by kernel_rfl) rfl (y_move rfl) rfl ?_
        refine d_Tg 26 rfl rfl rfl rfl (by kernel_rfl) rfl (y_is sl_78 rfl rfl (by omega) (by omega)) rfl ?_
        refine d_Tg 27 rfl rfl rfl rfl (by kernel_rfl) rfl (y_fa fl_83_7 rfl) rfl ?_
        refine d_ldt 28 rfl rfl rfl rfl (by kernel_rfl) one_81 rfl (fun x hx => hx) (ms m0) ((hxk.2.2 (by omega) (by omega)).2 _ (by omega)) rfl ?_
        refine d_hard 29 rfl (by kernel_rfl) ?_
        refine o_take rfl rfl rfl ?_
        refine o_callrv en_52 rfl (t52 _ _ _ _ _ _ hxk.1.byt (hxk.2.2 (by omega) (by omega)).1.byt) (s_skip (s_skip (s_take (s_take s_nil)))) rfl ?_
        refine o_stop (fun _ => (fun x hx => hx)) ?_
        refine d_T 30 rfl (by kernel_rfl) rfl (y_pickT rfl rfl) rfl ?_
        refine d_L 31 rfl (by kernel_rfl) rfl (y_assign rfl) rfl rfl ?_
        refine d_nil0 (by kernel_rfl) rfl ?_
        refine c_ret ?_
        refine fun aX wX heX hsX => ret1 Tryz.results100 heX rfl (s_take (s_take (s_take (s_take s_nil)))) ?_
        refine ⟨congrArg Value.bool ?_, rfl⟩
        unfold nEOF
        rw [h164, nPeer_at hk]
        rw [nClosed_at (by omega), h168_1, nRcvd_at hk, nSent_at (by omega), decide_eq_true (show 0 ≤ l[k].peer by omega)]; rfl
      · try simp only [decide_eq_true_eq, decide_eq_false_iff_not, Bool.not_eq_true', Bool.not_eq_false', Int.not_lt, Int.not_le, Decidable.not_not, beq_iff_eq, bne_iff_ne, ne_eq, beq_eq_false_iff_ne] at h168_1
        refine d_pass 13 rfl rfl rfl rfl rfl (by kernel_rfl) (fun x hx => hx) rfl ?_
        refine d_pass 14 rfl rfl rfl rfl rfl (by kernel_rfl) (fun x hx => hx) rfl ?_
        refine d_pass 15 rfl rfl rfl rfl rfl (by kernel_rfl) (fun x hx => hx) rfl ?_
        refine d_pass 16 rfl rfl rfl rfl rfl (by kernel_rfl) (fun x hx => hx) rfl ?_
        refine d_pass 17 rfl rfl rfl rfl rfl (by kernel_rfl) (fun x hx => hx) rfl ?_
        refine d_pass 18 rfl rfl rfl rfl rfl (by kernel_rfl) (fun x hx => hx) rfl ?_
        refine d_pass 19 rfl rfl rfl rfl rfl (by kernel_rfl) (fun x hx => hx) rfl ?_
        refine d_pass 20 rfl rfl rfl rfl rfl (by kernel_rfl) (fun x hx => hx) rfl ?_
        refine d_pass 21 rfl rfl rfl rfl rfl (by kernel_rfl) (fun x hx => hx) rfl ?_
        refine d_pass 22 rfl rfl rfl rfl rfl (by kernel_rfl) (fun x hx => hx) rfl ?_
        refine d_pass 23 rfl rfl rfl rfl rfl (by kernel_rfl) (fun x hx => hx) rfl ?_
        refine d_pass 24 rfl rfl rfl rfl rfl (by kernel_rfl) (fun x hx => hx) rfl ?_
        refine d_pass 25 rfl rfl rfl rfl rfl (by kernel_rfl) (fun x hx => hx) rfl ?_
        refine d_pass 26 rfl rfl rfl rfl rfl (by kernel_rfl) (fun x hx => hx) rfl ?_
        refine d_pass 27 rfl rfl rfl rfl rfl (by kernel_rfl) (fun x hx => hx) rfl ?_
        refine d_pass 28 rfl rfl rfl rfl rfl (by kernel_rfl) (fun x hx => hx) rfl ?_
        refine d_pass 29 rfl rfl rfl rfl rfl (by kernel_rfl) (fun x hx => hx) rfl ?_
        refine d_T 30 rfl (by kernel_rfl) rfl (y_pickF rfl rfl) rfl ?_
        refine d_L 31 rfl (by kernel_rfl) rfl (y_assign rfl) rfl rfl ?_
        refine d_nil0 (by kernel_rfl) rfl ?_
        refine c_ret ?_
        refine fun aX wX heX hsX => ret1 Tryz.results100 heX rfl (s_take (s_take (s_take (s_take s_nil)))) ?_
        refine ⟨congrArg Value.bool ?_, rfl⟩
        unfold nEOF
        rw [h164, nPeer_at hk]
        rw [nClosed_at (by omega), h168_1]; simp
    · try simp only [decide_eq_true_eq, decide_eq_false_iff_not, Bool.not_eq_true', Bool.not_eq_false', Int.not_lt, Int.not_le, Decidable.not_not, beq_iff_eq, bne_iff_ne, ne_eq, beq_eq_false_iff_ne] at h168
      refine d_pass 3 rfl rfl rfl rfl rfl (by kernel_rfl) (fun x hx => hx) rfl ?_
      refine d_pass 4 rfl rfl rfl rfl rfl (by kernel_rfl) (fun x hx => hx) rfl ?_
      refine d_pass 5 rfl rfl rfl rfl rfl (by kernel_rfl) (fun x hx => hx) rfl ?_
      refine d_pass 6 rfl rfl rfl rfl rfl (by kernel_rfl) (fun x hx => hx) rfl ?_
      refine d_pass 7 rfl rfl rfl rfl rfl (by kernel_rfl) (fun x hx => hx) rfl ?_
      refine d_pass 8 rfl rfl rfl rfl rfl (by kernel_rfl) (fun x hx => hx) rfl ?_
      refine d_pass 9 rfl rfl rfl rfl rfl (by kernel_rfl) (fun x hx => hx) rfl ?_
      refine d_pass 10 rfl rfl rfl rfl rfl (by kernel_rfl) (fun x hx => hx) rfl ?_
      refine d_T 11 rfl (by kernel_rfl) rfl (y_pickF rfl rfl) rfl ?_
      refine d_T 12 rfl (by kernel_rfl) rfl (y_move rfl) rfl ?_
      refine d_pass 13 rfl rfl rfl rfl rfl (by kernel_rfl) (fun x hx => hx) rfl ?_
      refine d_pass 14 rfl rfl rfl rfl rfl (by kernel_rfl) (fun x hx => hx) rfl ?_
      refine d_pass 15 rfl rfl rfl rfl rfl (by kernel_rfl) (fun x hx => hx) rfl ?_
      refine d_pass 16 rfl rfl rfl rfl rfl (by kernel_rfl) (fun x hx => hx) rfl ?_
      refine d_pass 17 rfl rfl rfl rfl rfl (by kernel_rfl) (fun x hx => hx) rfl ?_
      refine d_pass 18 rfl rfl rfl rfl rfl (by kernel_rfl) (fun x hx => hx) rfl ?_
      refine d_pass 19 rfl rfl rfl rfl rfl (by kernel_rfl) (fun x hx => hx) rfl ?_
      refine d_pass 20 rfl rfl rfl rfl rfl (by kernel_rfl) (fun x hx => hx) rfl ?_
      refine d_pass 21 rfl rfl rfl rfl rfl (by kernel_rfl) (fun x hx => hx) rfl ?_
      refine d_pass 22 rfl rfl rfl rfl rfl (by kernel_rfl) (fun x hx => hx) rfl ?_
      refine d_pass 23 rfl rfl rfl rfl rfl (by kernel_rfl) (fun x hx => hx) rfl ?_
      refine d_pass 24 rfl rfl rfl rfl rfl (by kernel_rfl) (fun x hx => hx) rfl ?_
      refine d_pass 25 rfl rfl rfl rfl rfl (by kernel_rfl) (fun x hx => hx) rfl ?_
      refine d_pass 26 rfl rfl rfl rfl rfl (by kernel_rfl) (fun x hx => hx) rfl ?_
      refine d_pass 27 rfl rfl rfl rfl rfl (by kernel_rfl) (fun x hx => hx) rfl ?_
      refine d_pass 28 rfl rfl rfl rfl rfl (by kernel_rfl) (fun x hx => hx) rfl ?_
      refine d_pass 29 rfl rfl rfl rfl rfl (by kernel_rfl) (fun x hx => hx) rfl ?_
      refine d_T 30 rfl (by kernel_rfl) rfl (y_pickF rfl rfl) rfl ?_
      refine d_L 31 rfl (by kernel_rfl) rfl (y_assign rfl) rfl rfl ?_
      refine d_nil0 (by kernel_rfl) rfl ?_
      refine c_ret ?_
      refine fun aX wX heX hsX => ret1 Tryz.results100 heX rfl (s_take (s_take (s_take (s_take s_nil)))) ?_
      refine ⟨congrArg Value.bool ?_, rfl⟩
      unfold nEOF
      rw [h164, nPeer_at hk]
      rw [decide_eq_false (show ¬ 0 ≤ l[k].peer by omega)]; rfl

end Go.Proofs.Qxb6500351aGreat
