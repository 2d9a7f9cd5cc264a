/- MADE BY PROGRAM (tools/gen.py over tools/specsw.py): walks. -/
import Derived.Test.Qxb6500351aGreatFacts
import Derived.Test.Qxb6500351aGreatRp3
import Derived.Test.Qxb6500351aGreatW66
set_option linter.unusedVariables false
set_option linter.unusedSimpArgs false
namespace Go.Proofs.Qxb6500351aGreat
open Go.Eng
set_option maxRecDepth 20000
set_option maxHeartbeats 4000000
attribute [local irreducible] Hst.ent Hst.err Hst.infoC
/-- e2e/api.CopyBytes -/
theorem t78s (b o n cap e : Nat) (cs : Array Value) (l : List Int) (hy : BytAt o n cap cs l) (fz : Nat × Nat) : Trip Tryz.prog 78 #[.slice (some ⟨b, o, none⟩) n cap] [[(b, .cells cs e fz)]] (fun u S' => ∃ b2, u = byV b2 l ∧ S' = [[(b, .cells cs e fz)], byG b2 l 5]) := by
  have hn := hy.n_eq
  have hl := hy.len
  refine fn_entry (args := [.slice (some ⟨b, o, none⟩) n cap]) Tryz.func78 rfl Tryz.ntmps78 rfl (fun w0 => ?_)
  refine c_seq ?_
  refine c_region ?_
  refine o_L (y_assign rfl) rfl rfl ?_
  refine o_nil0 rfl ?_
  refine c_seq ?_
  refine c_region ?_
  refine o_T (y_move rfl) rfl ?_
  refine o_T (y_len Tryz.underlying81 rfl) rfl ?_
  refine o_makeB n sz_81 rfl rfl (by first | rfl | omega) (by first | rfl | omega) (by omega) (by omega) rfl (fun b_1 => ?_)
  refine o_L (y_assign rfl) rfl rfl ?_
  refine o_nil0 rfl ?_
  refine c_seq ?_
  refine c_region ?_
  refine o_T (y_move rfl) rfl ?_
  refine o_T (y_move rfl) rfl ?_
  refine o_copyB _ sz_81 rfl rfl hy (by first | rfl | (simp only [Nat.min_def]; split <;> omega)) r0 (ms m0) (by first | (simp only [List.length_set, List.length_replicate, List.length_append, List.length_take, List.length_drop, List.length_map, List.length_range]; (try split) <;> omega) | (simp <;> omega)) (.inr ⟨_, rfl, rfl, rfl⟩) ?_
  refine o_nil0 rfl ?_
  refine c_seq ?_
  refine c_region ?_
  refine o_T (y_move rfl) rfl ?_
  refine o_L (y_assign rfl) rfl rfl ?_
  refine o_nil0 rfl ?_
  refine c_ret ?_
  refine fun aX wX heX hsX => ret1 Tryz.results78 heX rfl (s_get (ks k0) (s_get k0 s_nil)) ?_
  refine ⟨b_1, byV_eq hn, bs2 rfl (byG_eq ?_)⟩
  simp [List.take_of_length_le (Nat.le_of_eq hn)]

/-- e2e/towerlaw.Scribble -/
theorem t80s (b : Nat) (l : List Int) (hb : Bytes l) (hl : l.length ≤ 140737488355328) : Trip Tryz.prog 80 #[byV b l] [byG b l 5] (fun u S' => ∃ l' : List Int, u = .tuple #[] ∧ l'.length = l.length ∧ Bytes l' ∧ S' = [byG b l' 5]) := by
  refine fn_entry (args := [byV b l]) Tryz.func80 rfl Tryz.ntmps80 rfl (fun w0 => ?_)
  refine c_seq ?_
  refine c_region ?_
  refine o_L (y_assign rfl) rfl rfl ?_
  refine o_nil0 rfl ?_
  refine c_block ?_
  refine c_loopG (ι := Nat × List Int) (fun i_ => [(2, .int .i64 (i_.1 : Int))]) (fun i_ => [byG b i_.2 5]) (fun i_ => i_.1 ≤ l.length ∧ i_.2.length = l.length ∧ Bytes i_.2) (fun i_ => l.length - i_.1) (0, l) (by exact ⟨Nat.zero_le _, rfl, hb⟩) ⟨by first | rfl | exact gteI rfl (by omega), trivial⟩ (s_take s_nil) ?_
  rintro ⟨k, l2⟩ ⟨g1, g2, g3⟩
  try dsimp only [List.cons_append, List.nil_append] at *
  refine c_seq ?_
  refine c_seq ?_
  refine c_region ?_
  refine o_T (y_move rfl) rfl ?_
  refine o_T (y_move rfl) rfl ?_
  refine o_T (y_len Tryz.underlying81 rfl) rfl ?_
  refine o_T (y_lss rfl rfl) rfl ?_
  refine o_nil1 6 rfl rfl ?_
  refine c_cond rfl (fun h170 => ?_) (fun h170 => ?_)
  · try simp only [decide_eq_true_eq, decide_eq_false_iff_not, Bool.not_eq_true', Bool.not_eq_false', Int.not_lt, Int.not_le, Decidable.not_not, beq_iff_eq, bne_iff_ne, ne_eq, beq_eq_false_iff_ne] at h170
    refine c_skip ?_
    refine c_seq ?_
    refine c_block ?_
    refine c_region ?_
    refine o_T (y_move rfl) rfl ?_
    refine o_T (y_move rfl) rfl ?_
    refine o_T (y_is sl_81 rfl rfl (by omega) (by omega)) rfl ?_
    refine o_ld one_5 rfl m0 ((BytAt.ful (by first | exact g2 | assumption | omega) (by exact g3) (by omega)).getD (i := k) (by omega) rfl) rfl ?_
    refine o_T (y_xor rfl rfl (scr_bit g3)) rfl ?_
    refine o_T (y_is sl_81 rfl rfl (by omega) (by omega)) rfl ?_
    refine o_st one_5 rfl rfl rfl r0 (bV_set _ k _ rfl) (bV_size _ (by first | omega | (simp only [List.length_set, List.length_replicate]; omega) | (simp <;> omega))) ?_
    refine o_nil0 rfl ?_
    refine c_region ?_
    refine o_T (y_move rfl) rfl ?_
    refine o_T (y_add rfl rfl (w64 (by omega))) rfl ?_
    refine o_L (y_assign rfl) rfl rfl ?_
    refine o_nil0 rfl ?_
    refine ⟨(k + 1, _), ⟨⟨by omega, by rw [List.length_set]; exact g2, scr_b g3⟩, by dsimp only; omega⟩, ⟨gteI rfl (by dsimp only; omega), trivial⟩, ⟨rfl, rfl⟩, _, ((s_take s_nil))⟩
  · try simp only [decide_eq_true_eq, decide_eq_false_iff_not, Bool.not_eq_true', Bool.not_eq_false', Int.not_lt, Int.not_le, Decidable.not_not, beq_iff_eq, bne_iff_ne, ne_eq, beq_eq_false_iff_ne] at h170
    refine c_exit ?_
    refine fun aX wX heX hsX => ret0 Tryz.results80 (s_take s_nil) ?_
    exact ⟨l2, rfl, g2, g3, rfl⟩

/-- (*e2e/hostm.Net).Took -/
theorem t96s (b : Nat) (v : Value) (l : List Ned) (gv gd : List Chunk) (dl : Nat → Int) (i m : Int) (b3 o3 n3 cap3 e3 : Nat) (cs3 : Array Value) (d : List Int) (hn : LstN 83 16 edR v l gv gd) (hy : BytAt o3 n3 cap3 cs3 d) (hs : ∀ x ∈ l, x.sent.length ≤ 1000000000000) (hdl : n3 ≤ 140737488355328) (hm16 : m ≤ 1000000) (fz : Nat × Nat) : Trip Tryz.prog 96 #[.pointer (some ⟨b, 0, none⟩), .int .i64 i, .int .i64 m, .slice (some ⟨b3, o3, none⟩) n3 cap3] [[(b, .cells (Nt.mk v dl).enc 80 (0, 0))], gv, gd, [(b3, .cells cs3 e3 fz)]] (fun u S' => ∃ gv' gd', u = .bool (nTook l i m d) ∧ LstN 83 16 edR v (nTaken l i m d) gv' gd' ∧ S' = [[(b, .cells (Nt.mk v dl).enc 80 (0, 0))], gv', gd', [(b3, .cells cs3 e3 fz)]]) := by
  have hln := lstN_bnd hn
  obtain ⟨pw, cw, hvw⟩ := hn.slice
  subst hvw
  have hn3 := hy.n_eq
  have hl3 := hy.len
  have hc3 := hy.cap
  refine fn_entry (args := [.pointer (some ⟨b, 0, none⟩), .int .i64 i, .int .i64 m, .slice (some ⟨b3, o3, none⟩) n3 cap3]) Tryz.func96 rfl Tryz.ntmps96 rfl (fun w0 => ?_)
  refine c_seq ?_
  refine c_region ?_
  refine o_L (y_assign rfl) rfl rfl ?_
  refine o_nil0 rfl ?_
  refine c_seq ?_
  refine c_seq ?_
  refine c_region ?_
  refine o_T (y_move rfl) rfl ?_
  refine o_T (y_move rfl) rfl ?_
  refine o_callrv en_76 rfl (t76 _ _ _ _ _ _ _ (by assumption)) (s_take s_nil) rfl ?_
  refine o_T (y_not rfl) rfl ?_
  refine o_T (y_move rfl) rfl ?_
  refine o_split 13 rfl (fun h146 => ?_) (fun h146 => ?_)
  · try simp only [decide_eq_true_eq, decide_eq_false_iff_not, Bool.not_eq_true', Bool.not_eq_false', Int.not_lt, Int.not_le, Decidable.not_not, beq_iff_eq, bne_iff_ne, ne_eq, beq_eq_false_iff_ne] at h146
    refine o_pass rfl rfl rfl rfl rfl ?_
    refine o_pass rfl rfl rfl rfl rfl ?_
    refine o_T (y_pickT rfl rfl) rfl ?_
    refine o_T (y_move rfl) rfl ?_
    refine o_pass rfl rfl rfl rfl rfl ?_
    refine o_pass rfl rfl rfl rfl rfl ?_
    refine o_pass rfl rfl rfl rfl rfl ?_
    refine o_pass rfl rfl rfl rfl rfl ?_
    refine o_T (y_pickT rfl rfl) rfl ?_
    refine o_T (y_move rfl) rfl ?_
    refine o_pass rfl rfl rfl rfl rfl ?_
    refine o_pass rfl rfl rfl rfl rfl ?_
    refine o_pass rfl rfl rfl rfl rfl ?_
    refine o_pass rfl rfl rfl rfl rfl ?_
    refine o_pass rfl rfl rfl rfl rfl ?_
    refine o_pass rfl rfl rfl rfl rfl ?_
    refine o_pass rfl rfl rfl rfl rfl ?_
    refine o_pass rfl rfl rfl rfl rfl ?_
    refine o_T (y_pickT rfl rfl) rfl ?_
    refine o_T (y_move rfl) rfl ?_
    refine o_pass rfl rfl rfl rfl rfl ?_
    refine o_pass rfl rfl rfl rfl rfl ?_
    refine o_pass rfl rfl rfl rfl rfl ?_
    refine o_pass rfl rfl rfl rfl rfl ?_
    refine o_pass rfl rfl rfl rfl rfl ?_
    refine o_pass rfl rfl rfl rfl rfl ?_
    refine o_pass rfl rfl rfl rfl rfl ?_
    refine o_pass rfl rfl rfl rfl rfl ?_
    refine o_pass rfl rfl rfl rfl rfl ?_
    refine o_T (y_pickT rfl rfl) rfl ?_
    refine o_nil1 43 rfl rfl ?_
    refine c_condT rfl ?_
    refine c_seq ?_
    refine c_region ?_
    refine o_L (y_assign rfl) rfl rfl ?_
    refine o_nil0 rfl ?_
    refine c_ret ?_
    refine fun aX wX heX hsX => ret1 Tryz.results96 heX rfl (s_take (s_take (s_take (s_take s_nil)))) ?_
    have e0 := nTook_no h146 m d
    have e1 : nTaken l i m d = l := by unfold nTaken; rw [e0]; rfl
    rw [e0, e1]
    exact ⟨_, _, rfl, hn, rfl⟩
  · try simp only [decide_eq_true_eq, decide_eq_false_iff_not, Bool.not_eq_true', Bool.not_eq_false', Int.not_lt, Int.not_le, Decidable.not_not, beq_iff_eq, bne_iff_ne, ne_eq, beq_eq_false_iff_ne] at h146
    refine o_take rfl rfl rfl ?_
    have hb := nHas_iff.1 h146
    obtain ⟨k, hik⟩ : ∃ k : Nat, i = (k : Int) := ⟨i.toNat, by omega⟩
    subst hik
    have hk : k < l.length := by omega
    obtain ⟨bw, cpw, cur, hv2, hg2, hO⟩ := (hn.lst (by omega)).open
    injection hv2 with e1 e2 e3
    subst e1 e3 hg2
    refine o_T (y_move rfl) rfl ?_
    refine o_take rfl rfl rfl ?_
    refine o_T (y_lss rfl rfl) rfl ?_
    refine o_T (y_pickF rfl rfl) rfl ?_
    refine o_T (y_move rfl) rfl ?_
    refine o_split 17 rfl (fun h146_1 => ?_) (fun h146_1 => ?_)
    · try simp only [decide_eq_true_eq, decide_eq_false_iff_not, Bool.not_eq_true', Bool.not_eq_false', Int.not_lt, Int.not_le, Decidable.not_not, beq_iff_eq, bne_iff_ne, ne_eq, beq_eq_false_iff_ne] at h146_1
      refine o_pass rfl rfl rfl rfl rfl ?_
      refine o_pass rfl rfl rfl rfl rfl ?_
      refine o_pass rfl rfl rfl rfl rfl ?_
      refine o_pass rfl rfl rfl rfl rfl ?_
      refine o_T (y_pickT rfl rfl) rfl ?_
      refine o_T (y_move rfl) rfl ?_
      refine o_pass rfl rfl rfl rfl rfl ?_
      refine o_pass rfl rfl rfl rfl rfl ?_
      refine o_pass rfl rfl rfl rfl rfl ?_
      refine o_pass rfl rfl rfl rfl rfl ?_
      refine o_pass rfl rfl rfl rfl rfl ?_
      refine o_pass rfl rfl rfl rfl rfl ?_
      refine o_pass rfl rfl rfl rfl rfl ?_
      refine o_pass rfl rfl rfl rfl rfl ?_
      refine o_T (y_pickT rfl rfl) rfl ?_
      refine o_T (y_move rfl) rfl ?_
      refine o_pass rfl rfl rfl rfl rfl ?_
      refine o_pass rfl rfl rfl rfl rfl ?_
      refine o_pass rfl rfl rfl rfl rfl ?_
      refine o_pass rfl rfl rfl rfl rfl ?_
      refine o_pass rfl rfl rfl rfl rfl ?_
      refine o_pass rfl rfl rfl rfl rfl ?_
      refine o_pass rfl rfl rfl rfl rfl ?_
      refine o_pass rfl rfl rfl rfl rfl ?_
      refine o_pass rfl rfl rfl rfl rfl ?_
      refine o_T (y_pickT rfl rfl) rfl ?_
      refine o_nil1 43 rfl rfl ?_
      refine c_condT rfl ?_
      refine c_seq ?_
      refine c_region ?_
      refine o_L (y_assign rfl) rfl rfl ?_
      refine o_nil0 rfl ?_
      refine c_ret ?_
      refine fun aX wX heX hsX => ret1 Tryz.results96 heX rfl (s_take (s_take (s_take (s_take s_nil)))) ?_
      have e0 : nTook l k m d = false := by rw [nTook_at hk, ← Bool.not_eq_true]; simp only [Bool.and_eq_true, decide_eq_true_eq, Bool.not_eq_true']; rintro ⟨⟨⟨q1, q2⟩, q3⟩, q4⟩; first | omega | simp_all
      have e1 : nTaken l k m d = l := by unfold nTaken; rw [e0]; rfl
      rw [e0, e1]
      exact ⟨_, _, rfl, hn, rfl⟩
    · try simp only [decide_eq_true_eq, decide_eq_false_iff_not, Bool.not_eq_true', Bool.not_eq_false', Int.not_lt, Int.not_le, Decidable.not_not, beq_iff_eq, bne_iff_ne, ne_eq, beq_eq_false_iff_ne] at h146_1
      refine o_take rfl rfl rfl ?_
      refine o_T (y_move rfl) rfl ?_
      refine o_take rfl rfl rfl ?_
      refine o_T (y_move rfl) rfl ?_
      refine o_take rfl rfl rfl ?_
      refine o_T (y_len Tryz.underlying81 rfl) rfl ?_
      refine o_take rfl rfl rfl ?_
      refine o_T (y_gtr rfl rfl) rfl ?_
      refine o_T (y_pickF rfl rfl) rfl ?_
      refine o_T (y_move rfl) rfl ?_
      refine o_split 23 rfl (fun h146_2 => ?_) (fun h146_2 => ?_)
      · try simp only [decide_eq_true_eq, decide_eq_false_iff_not, Bool.not_eq_true', Bool.not_eq_false', Int.not_lt, Int.not_le, Decidable.not_not, beq_iff_eq, bne_iff_ne, ne_eq, beq_eq_false_iff_ne] at h146_2
        refine o_pass rfl rfl rfl rfl rfl ?_
        refine o_pass rfl rfl rfl rfl rfl ?_
        refine o_pass rfl rfl rfl rfl rfl ?_
        refine o_pass rfl rfl rfl rfl rfl ?_
        refine o_pass rfl rfl rfl rfl rfl ?_
        refine o_pass rfl rfl rfl rfl rfl ?_
        refine o_pass rfl rfl rfl rfl rfl ?_
        refine o_pass rfl rfl rfl rfl rfl ?_
        refine o_T (y_pickT rfl rfl) rfl ?_
        refine o_T (y_move rfl) rfl ?_
        refine o_pass rfl rfl rfl rfl rfl ?_
        refine o_pass rfl rfl rfl rfl rfl ?_
        refine o_pass rfl rfl rfl rfl rfl ?_
        refine o_pass rfl rfl rfl rfl rfl ?_
        refine o_pass rfl rfl rfl rfl rfl ?_
        refine o_pass rfl rfl rfl rfl rfl ?_
        refine o_pass rfl rfl rfl rfl rfl ?_
        refine o_pass rfl rfl rfl rfl rfl ?_
        refine o_pass rfl rfl rfl rfl rfl ?_
        refine o_T (y_pickT rfl rfl) rfl ?_
        refine o_nil1 43 rfl rfl ?_
        refine c_condT rfl ?_
        refine c_seq ?_
        refine c_region ?_
        refine o_L (y_assign rfl) rfl rfl ?_
        refine o_nil0 rfl ?_
        refine c_ret ?_
        refine fun aX wX heX hsX => ret1 Tryz.results96 heX rfl (s_take (s_take (s_take (s_take s_nil)))) ?_
        have e0 : nTook l k m d = false := by rw [nTook_at hk, ← Bool.not_eq_true]; simp only [Bool.and_eq_true, decide_eq_true_eq, Bool.not_eq_true']; rintro ⟨⟨⟨q1, q2⟩, q3⟩, q4⟩; first | omega | simp_all
        have e1 : nTaken l k m d = l := by unfold nTaken; rw [e0]; rfl
        rw [e0, e1]
        exact ⟨_, _, rfl, hn, rfl⟩
      · try simp only [decide_eq_true_eq, decide_eq_false_iff_not, Bool.not_eq_true', Bool.not_eq_false', Int.not_lt, Int.not_le, Decidable.not_not, beq_iff_eq, bne_iff_ne, ne_eq, beq_eq_false_iff_ne] at h146_2
        refine o_take rfl rfl rfl ?_
        refine o_T (y_move rfl) rfl ?_
        refine o_take rfl rfl rfl ?_
        refine o_T (y_nilck rfl) rfl ?_
        refine o_take rfl rfl rfl ?_
        refine o_T (y_fa fl_80_0 rfl) rfl ?_
        refine o_take rfl rfl rfl ?_
        refine o_ld one_78 rfl m0 Nt.g0 rfl ?_
        refine o_take rfl rfl rfl ?_
        refine o_T (y_move rfl) rfl ?_
        refine o_take rfl rfl rfl ?_
        refine o_T (y_is sl_78 rfl rfl (by omega) (by omega)) rfl ?_
        refine o_take rfl rfl rfl ?_
        refine o_T (y_fa fl_83_12 rfl) rfl ?_
        refine o_take rfl rfl rfl ?_
        refine o_ld one_4 rfl (ms m0) (Ed.l_closed hO k hk (by omega)) rfl ?_
        refine o_T (y_pickF rfl rfl) rfl ?_
        refine o_T (y_move rfl) rfl ?_
        refine o_split 33 rfl (fun h146_3 => ?_) (fun h146_3 => ?_)
        · try simp only [decide_eq_true_eq, decide_eq_false_iff_not, Bool.not_eq_true', Bool.not_eq_false', Int.not_lt, Int.not_le, Decidable.not_not, beq_iff_eq, bne_iff_ne, ne_eq, beq_eq_false_iff_ne] at h146_3
          refine o_pass rfl rfl rfl rfl rfl ?_
          refine o_pass rfl rfl rfl rfl rfl ?_
          refine o_pass rfl rfl rfl rfl rfl ?_
          refine o_pass rfl rfl rfl rfl rfl ?_
          refine o_pass rfl rfl rfl rfl rfl ?_
          refine o_pass rfl rfl rfl rfl rfl ?_
          refine o_pass rfl rfl rfl rfl rfl ?_
          refine o_pass rfl rfl rfl rfl rfl ?_
          refine o_pass rfl rfl rfl rfl rfl ?_
          refine o_T (y_pickT rfl rfl) rfl ?_
          refine o_nil1 43 rfl rfl ?_
          refine c_condT rfl ?_
          refine c_seq ?_
          refine c_region ?_
          refine o_L (y_assign rfl) rfl rfl ?_
          refine o_nil0 rfl ?_
          refine c_ret ?_
          refine fun aX wX heX hsX => ret1 Tryz.results96 heX rfl (s_take (s_take (s_take (s_take s_nil)))) ?_
          have e0 : nTook l k m d = false := by rw [nTook_at hk, ← Bool.not_eq_true]; simp only [Bool.and_eq_true, decide_eq_true_eq, Bool.not_eq_true']; rintro ⟨⟨⟨q1, q2⟩, q3⟩, q4⟩; first | omega | simp_all
          have e1 : nTaken l k m d = l := by unfold nTaken; rw [e0]; rfl
          rw [e0, e1]
          exact ⟨_, _, rfl, hn, rfl⟩
        · try simp only [decide_eq_true_eq, decide_eq_false_iff_not, Bool.not_eq_true', Bool.not_eq_false', Int.not_lt, Int.not_le, Decidable.not_not, beq_iff_eq, bne_iff_ne, ne_eq, beq_eq_false_iff_ne] at h146_3
          refine o_take rfl rfl rfl ?_
          refine o_T (y_move rfl) rfl ?_
          refine o_take rfl rfl rfl ?_
          refine o_T (y_nilck rfl) rfl ?_
          refine o_take rfl rfl rfl ?_
          refine o_T (y_fa fl_80_0 rfl) rfl ?_
          refine o_take rfl rfl rfl ?_
          refine o_ld one_78 rfl m0 Nt.g0 rfl ?_
          refine o_take rfl rfl rfl ?_
          refine o_T (y_move rfl) rfl ?_
          refine o_take rfl rfl rfl ?_
          refine o_T (y_is sl_78 rfl rfl (by omega) (by omega)) rfl ?_
          refine o_take rfl rfl rfl ?_
          refine o_T (y_fa fl_83_10 rfl) rfl ?_
          refine o_take rfl rfl rfl ?_
          refine o_ld one_3 rfl (ms m0) (Ed.l_state hO k hk (by omega)) rfl ?_
          refine o_take rfl rfl rfl ?_
          refine o_T (y_neq rfl rfl) rfl ?_
          refine o_T (y_pickF rfl rfl) rfl ?_
          refine o_nil1 43 rfl rfl ?_
          refine c_cond rfl (fun h146_4 => ?_) (fun h146_4 => ?_)
          · try simp only [decide_eq_true_eq, decide_eq_false_iff_not, Bool.not_eq_true', Bool.not_eq_false', Int.not_lt, Int.not_le, Decidable.not_not, beq_iff_eq, bne_iff_ne, ne_eq, beq_eq_false_iff_ne] at h146_4
            refine c_seq ?_
            refine c_region ?_
            refine o_L (y_assign rfl) rfl rfl ?_
            refine o_nil0 rfl ?_
            refine c_ret ?_
            refine fun aX wX heX hsX => ret1 Tryz.results96 heX rfl (s_take (s_take (s_take (s_take s_nil)))) ?_
            have e0 : nTook l k m d = false := by rw [nTook_at hk, ← Bool.not_eq_true]; simp only [Bool.and_eq_true, decide_eq_true_eq, Bool.not_eq_true']; rintro ⟨⟨⟨q1, q2⟩, q3⟩, q4⟩; first | omega | simp_all
            have e1 : nTaken l k m d = l := by unfold nTaken; rw [e0]; rfl
            rw [e0, e1]
            exact ⟨_, _, rfl, hn, rfl⟩
          · try simp only [decide_eq_true_eq, decide_eq_false_iff_not, Bool.not_eq_true', Bool.not_eq_false', Int.not_lt, Int.not_le, Decidable.not_not, beq_iff_eq, bne_iff_ne, ne_eq, beq_eq_false_iff_ne] at h146_4
            refine c_skip ?_
            refine c_seq ?_
            obtain ⟨mk, rfl⟩ : ∃ mk : Nat, m = (mk : Int) := ⟨m.toNat, by omega⟩
            have hsl := hs l[k] (List.getElem_mem hk)
            obtain ⟨vS, gS, ga, gb, hgd, hgS, hcS, hset⟩ := Ed.cut_sent hO k hk
            obtain ⟨pS, cS, hvS⟩ := hgS.1.slice
            subst hvS
            refine c_front (s_get (ks (ks k0)) (s_get k0 (s_get k0 (s_get k0 s_nil)))) ?_
            refine c_split3 hgd ?_
            refine c_draw #[true, true, true, true, true, true, true, true, true, true, true, true, true, true, true, true, true, true, true, true, false] rfl (n := 21) rfl ?_
            refine d_T 0 rfl (by kernel_rfl) rfl (y_move rfl) rfl ?_
            refine d_T 1 rfl (by kernel_rfl) rfl (y_nilck rfl) rfl ?_
            refine d_T 2 rfl (by kernel_rfl) rfl (y_fa fl_80_0 rfl) rfl ?_
            refine d_ld 3 rfl (by kernel_rfl) one_78 rfl (fun x hx => hx) (ms (ms m0)) Nt.g0 rfl ?_
            refine d_T 4 rfl (by kernel_rfl) rfl (y_move rfl) rfl ?_
            refine d_T 5 rfl (by kernel_rfl) rfl (y_move rfl) rfl ?_
            refine d_T 6 rfl (by kernel_rfl) rfl (y_nilck rfl) rfl ?_
            refine d_T 7 rfl (by kernel_rfl) rfl (y_fa fl_80_0 rfl) rfl ?_
            refine d_ld 8 rfl (by kernel_rfl) one_78 rfl (fun x hx => hx) (ms (ms m0)) Nt.g0 rfl ?_
            refine d_T 9 rfl (by kernel_rfl) rfl (y_move rfl) rfl ?_
            refine d_T 10 rfl (by kernel_rfl) rfl (y_is sl_78 rfl rfl (by omega) (by omega)) rfl ?_
            refine d_T 11 rfl (by kernel_rfl) rfl (y_fa fl_83_7 rfl) rfl ?_
            refine d_ld 12 rfl (by kernel_rfl) one_81 rfl (fun x hx => hx) (ms (ms (ms m0))) (hcS _ (by omega)) rfl ?_
            refine d_T 14 rfl (by kernel_rfl) rfl (y_move rfl) rfl ?_
            refine d_T 15 rfl (by kernel_rfl) rfl (y_move rfl) rfl ?_
            refine d_T 16 rfl (by kernel_rfl) rfl (y_sls sl_81 rfl bN (bS (i := mk) rfl (by omega)) (by omega) (by omega)) rfl ?_
            refine d_hard 13 rfl (by kernel_rfl) ?_
            refine o_call en_78 rfl (t78g _ _ _ hgS.byt) (s_take s_nil) rfl ?_
            rintro v S' ⟨b_1, rfl, rfl⟩
            refine o_front (s_get (ks k0) (s_get k0 (s_get k0 (s_get k0 (s_get k0 (s_get k0 s_nil)))))) ?_
            refine o_stop (fun _ => (fun x hx => (ms hx))) ?_
            refine d_hard 17 rfl (by kernel_rfl) ?_
            refine o_gbapp sz_81 rfl rfl rfl (GB.row hgS.2.1 hgS.2.2) (hy.sub 0 mk (by omega) (by omega)) (s_take (s_skip (s_skip (s_skip (s_skip (s_take s_nil)))))) (by omega) (by omega) rfl (fun v_8 g_8 hg_8 => ?_)
            obtain ⟨p_8, c_8, hv_8⟩ := hg_8.1.slice
            subst hv_8
            refine o_front (s_get k0 (s_get (ks k0) (s_get (ks k0) (s_get (ks k0) (s_get (ks k0) (s_get k0 s_nil)))))) ?_
            refine o_stop (fun _ => (fun x hx => (ms hx))) ?_
            refine d_T 18 rfl (by kernel_rfl) rfl (y_is sl_78 rfl rfl (by omega) (by omega)) rfl ?_
            refine d_T 19 rfl (by kernel_rfl) rfl (y_fa fl_83_7 rfl) rfl ?_
            refine d_hard 20 rfl (by kernel_rfl) ?_
            refine o_st one_81 rfl rfl rfl (rs (rs (rs (rs r0)))) (set_at (o' := 0 + k * 16 + 7) (by omega)) (Ed.bnd hO k hk 7 (by omega) (by omega)) ?_
            have hS_1 := hset (0 + k * 16 + 7) _ _ _ rfl hg_8
            refine o_stop (fun h => nomatch h) ?_
            refine d_nil0 (by kernel_rfl) rfl ?_
            refine c_seq ?_
            refine c_front (s_get k0 (s_get (ks k0) (s_get k0 (s_get k0 (s_get k0 (s_get k0 s_nil)))))) ?_
            refine c_join3 (g := ga ++ g_8 ++ gb) rfl ?_
            refine c_region ?_
            refine o_L (y_assign rfl) rfl rfl ?_
            refine o_nil0 rfl ?_
            refine c_ret ?_
            refine fun aX wX heX hsX => ret1 Tryz.results96 heX rfl (s_get (ks (ks k0)) (s_get (ks (ks k0)) (s_get k0 (s_get (ks k0) s_nil)))) ?_
            have e0 : nTook l k mk d = true := by rw [nTook_at hk]; simp only [Bool.and_eq_true, decide_eq_true_eq, Bool.not_eq_true']; exact ⟨⟨⟨by omega, by omega⟩, by assumption⟩, by assumption⟩
            have e1 : nTaken l k mk d = l.set k { l[k] with sent := l[k].sent ++ (d.drop 0).take (mk - 0) } := by unfold nTaken; rw [e0, if_pos rfl, nUpd_at hk]; simp
            rw [e0, e1]
            exact ⟨_, _, rfl, lstE_of_open hS_1 (by rw [List.length_set]), rfl⟩

end Go.Proofs.Qxb6500351aGreat
