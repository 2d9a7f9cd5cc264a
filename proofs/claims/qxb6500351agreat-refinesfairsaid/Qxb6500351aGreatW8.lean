/- MADE BY PROGRAM (tools/gen.py over tools/specs351.py): walks. -/
import Derived.Test.Qxb6500351aGreatFacts
import Derived.Test.Qxb6500351aGreatMd5
import Derived.Test.Qxb6500351aGreatW7
import Derived.Test.Qxb6500351aGreatRp1
set_option linter.unusedVariables false
set_option linter.unusedSimpArgs false
namespace Go.Proofs.Qxb6500351aGreat
open Go.Eng
set_option maxRecDepth 20000
set_option maxHeartbeats 4000000
/-- (*e2e/conn.Conn).acked -/
theorem t213 (b ps pr : Nat) (x : Cs) (s : Sb) (r : Rb) (b2 : Nat) (g : Seg) (ok : Conn.Ok ⟨x, s, r⟩) : Trip Tryz.prog 213 #[.pointer (some ⟨b, 0, none⟩), .agg (segC b2 g).enc] [[(b, .cells (x.cn ps pr).enc 167 (0, 0))], [(ps, .cells s.enc 162 (0, 0))], [(pr, .cells r.enc 165 (0, 0))]] (fun u S' => u = .bool (Conn.acked ⟨x, s, r⟩ g).1 ∧ S' = [[(b, .cells (((Conn.acked ⟨x, s, r⟩ g).2).x.cn ps pr).enc 167 (0, 0))], [(ps, .cells ((Conn.acked ⟨x, s, r⟩ g).2).s.enc 162 (0, 0))], [(pr, .cells ((Conn.acked ⟨x, s, r⟩ g).2).r.enc 165 (0, 0))]] ∧ ((Conn.acked ⟨x, s, r⟩ g).2).Ok) := by
  have ok0 := ok
  have okS : s.Ok := ok.s
  have okR : r.Ok := ok.r
  obtain ⟨x1, x2, x3, x4, x5, x6, x7⟩ := ok.x
  obtain ⟨k1, k2, k3, k4, k5, k6, k7, k8⟩ := ok.s
  obtain ⟨j1, j2, j3, j4, j5, j6, j7, j8⟩ := ok.r
  dsimp only at x1 x2 x3 x4 x5 x6 x7 k1 k2 k3 k4 k5 k6 k7 k8 j1 j2 j3 j4 j5 j6 j7 j8
  have hsd := seqDiff_b g.ack (⟨x, s, r⟩ : Conn).sndUna
  have hw := window_b g.wnd
  refine fn_entry (args := [.pointer (some ⟨b, 0, none⟩), .agg (segC b2 g).enc]) Tryz.func213 rfl Tryz.ntmps213 rfl (fun w0 => ?_)
  refine c_seq ?_
  refine c_region ?_
  refine o_box rfl rfl rfl rfl (fun b_1 => ?_)
  refine o_L (y_assign rfl) rfl rfl ?_
  refine o_nil0 rfl ?_
  refine c_seq ?_
  refine c_region ?_
  refine o_T (y_move rfl) rfl ?_
  refine o_callrv en_107 rfl (t107 _ ps pr x _ _ ok0) (s_skip (s_take (s_take (s_take s_nil)))) rfl ?_
  refine o_L (y_assign rfl) rfl rfl ?_
  refine o_nil0 rfl ?_
  refine c_seq ?_
  refine c_region ?_
  refine o_T (y_fa fl_178_3 rfl) rfl ?_
  refine o_ld one_3 rfl m0 Sg.g3 rfl ?_
  refine o_T (y_move rfl) rfl ?_
  refine o_callv en_212 rfl (t212 _ _) rfl ?_
  refine o_L (y_assign rfl) rfl rfl ?_
  refine o_nil0 rfl ?_
  refine c_seq ?_
  refine c_seq ?_
  refine c_region ?_
  refine o_T (y_move rfl) rfl ?_
  refine o_T (y_move rfl) rfl ?_
  refine o_callrv en_144 rfl (t144 _ ps pr x _ _ ok0) (s_skip (s_take (s_take (s_take s_nil)))) rfl ?_
  refine o_T (y_gtr rfl rfl) rfl ?_
  refine o_nil1 19 rfl rfl ?_
  refine c_cond rfl (fun h160 => ?_) (fun h160 => ?_)
  · try simp only [decide_eq_true_eq, decide_eq_false_iff_not, Bool.not_eq_true', Bool.not_eq_false', Int.not_lt, Int.not_le, Decidable.not_not, beq_iff_eq, bne_iff_ne, ne_eq, beq_eq_false_iff_ne] at h160
    refine c_seq ?_
    refine c_region ?_
    refine o_L (y_assign rfl) rfl rfl ?_
    refine o_nil0 rfl ?_
    refine c_ret ?_
    refine fun aX wX heX hsX => ret1 Tryz.results213 heX rfl (s_skip (s_take (s_take (s_take s_nil)))) ?_
    have ok9 := Conn.ok_acked ok0 g
    have e1 := acked_hi (c := (⟨x, s, r⟩ : Conn)) (g := g) (by omega)
    rw [e1] at ok9 ⊢
    exact ⟨rfl, rfl, ok9⟩
  · try simp only [decide_eq_true_eq, decide_eq_false_iff_not, Bool.not_eq_true', Bool.not_eq_false', Int.not_lt, Int.not_le, Decidable.not_not, beq_iff_eq, bne_iff_ne, ne_eq, beq_eq_false_iff_ne] at h160
    refine c_skip ?_
    refine c_seq ?_
    refine c_seq ?_
    refine c_region ?_
    refine o_T (y_move rfl) rfl ?_
    refine o_T (y_lss rfl rfl) rfl ?_
    refine o_nil1 21 rfl rfl ?_
    refine c_cond rfl (fun h163 => ?_) (fun h163 => ?_)
    · try simp only [decide_eq_true_eq, decide_eq_false_iff_not, Bool.not_eq_true', Bool.not_eq_false', Int.not_lt, Int.not_le, Decidable.not_not, beq_iff_eq, bne_iff_ne, ne_eq, beq_eq_false_iff_ne] at h163
      refine c_seq ?_
      refine c_region ?_
      refine o_L (y_assign rfl) rfl rfl ?_
      refine o_nil0 rfl ?_
      refine c_ret ?_
      refine fun aX wX heX hsX => ret1 Tryz.results213 heX rfl (s_skip (s_take (s_take (s_take s_nil)))) ?_
      have ok9 := Conn.ok_acked ok0 g
      have e1 := acked_lo (c := (⟨x, s, r⟩ : Conn)) (g := g) (by omega) (by omega)
      rw [e1] at ok9 ⊢
      exact ⟨rfl, rfl, ok9⟩
    · try simp only [decide_eq_true_eq, decide_eq_false_iff_not, Bool.not_eq_true', Bool.not_eq_false', Int.not_lt, Int.not_le, Decidable.not_not, beq_iff_eq, bne_iff_ne, ne_eq, beq_eq_false_iff_ne] at h163
      refine c_skip ?_
      refine c_seq ?_
      refine c_region ?_
      refine o_T (y_move rfl) rfl ?_
      refine o_T (y_fa fl_178_5 rfl) rfl ?_
      refine o_ld one_3 rfl m0 Sg.g5 rfl ?_
      refine o_callv en_198 rfl (t198 _) rfl ?_
      refine o_T (y_nilck rfl) rfl ?_
      refine o_T (y_fa fl_167_9 rfl) rfl ?_
      refine o_st one_3 rfl rfl rfl (rs r0) Cn.s9 (of_blt rfl) ?_
      refine o_nil0 rfl ?_
      refine c_seq ?_
      refine c_region ?_
      refine o_T (y_move rfl) rfl ?_
      refine o_T (y_nilck rfl) rfl ?_
      refine o_T (y_fa fl_167_11 rfl) rfl ?_
      refine o_st one_3 rfl rfl rfl (rs r0) Cn.s11 (of_blt rfl) ?_
      refine o_nil0 rfl ?_
      refine c_seq ?_
      refine c_seq ?_
      refine c_region ?_
      refine o_T (y_move rfl) rfl ?_
      refine o_T (y_eql rfl rfl) rfl ?_
      refine o_nil1 32 rfl rfl ?_
      refine c_cond rfl (fun h168 => ?_) (fun h168 => ?_)
      · try simp only [decide_eq_true_eq, decide_eq_false_iff_not, Bool.not_eq_true', Bool.not_eq_false', Int.not_lt, Int.not_le, Decidable.not_not, beq_iff_eq, bne_iff_ne, ne_eq, beq_eq_false_iff_ne] at h168
        refine c_seq ?_
        refine c_region ?_
        refine o_L (y_assign rfl) rfl rfl ?_
        refine o_nil0 rfl ?_
        refine c_ret ?_
        refine fun aX wX heX hsX => ret1 Tryz.results213 heX rfl (s_skip (s_take (s_take (s_take s_nil)))) ?_
        have ok9 := Conn.ok_acked ok0 g
        have e1 := acked_eq (c := (⟨x, s, r⟩ : Conn)) (g := g) (by omega) (by omega) (by omega)
        rw [e1] at ok9 ⊢
        exact ⟨rfl, rfl, ok9⟩
      · try simp only [decide_eq_true_eq, decide_eq_false_iff_not, Bool.not_eq_true', Bool.not_eq_false', Int.not_lt, Int.not_le, Decidable.not_not, beq_iff_eq, bne_iff_ne, ne_eq, beq_eq_false_iff_ne] at h168
        refine c_skip ?_
        refine c_seq ?_
        refine c_region ?_
        refine o_T (y_move rfl) rfl ?_
        refine o_callrv en_186 rfl (u186 _ ps pr _ rfl rfl _ _ ?_) (s_skip (s_take (s_take (s_take s_nil)))) rfl ?_
        · exact (⟨(by constructor <;> first | assumption | (dsimp only [Cn.cs]; omega) | (dsimp only [Cn.cs]; assumption)), by assumption, by assumption⟩)
        refine o_L (y_assign rfl) rfl rfl ?_
        refine o_nil0 rfl ?_
        refine c_seq ?_
        refine c_seq ?_
        refine c_region ?_
        refine o_T (y_move rfl) rfl ?_
        refine o_T (y_move rfl) rfl ?_
        refine o_T (y_gtr rfl rfl) rfl ?_
        refine o_nil1 37 rfl rfl ?_
        refine c_cond rfl (fun h172 => ?_) (fun h172 => ?_)
        · try simp only [decide_eq_true_eq, decide_eq_false_iff_not, Bool.not_eq_true', Bool.not_eq_false', Int.not_lt, Int.not_le, Decidable.not_not, beq_iff_eq, bne_iff_ne, ne_eq, beq_eq_false_iff_ne] at h172
          refine c_region ?_
          refine o_T (y_move rfl) rfl ?_
          refine o_T (y_nilck rfl) rfl ?_
          refine o_T (y_fa fl_167_6 rfl) rfl ?_
          refine o_st one_4 rfl rfl rfl (rs r0) Cn.s6 (of_blt rfl) ?_
          refine o_nil0 rfl ?_
          refine c_seq ?_
          refine c_region ?_
          refine o_T (y_move rfl) rfl ?_
          refine o_T (y_nilck rfl) rfl ?_
          refine o_T (y_fa fl_167_0 rfl) rfl ?_
          refine o_ld one_102 rfl (ms m0) Cn.g0 rfl ?_
          refine o_callrv en_142 rfl (t142 _ _ (by assumption)) (s_skip (s_skip (s_take s_nil))) rfl ?_
          refine o_L (y_assign rfl) rfl rfl ?_
          refine o_nil0 rfl ?_
          refine c_seq ?_
          refine c_region ?_
          refine o_T (y_move rfl) rfl ?_
          refine o_T (y_move rfl) rfl ?_
          refine o_callv en_143 rfl (t143 _ _) rfl ?_
          refine o_L (y_assign rfl) rfl rfl ?_
          refine o_nil0 rfl ?_
          refine c_seq ?_
          refine c_region ?_
          refine o_T (y_move rfl) rfl ?_
          refine o_T (y_nilck rfl) rfl ?_
          refine o_T (y_fa fl_167_0 rfl) rfl ?_
          refine o_ld one_102 rfl (ms m0) Cn.g0 rfl ?_
          refine o_T (y_move rfl) rfl ?_
          refine o_call en_217 rfl (t217 _ _ _ (by assumption)) (s_skip (s_skip (s_take s_nil))) rfl ?_
          rintro v S' ⟨rfl, rfl, hk_1⟩
          refine o_nil0 rfl ?_
          refine c_seq ?_
          refine c_region ?_
          refine o_T (y_move rfl) rfl ?_
          refine o_T (y_nilck rfl) rfl ?_
          refine o_T (y_fa fl_167_10 rfl) rfl ?_
          refine o_st one_3 rfl rfl rfl (rs (rs r0)) Cn.s10 (of_blt rfl) ?_
          refine o_nil0 rfl ?_
          refine c_seq ?_
          refine c_seq ?_
          refine c_region ?_
          refine o_T (y_move rfl) rfl ?_
          refine o_callrv en_144 rfl (u144 _ ps pr _ rfl rfl _ _ ?_) (s_get (ks (ks k0)) (s_get k0 (s_get (ks k0) s_nil))) rfl ?_
          · exact (⟨(by constructor <;> first | assumption | (dsimp only [Cn.cs]; omega) | (dsimp only [Cn.cs]; assumption)), by assumption, by assumption⟩)
          refine o_T (y_gtr rfl rfl) rfl ?_
          refine o_nil1 61 rfl rfl ?_
          refine c_cond rfl (fun h181 => ?_) (fun h181 => ?_)
          · try simp only [decide_eq_true_eq, decide_eq_false_iff_not, Bool.not_eq_true', Bool.not_eq_false', Int.not_lt, Int.not_le, Decidable.not_not, beq_iff_eq, bne_iff_ne, ne_eq, beq_eq_false_iff_ne] at h181
            refine c_region ?_
            refine o_T (y_move rfl) rfl ?_
            refine o_call en_167 rfl (u167 _ ps pr _ rfl rfl ?_) (s_skip (s_skip (s_take s_nil))) rfl ?_
            · constructor <;> first | assumption | (dsimp only [Cn.cs]; omega) | (dsimp only [Cn.cs]; assumption)
            rintro v S' ⟨rfl, rfl⟩
            refine o_nil0 rfl ?_
            refine c_seq ?_
            refine c_region ?_
            refine o_L (y_assign rfl) rfl rfl ?_
            refine o_nil0 rfl ?_
            refine c_ret ?_
            refine fun aX wX heX hsX => ret1 Tryz.results213 heX rfl (s_take (s_take (s_skip (s_take s_nil)))) ?_
            have ok9 := Conn.ok_acked ok0 g
            have e1 := acked_gt (c := (⟨x, s, r⟩ : Conn)) (g := g) (by omega) (by omega) (by omega)
            have e0 := ack0_fin (c := (⟨x, s, r⟩ : Conn)) (d := (seqDiff g.ack (⟨x, s, r⟩ : Conn).sndUna)) (w := g.wnd) (by dsimp only; omega)
            have e2 := ackd_t (c := (⟨x, s, r⟩ : Conn)) (d := (seqDiff g.ack (⟨x, s, r⟩ : Conn).sndUna)) (w := g.wnd) (by rw [e0]; exact h181)
            rw [e0] at e2
            rw [e1, e2] at ok9 ⊢
            exact ⟨rfl, rfl, ok9⟩
          · try simp only [decide_eq_true_eq, decide_eq_false_iff_not, Bool.not_eq_true', Bool.not_eq_false', Int.not_lt, Int.not_le, Decidable.not_not, beq_iff_eq, bne_iff_ne, ne_eq, beq_eq_false_iff_ne] at h181
            refine c_skip ?_
            refine c_seq ?_
            refine c_region ?_
            refine o_L (y_assign rfl) rfl rfl ?_
            refine o_nil0 rfl ?_
            refine c_ret ?_
            refine fun aX wX heX hsX => ret1 Tryz.results213 heX rfl (s_get (ks (ks k0)) (s_get k0 (s_get (ks k0) s_nil))) ?_
            have ok9 := Conn.ok_acked ok0 g
            have e1 := acked_gt (c := (⟨x, s, r⟩ : Conn)) (g := g) (by omega) (by omega) (by omega)
            have e0 := ack0_fin (c := (⟨x, s, r⟩ : Conn)) (d := (seqDiff g.ack (⟨x, s, r⟩ : Conn).sndUna)) (w := g.wnd) (by dsimp only; omega)
            have e2 := ackd_f (c := (⟨x, s, r⟩ : Conn)) (d := (seqDiff g.ack (⟨x, s, r⟩ : Conn).sndUna)) (w := g.wnd) (by rw [e0]; exact Int.not_lt.2 h181)
            rw [e0] at e2
            rw [e1, e2] at ok9 ⊢
            exact ⟨rfl, rfl, ok9⟩
        · try simp only [decide_eq_true_eq, decide_eq_false_iff_not, Bool.not_eq_true', Bool.not_eq_false', Int.not_lt, Int.not_le, Decidable.not_not, beq_iff_eq, bne_iff_ne, ne_eq, beq_eq_false_iff_ne] at h172
          refine c_region ?_
          refine o_T (y_move rfl) rfl ?_
          refine o_L (y_assign rfl) rfl rfl ?_
          refine o_nil0 rfl ?_
          refine c_seq ?_
          refine c_region ?_
          refine o_T (y_move rfl) rfl ?_
          refine o_T (y_nilck rfl) rfl ?_
          refine o_T (y_fa fl_167_0 rfl) rfl ?_
          refine o_ld one_102 rfl (ms m0) Cn.g0 rfl ?_
          refine o_callrv en_142 rfl (t142 _ _ (by assumption)) (s_skip (s_skip (s_take s_nil))) rfl ?_
          refine o_L (y_assign rfl) rfl rfl ?_
          refine o_nil0 rfl ?_
          refine c_seq ?_
          refine c_region ?_
          refine o_T (y_move rfl) rfl ?_
          refine o_T (y_move rfl) rfl ?_
          refine o_callv en_143 rfl (t143 _ _) rfl ?_
          refine o_L (y_assign rfl) rfl rfl ?_
          refine o_nil0 rfl ?_
          refine c_seq ?_
          refine c_region ?_
          refine o_T (y_move rfl) rfl ?_
          refine o_T (y_nilck rfl) rfl ?_
          refine o_T (y_fa fl_167_0 rfl) rfl ?_
          refine o_ld one_102 rfl (ms m0) Cn.g0 rfl ?_
          refine o_T (y_move rfl) rfl ?_
          refine o_call en_217 rfl (t217 _ _ _ (by assumption)) (s_skip (s_skip (s_take s_nil))) rfl ?_
          rintro v S' ⟨rfl, rfl, hk_2⟩
          refine o_nil0 rfl ?_
          refine c_seq ?_
          refine c_region ?_
          refine o_T (y_move rfl) rfl ?_
          refine o_T (y_nilck rfl) rfl ?_
          refine o_T (y_fa fl_167_10 rfl) rfl ?_
          refine o_st one_3 rfl rfl rfl (rs (rs r0)) Cn.s10 (of_blt rfl) ?_
          refine o_nil0 rfl ?_
          refine c_seq ?_
          refine c_seq ?_
          refine c_region ?_
          refine o_T (y_move rfl) rfl ?_
          refine o_callrv en_144 rfl (u144 _ ps pr _ rfl rfl _ _ ?_) (s_get (ks (ks k0)) (s_get k0 (s_get (ks k0) s_nil))) rfl ?_
          · exact (⟨(by constructor <;> first | assumption | (dsimp only [Cn.cs]; omega) | (dsimp only [Cn.cs]; assumption)), by assumption, by assumption⟩)
          refine o_T (y_gtr rfl rfl) rfl ?_
          refine o_nil1 61 rfl rfl ?_
          refine c_cond rfl (fun h181 => ?_) (fun h181 => ?_)
          · try simp only [decide_eq_true_eq, decide_eq_false_iff_not, Bool.not_eq_true', Bool.not_eq_false', Int.not_lt, Int.not_le, Decidable.not_not, beq_iff_eq, bne_iff_ne, ne_eq, beq_eq_false_iff_ne] at h181
            refine c_region ?_
            refine o_T (y_move rfl) rfl ?_
            refine o_call en_167 rfl (u167 _ ps pr _ rfl rfl ?_) (s_skip (s_skip (s_take s_nil))) rfl ?_
            · constructor <;> first | assumption | (dsimp only [Cn.cs]; omega) | (dsimp only [Cn.cs]; assumption)
            rintro v S' ⟨rfl, rfl⟩
            refine o_nil0 rfl ?_
            refine c_seq ?_
            refine c_region ?_
            refine o_L (y_assign rfl) rfl rfl ?_
            refine o_nil0 rfl ?_
            refine c_ret ?_
            refine fun aX wX heX hsX => ret1 Tryz.results213 heX rfl (s_take (s_take (s_skip (s_take s_nil)))) ?_
            have ok9 := Conn.ok_acked ok0 g
            have e1 := acked_gt (c := (⟨x, s, r⟩ : Conn)) (g := g) (by omega) (by omega) (by omega)
            have e0 := ack0_dat (c := (⟨x, s, r⟩ : Conn)) (d := (seqDiff g.ack (⟨x, s, r⟩ : Conn).sndUna)) (w := g.wnd) (by dsimp only; omega)
            have e2 := ackd_t (c := (⟨x, s, r⟩ : Conn)) (d := (seqDiff g.ack (⟨x, s, r⟩ : Conn).sndUna)) (w := g.wnd) (by rw [e0]; exact h181)
            rw [e0] at e2
            rw [e1, e2] at ok9 ⊢
            exact ⟨rfl, rfl, ok9⟩
          · try simp only [decide_eq_true_eq, decide_eq_false_iff_not, Bool.not_eq_true', Bool.not_eq_false', Int.not_lt, Int.not_le, Decidable.not_not, beq_iff_eq, bne_iff_ne, ne_eq, beq_eq_false_iff_ne] at h181
            refine c_skip ?_
            refine c_seq ?_
            refine c_region ?_
            refine o_L (y_assign rfl) rfl rfl ?_
            refine o_nil0 rfl ?_
            refine c_ret ?_
            refine fun aX wX heX hsX => ret1 Tryz.results213 heX rfl (s_get (ks (ks k0)) (s_get k0 (s_get (ks k0) s_nil))) ?_
            have ok9 := Conn.ok_acked ok0 g
            have e1 := acked_gt (c := (⟨x, s, r⟩ : Conn)) (g := g) (by omega) (by omega) (by omega)
            have e0 := ack0_dat (c := (⟨x, s, r⟩ : Conn)) (d := (seqDiff g.ack (⟨x, s, r⟩ : Conn).sndUna)) (w := g.wnd) (by dsimp only; omega)
            have e2 := ackd_f (c := (⟨x, s, r⟩ : Conn)) (d := (seqDiff g.ack (⟨x, s, r⟩ : Conn).sndUna)) (w := g.wnd) (by rw [e0]; exact Int.not_lt.2 h181)
            rw [e0] at e2
            rw [e1, e2] at ok9 ⊢
            exact ⟨rfl, rfl, ok9⟩
theorem u213 (b ps pr : Nat) (k : Cn) (hk1 : k.sb = ptr ps) (hk2 : k.rb = ptr pr) (s : Sb) (r : Rb) (b2 : Nat) (g : Seg) (ok : Conn.Ok ⟨(Cn.cs k), s, r⟩) : Trip Tryz.prog 213 #[.pointer (some ⟨b, 0, none⟩), .agg (segC b2 g).enc] [[(b, .cells k.enc 167 (0, 0))], [(ps, .cells s.enc 162 (0, 0))], [(pr, .cells r.enc 165 (0, 0))]] (fun u S' => u = .bool (Conn.acked ⟨(Cn.cs k), s, r⟩ g).1 ∧ S' = [[(b, .cells (((Conn.acked ⟨(Cn.cs k), s, r⟩ g).2).x.cn ps pr).enc 167 (0, 0))], [(ps, .cells ((Conn.acked ⟨(Cn.cs k), s, r⟩ g).2).s.enc 162 (0, 0))], [(pr, .cells ((Conn.acked ⟨(Cn.cs k), s, r⟩ g).2).r.enc 165 (0, 0))]] ∧ ((Conn.acked ⟨(Cn.cs k), s, r⟩ g).2).Ok) := by
  obtain ⟨a1, a2, a3, a4, a5, a6, a7, a8, a9, a10, a11, a12, a13, a14⟩ := k
  dsimp only at hk1 hk2
  subst hk1 hk2
  exact t213 b ps pr (Cs.mk a3 a4 a5 a6 a7 a8 a9 a10 a11 a12 a13 a14) s r b2 g ok

/-- (*e2e/conn.Conn).take -/
theorem t214 (b ps pr : Nat) (x : Cs) (s : Sb) (r : Rb) (b2 : Nat) (g : Seg) (ok : Conn.Ok ⟨x, s, r⟩) (hg : g.Ok) : Trip Tryz.prog 214 #[.pointer (some ⟨b, 0, none⟩), .agg (segC b2 g).enc] [[(b, .cells (x.cn ps pr).enc 167 (0, 0))], [(ps, .cells s.enc 162 (0, 0))], [(pr, .cells r.enc 165 (0, 0))], byG b2 g.data 5] (fun u S' => u = .tuple #[] ∧ S' = [[(b, .cells ((Conn.take ⟨x, s, r⟩ g).x.cn ps pr).enc 167 (0, 0))], [(ps, .cells (Conn.take ⟨x, s, r⟩ g).s.enc 162 (0, 0))], [(pr, .cells (Conn.take ⟨x, s, r⟩ g).r.enc 165 (0, 0))], byG b2 g.data 5] ∧ (Conn.take ⟨x, s, r⟩ g).Ok) := by
  have ok0 := ok
  have okS : s.Ok := ok.s
  have okR : r.Ok := ok.r
  obtain ⟨x1, x2, x3, x4, x5, x6, x7⟩ := ok.x
  obtain ⟨k1, k2, k3, k4, k5, k6, k7, k8⟩ := ok.s
  obtain ⟨j1, j2, j3, j4, j5, j6, j7, j8⟩ := ok.r
  dsimp only at x1 x2 x3 x4 x5 x6 x7 k1 k2 k3 k4 k5 k6 k7 k8 j1 j2 j3 j4 j5 j6 j7 j8
  have hd := BytAt.full hg.bytes (by have := hg.len; omega)
  have hg0 := hg.seq
  have hg1 := hg.len
  have okI := Rb.ok_ins okR g.seq hg.bytes
  refine fn_entry (args := [.pointer (some ⟨b, 0, none⟩), .agg (segC b2 g).enc]) Tryz.func214 rfl Tryz.ntmps214 rfl (fun w0 => ?_)
  refine c_seq ?_
  refine c_region ?_
  refine o_box rfl rfl rfl rfl (fun b_1 => ?_)
  refine o_nil0 rfl ?_
  refine c_seq ?_
  refine c_seq ?_
  refine c_region ?_
  refine o_T (y_move rfl) rfl ?_
  refine o_T (y_nilck rfl) rfl ?_
  refine o_T (y_fa fl_167_7 rfl) rfl ?_
  refine o_ld one_4 rfl (ms m0) Cn.g7 rfl ?_
  refine o_nil1 8 rfl rfl ?_
  refine c_cond rfl (fun h189 => ?_) (fun h189 => ?_)
  · try simp only [decide_eq_true_eq, decide_eq_false_iff_not, Bool.not_eq_true', Bool.not_eq_false', Int.not_lt, Int.not_le, Decidable.not_not, beq_iff_eq, bne_iff_ne, ne_eq, beq_eq_false_iff_ne] at h189
    refine c_ret ?_
    refine fun aX wX heX hsX => ret0 Tryz.results214 (s_skip (s_take (s_take (s_take (s_take s_nil))))) ?_
    have ok9 := Conn.ok_take ok0 hg
    have e1 : (⟨x, s, r⟩ : Conn).take g = (⟨x, s, r⟩ : Conn) := by simp only [Conn.take]; rw [if_pos h189]
    rw [e1] at ok9 ⊢
    exact ⟨rfl, rfl, ok9⟩
  · try simp only [decide_eq_true_eq, decide_eq_false_iff_not, Bool.not_eq_true', Bool.not_eq_false', Int.not_lt, Int.not_le, Decidable.not_not, beq_iff_eq, bne_iff_ne, ne_eq, beq_eq_false_iff_ne] at h189
    refine c_skip ?_
    refine c_seq ?_
    refine c_draw #[true, true, true, true, true, true, true, true, false] rfl (n := 9) rfl ?_
    refine d_T 0 rfl (by kernel_rfl) rfl (y_move rfl) rfl ?_
    refine d_T 1 rfl (by kernel_rfl) rfl (y_nilck rfl) rfl ?_
    refine d_T 2 rfl (by kernel_rfl) rfl (y_fa fl_167_1 rfl) rfl ?_
    refine d_ld 3 rfl (by kernel_rfl) one_104 rfl (fun x hx => hx) (ms m0) Cn.g1 rfl ?_
    refine d_T 4 rfl (by kernel_rfl) rfl (y_fa fl_178_2 rfl) rfl ?_
    refine d_ld 5 rfl (by kernel_rfl) one_3 rfl (fun x hx => hx) m0 Sg.g2 rfl ?_
    refine d_T 6 rfl (by kernel_rfl) rfl (y_fa fl_178_6 rfl) rfl ?_
    refine d_ld 7 rfl (by kernel_rfl) one_81 rfl (fun x hx => hx) m0 Sg.g6 rfl ?_
    refine d_hard 8 rfl (by kernel_rfl) ?_
    refine o_call en_218 rfl (t218 _ _ _ _ _ _ _ _ _ _ (by assumption) hd) (s_skip (s_skip (s_skip (s_take (s_take s_nil))))) rfl ?_
    rintro v S' ⟨rfl, rfl⟩
    refine o_stop (fun h => nomatch h) ?_
    refine d_nil0 (by kernel_rfl) rfl ?_
    refine c_seq ?_
    refine c_seq ?_
    refine c_region ?_
    refine o_T (y_fa fl_178_4 rfl) rfl ?_
    refine o_ld one_3 rfl (ms (ms m0)) Sg.g4 rfl ?_
    refine o_T (y_and rfl rfl (fl4 hg.flags)) rfl ?_
    refine o_T (y_eql rfl rfl) rfl ?_
    refine o_T (y_move rfl) rfl ?_
    refine o_split 22 rfl (fun h193 => ?_) (fun h193 => ?_)
    · try simp only [decide_eq_true_eq, decide_eq_false_iff_not, Bool.not_eq_true', Bool.not_eq_false', Int.not_lt, Int.not_le, Decidable.not_not, beq_iff_eq, bne_iff_ne, ne_eq, beq_eq_false_iff_ne] at h193
      refine o_pass rfl rfl rfl rfl rfl ?_
      refine o_pass rfl rfl rfl rfl rfl ?_
      refine o_pass rfl rfl rfl rfl rfl ?_
      refine o_pass rfl rfl rfl rfl rfl ?_
      refine o_T (y_pickT rfl rfl) rfl ?_
      refine o_nil1 27 rfl rfl ?_
      refine c_condT rfl ?_
      refine c_ret ?_
      refine fun aX wX heX hsX => ret0 Tryz.results214 (s_get (ks (ks (ks k0))) (s_get (ks (ks (ks k0))) (s_get k0 (s_get k0 s_nil)))) ?_
      have ok9 := Conn.ok_take ok0 hg
      have e1 : (⟨x, s, r⟩ : Conn).take g = ⟨x, s, (r.ins g.seq g.data).1⟩ := by simp only [Conn.take]; rw [if_neg (by simp [h189]), if_pos (.inl h193)]
      rw [e1] at ok9 ⊢
      exact ⟨rfl, rfl, ok9⟩
    · try simp only [decide_eq_true_eq, decide_eq_false_iff_not, Bool.not_eq_true', Bool.not_eq_false', Int.not_lt, Int.not_le, Decidable.not_not, beq_iff_eq, bne_iff_ne, ne_eq, beq_eq_false_iff_ne] at h193
      refine o_take rfl rfl rfl ?_
      refine o_T (y_fa fl_178_6 rfl) rfl ?_
      refine o_take rfl rfl rfl ?_
      refine o_ld one_81 rfl (ms (ms m0)) Sg.g6 rfl ?_
      refine o_take rfl rfl rfl ?_
      refine o_T (y_len Tryz.underlying81 rfl) rfl ?_
      refine o_take rfl rfl rfl ?_
      refine o_T (y_gtr rfl rfl) rfl ?_
      refine o_T (y_pickF rfl rfl) rfl ?_
      refine o_nil1 27 rfl rfl ?_
      refine c_cond rfl (fun h193_1 => ?_) (fun h193_1 => ?_)
      · try simp only [decide_eq_true_eq, decide_eq_false_iff_not, Bool.not_eq_true', Bool.not_eq_false', Int.not_lt, Int.not_le, Decidable.not_not, beq_iff_eq, bne_iff_ne, ne_eq, beq_eq_false_iff_ne] at h193_1
        exfalso; omega
      · try simp only [decide_eq_true_eq, decide_eq_false_iff_not, Bool.not_eq_true', Bool.not_eq_false', Int.not_lt, Int.not_le, Decidable.not_not, beq_iff_eq, bne_iff_ne, ne_eq, beq_eq_false_iff_ne] at h193_1
        refine c_skip ?_
        refine c_seq ?_
        refine c_region ?_
        refine o_T (y_fa fl_178_2 rfl) rfl ?_
        refine o_ld one_3 rfl (ms (ms m0)) Sg.g2 rfl ?_
        refine o_T (y_fa fl_178_6 rfl) rfl ?_
        refine o_ld one_81 rfl (ms (ms m0)) Sg.g6 rfl ?_
        refine o_T (y_len Tryz.underlying81 rfl) rfl ?_
        refine o_callv en_143 rfl (t143 _ _) rfl ?_
        refine o_L (y_assign rfl) rfl rfl ?_
        refine o_nil0 rfl ?_
        refine c_seq ?_
        refine c_region ?_
        refine o_T (y_move rfl) rfl ?_
        refine o_T (y_move rfl) rfl ?_
        refine o_T (y_nilck rfl) rfl ?_
        refine o_T (y_fa fl_167_1 rfl) rfl ?_
        refine o_ld one_104 rfl (ms (ms (ms m0))) Cn.g1 rfl ?_
        refine o_callrv en_145 rfl (t145 _ _ (by assumption)) (s_take s_nil) rfl ?_
        refine o_T (y_eql rfl rfl) rfl ?_
        refine o_nil1 40 rfl rfl ?_
        refine c_cond rfl (fun h197 => ?_) (fun h197 => ?_)
        · try simp only [decide_eq_true_eq, decide_eq_false_iff_not, Bool.not_eq_true', Bool.not_eq_false', Int.not_lt, Int.not_le, Decidable.not_not, beq_iff_eq, bne_iff_ne, ne_eq, beq_eq_false_iff_ne] at h197
          refine c_region ?_
          refine o_T (y_move rfl) rfl ?_
          refine o_T (y_nilck rfl) rfl ?_
          refine o_T (y_fa fl_167_7 rfl) rfl ?_
          refine o_st one_4 rfl rfl rfl (rs (rs (rs r0))) Cn.s7 (of_blt rfl) ?_
          refine o_nil0 rfl ?_
          refine fun aX wX heX hsX => ret0 Tryz.results214 (s_get (ks (ks (ks k0))) (s_get (ks (ks (ks k0))) (s_get k0 (s_get k0 s_nil)))) ?_
          have ok9 := Conn.ok_take ok0 hg
          have e1 : (⟨x, s, r⟩ : Conn).take g = ⟨{ x with peerFin := true }, s, (r.ins g.seq g.data).1⟩ := by simp only [Conn.take]; rw [if_neg (by simp [h189]), if_neg (by omega), if_pos h197]
          rw [e1] at ok9 ⊢
          exact ⟨rfl, rfl, ok9⟩
        · try simp only [decide_eq_true_eq, decide_eq_false_iff_not, Bool.not_eq_true', Bool.not_eq_false', Int.not_lt, Int.not_le, Decidable.not_not, beq_iff_eq, bne_iff_ne, ne_eq, beq_eq_false_iff_ne] at h197
          refine c_skip ?_
          refine fun aX wX heX hsX => ret0 Tryz.results214 (s_get (ks (ks (ks k0))) (s_get (ks (ks (ks k0))) (s_get k0 (s_get k0 s_nil)))) ?_
          have ok9 := Conn.ok_take ok0 hg
          have e1 : (⟨x, s, r⟩ : Conn).take g = ⟨x, s, (r.ins g.seq g.data).1⟩ := by simp only [Conn.take]; rw [if_neg (by simp [h189]), if_neg (by omega), if_neg h197]
          rw [e1] at ok9 ⊢
          exact ⟨rfl, rfl, ok9⟩
theorem u214 (b ps pr : Nat) (k : Cn) (hk1 : k.sb = ptr ps) (hk2 : k.rb = ptr pr) (s : Sb) (r : Rb) (b2 : Nat) (g : Seg) (ok : Conn.Ok ⟨(Cn.cs k), s, r⟩) (hg : g.Ok) : Trip Tryz.prog 214 #[.pointer (some ⟨b, 0, none⟩), .agg (segC b2 g).enc] [[(b, .cells k.enc 167 (0, 0))], [(ps, .cells s.enc 162 (0, 0))], [(pr, .cells r.enc 165 (0, 0))], byG b2 g.data 5] (fun u S' => u = .tuple #[] ∧ S' = [[(b, .cells ((Conn.take ⟨(Cn.cs k), s, r⟩ g).x.cn ps pr).enc 167 (0, 0))], [(ps, .cells (Conn.take ⟨(Cn.cs k), s, r⟩ g).s.enc 162 (0, 0))], [(pr, .cells (Conn.take ⟨(Cn.cs k), s, r⟩ g).r.enc 165 (0, 0))], byG b2 g.data 5] ∧ (Conn.take ⟨(Cn.cs k), s, r⟩ g).Ok) := by
  obtain ⟨a1, a2, a3, a4, a5, a6, a7, a8, a9, a10, a11, a12, a13, a14⟩ := k
  dsimp only at hk1 hk2
  subst hk1 hk2
  exact t214 b ps pr (Cs.mk a3 a4 a5 a6 a7 a8 a9 a10 a11 a12 a13 a14) s r b2 g ok hg

/-- (*e2e/conn.Conn).inQuiet -/
theorem t193 (b ps pr : Nat) (x : Cs) (s : Sb) (r : Rb) (b2 : Nat) (g : Seg) (ok : Conn.Ok ⟨x, s, r⟩) (hg : g.Ok) : Trip Tryz.prog 193 #[.pointer (some ⟨b, 0, none⟩), .agg (segC b2 g).enc] [[(b, .cells (x.cn ps pr).enc 167 (0, 0))], [(ps, .cells s.enc 162 (0, 0))], [(pr, .cells r.enc 165 (0, 0))]] (fun u S' => ∃ gv gd, Segs u ((⟨x, s, r⟩ : Conn).inQuiet g) gv gd ∧ S' = [gv, gd, [(b, .cells (x.cn ps pr).enc 167 (0, 0))], [(ps, .cells s.enc 162 (0, 0))], [(pr, .cells r.enc 165 (0, 0))]]) := by
  have ok0 := ok
  have okS : s.Ok := ok.s
  have okR : r.Ok := ok.r
  obtain ⟨x1, x2, x3, x4, x5, x6, x7⟩ := ok.x
  obtain ⟨k1, k2, k3, k4, k5, k6, k7, k8⟩ := ok.s
  obtain ⟨j1, j2, j3, j4, j5, j6, j7, j8⟩ := ok.r
  dsimp only at x1 x2 x3 x4 x5 x6 x7 k1 k2 k3 k4 k5 k6 k7 k8 j1 j2 j3 j4 j5 j6 j7 j8
  refine fn_entry (args := [.pointer (some ⟨b, 0, none⟩), .agg (segC b2 g).enc]) Tryz.func193 rfl Tryz.ntmps193 rfl (fun w0 => ?_)
  refine c_seq ?_
  refine c_region ?_
  refine o_box rfl rfl rfl rfl (fun b_1 => ?_)
  refine o_L (y_assign rfl) rfl rfl ?_
  refine o_nil0 rfl ?_
  refine c_seq ?_
  refine c_seq ?_
  refine c_region ?_
  refine o_T (y_move rfl) rfl ?_
  refine o_T (y_nilck rfl) rfl ?_
  refine o_T (y_fa fl_167_3 rfl) rfl ?_
  refine o_ld one_70 rfl (ms m0) Cn.g3 rfl ?_
  refine o_T (y_eql rfl rfl) rfl ?_
  refine o_T (y_move rfl) rfl ?_
  refine o_split 11 rfl (fun h68 => ?_) (fun h68 => ?_)
  · try simp only [decide_eq_true_eq, decide_eq_false_iff_not, Bool.not_eq_true', Bool.not_eq_false', Int.not_lt, Int.not_le, Decidable.not_not, beq_iff_eq, bne_iff_ne, ne_eq, beq_eq_false_iff_ne] at h68
    refine o_take rfl rfl rfl ?_
    refine o_T (y_fa fl_178_4 rfl) rfl ?_
    refine o_take rfl rfl rfl ?_
    refine o_ld one_3 rfl m0 Sg.g4 rfl ?_
    refine o_take rfl rfl rfl ?_
    refine o_T (y_and rfl rfl (fl8 hg.flags)) rfl ?_
    refine o_take rfl rfl rfl ?_
    refine o_T (y_eql rfl rfl) rfl ?_
    refine o_T (y_pickT rfl rfl) rfl ?_
    refine o_T (y_move rfl) rfl ?_
    refine o_split 17 rfl (fun h68_1 => ?_) (fun h68_1 => ?_)
    · try simp only [decide_eq_true_eq, decide_eq_false_iff_not, Bool.not_eq_true', Bool.not_eq_false', Int.not_lt, Int.not_le, Decidable.not_not, beq_iff_eq, bne_iff_ne, ne_eq, beq_eq_false_iff_ne] at h68_1
      refine o_take rfl rfl rfl ?_
      refine o_T (y_fa fl_178_4 rfl) rfl ?_
      refine o_take rfl rfl rfl ?_
      refine o_ld one_3 rfl m0 Sg.g4 rfl ?_
      refine o_take rfl rfl rfl ?_
      refine o_T (y_and rfl rfl (fl4 hg.flags)) rfl ?_
      refine o_take rfl rfl rfl ?_
      refine o_T (y_neq rfl rfl) rfl ?_
      refine o_take rfl rfl rfl ?_
      refine o_T (y_move rfl) rfl ?_
      refine o_split 22 rfl (fun h68_2 => ?_) (fun h68_2 => ?_)
      · try simp only [decide_eq_true_eq, decide_eq_false_iff_not, Bool.not_eq_true', Bool.not_eq_false', Int.not_lt, Int.not_le, Decidable.not_not, beq_iff_eq, bne_iff_ne, ne_eq, beq_eq_false_iff_ne] at h68_2
        refine o_pass rfl rfl rfl rfl rfl ?_
        refine o_pass rfl rfl rfl rfl rfl ?_
        refine o_pass rfl rfl rfl rfl rfl ?_
        refine o_pass rfl rfl rfl rfl rfl ?_
        refine o_take rfl rfl rfl ?_
        refine o_T (y_pickT rfl rfl) rfl ?_
        refine o_T (y_pickT rfl rfl) rfl ?_
        refine o_nil1 28 rfl rfl ?_
        refine c_condT rfl ?_
        refine c_seq ?_
        refine c_region ?_
        refine o_T (y_move rfl) rfl ?_
        refine o_call en_184 rfl (t184 _ ps pr x _ _ ok0) (s_skip (s_take (s_take (s_take s_nil)))) rfl ?_
        rintro v S' ⟨b_2, rfl, rfl⟩
        refine o_alloc ze_178 rfl rfl (fun b_3 => ?_)
        refine o_sta ag_178 rfl rfl rfl rfl r0 (setAll_full _ _ rfl) (of_ble rfl) ?_
        refine o_nil0 rfl ?_
        refine c_seq ?_
        refine c_region ?_
        refine o_ldw ag_178 rfl m0 rfl rfl ?_
        refine o_call en_179 rfl (t179 _ _) (s_skip (s_take s_nil)) rfl ?_
        rintro v S' ⟨gv_1, hl_1, rfl⟩
        refine o_L (y_assign rfl) rfl rfl ?_
        refine o_nil0 rfl ?_
        refine c_ret ?_
        refine fun aX wX heX hsX => ret1 Tryz.results193 heX rfl (s_take (s_take (s_skip (s_take (s_take (s_take s_nil)))))) ?_
        have e1 : (⟨x, s, r⟩ : Conn).inQuiet g = [(⟨x, s, r⟩ : Conn).ack] := by unfold Conn.inQuiet; (repeat' split) <;> first | rfl | (exfalso; omega) | (simp_all; done)
        rw [e1]
        exact ⟨_, _, hl_1, rfl⟩
      · try simp only [decide_eq_true_eq, decide_eq_false_iff_not, Bool.not_eq_true', Bool.not_eq_false', Int.not_lt, Int.not_le, Decidable.not_not, beq_iff_eq, bne_iff_ne, ne_eq, beq_eq_false_iff_ne] at h68_2
        refine o_take rfl rfl rfl ?_
        refine o_T (y_fa fl_178_6 rfl) rfl ?_
        refine o_take rfl rfl rfl ?_
        refine o_ld one_81 rfl m0 Sg.g6 rfl ?_
        refine o_take rfl rfl rfl ?_
        refine o_T (y_len Tryz.underlying81 rfl) rfl ?_
        refine o_take rfl rfl rfl ?_
        refine o_T (y_gtr rfl rfl) rfl ?_
        refine o_take rfl rfl rfl ?_
        refine o_T (y_pickF rfl rfl) rfl ?_
        refine o_T (y_pickT rfl rfl) rfl ?_
        refine o_nil1 28 rfl rfl ?_
        refine c_cond rfl (fun h68_3 => ?_) (fun h68_3 => ?_)
        · try simp only [decide_eq_true_eq, decide_eq_false_iff_not, Bool.not_eq_true', Bool.not_eq_false', Int.not_lt, Int.not_le, Decidable.not_not, beq_iff_eq, bne_iff_ne, ne_eq, beq_eq_false_iff_ne] at h68_3
          refine c_seq ?_
          refine c_region ?_
          refine o_T (y_move rfl) rfl ?_
          refine o_call en_184 rfl (t184 _ ps pr x _ _ ok0) (s_skip (s_take (s_take (s_take s_nil)))) rfl ?_
          rintro v S' ⟨b_4, rfl, rfl⟩
          refine o_alloc ze_178 rfl rfl (fun b_5 => ?_)
          refine o_sta ag_178 rfl rfl rfl rfl r0 (setAll_full _ _ rfl) (of_ble rfl) ?_
          refine o_nil0 rfl ?_
          refine c_seq ?_
          refine c_region ?_
          refine o_ldw ag_178 rfl m0 rfl rfl ?_
          refine o_call en_179 rfl (t179 _ _) (s_skip (s_take s_nil)) rfl ?_
          rintro v S' ⟨gv_2, hl_2, rfl⟩
          refine o_L (y_assign rfl) rfl rfl ?_
          refine o_nil0 rfl ?_
          refine c_ret ?_
          refine fun aX wX heX hsX => ret1 Tryz.results193 heX rfl (s_take (s_take (s_skip (s_take (s_take (s_take s_nil)))))) ?_
          have e1 : (⟨x, s, r⟩ : Conn).inQuiet g = [(⟨x, s, r⟩ : Conn).ack] := by unfold Conn.inQuiet; (repeat' split) <;> first | rfl | (exfalso; omega) | (simp_all; done)
          rw [e1]
          exact ⟨_, _, hl_2, rfl⟩
        · try simp only [decide_eq_true_eq, decide_eq_false_iff_not, Bool.not_eq_true', Bool.not_eq_false', Int.not_lt, Int.not_le, Decidable.not_not, beq_iff_eq, bne_iff_ne, ne_eq, beq_eq_false_iff_ne] at h68_3
          refine c_skip ?_
          refine c_seq ?_
          refine c_region ?_
          refine o_lbs0 (R := segR) sz_185 rfl (fun v_1 gv_3 hl_3 => ?_)
          refine o_L (y_assign rfl) rfl rfl ?_
          refine o_nil0 rfl ?_
          refine c_ret ?_
          refine fun aX wX heX hsX => ret1 Tryz.results193 heX rfl (s_take (s_take (s_skip (s_take (s_take (s_take s_nil)))))) ?_
          have e1 : (⟨x, s, r⟩ : Conn).inQuiet g = [] := by unfold Conn.inQuiet; (repeat' split) <;> first | rfl | (exfalso; omega) | (simp_all; done)
          rw [e1]
          exact ⟨_, _, hl_3, rfl⟩
    · try simp only [decide_eq_true_eq, decide_eq_false_iff_not, Bool.not_eq_true', Bool.not_eq_false', Int.not_lt, Int.not_le, Decidable.not_not, beq_iff_eq, bne_iff_ne, ne_eq, beq_eq_false_iff_ne] at h68_1
      refine o_pass rfl rfl rfl rfl rfl ?_
      refine o_pass rfl rfl rfl rfl rfl ?_
      refine o_pass rfl rfl rfl rfl rfl ?_
      refine o_pass rfl rfl rfl rfl rfl ?_
      refine o_pass rfl rfl rfl rfl rfl ?_
      refine o_passU rfl rfl rfl rfl ?_
      refine o_passU rfl rfl rfl rfl ?_
      refine o_passU rfl rfl rfl rfl ?_
      refine o_passU rfl rfl rfl rfl ?_
      refine o_pass rfl rfl rfl rfl rfl ?_
      refine o_T (y_pickF rfl rfl) rfl ?_
      refine o_nil1 28 rfl rfl ?_
      refine c_condF rfl ?_
      refine c_skip ?_
      refine c_seq ?_
      refine c_region ?_
      refine o_lbs0 (R := segR) sz_185 rfl (fun v_2 gv_4 hl_4 => ?_)
      refine o_L (y_assign rfl) rfl rfl ?_
      refine o_nil0 rfl ?_
      refine c_ret ?_
      refine fun aX wX heX hsX => ret1 Tryz.results193 heX rfl (s_take (s_take (s_skip (s_take (s_take (s_take s_nil)))))) ?_
      have e1 : (⟨x, s, r⟩ : Conn).inQuiet g = [] := by unfold Conn.inQuiet; (repeat' split) <;> first | rfl | (exfalso; omega) | (simp_all; done)
      rw [e1]
      exact ⟨_, _, hl_4, rfl⟩
  · try simp only [decide_eq_true_eq, decide_eq_false_iff_not, Bool.not_eq_true', Bool.not_eq_false', Int.not_lt, Int.not_le, Decidable.not_not, beq_iff_eq, bne_iff_ne, ne_eq, beq_eq_false_iff_ne] at h68
    refine o_pass rfl rfl rfl rfl rfl ?_
    refine o_pass rfl rfl rfl rfl rfl ?_
    refine o_pass rfl rfl rfl rfl rfl ?_
    refine o_pass rfl rfl rfl rfl rfl ?_
    refine o_T (y_pickF rfl rfl) rfl ?_
    refine o_T (y_move rfl) rfl ?_
    refine o_pass rfl rfl rfl rfl rfl ?_
    refine o_pass rfl rfl rfl rfl rfl ?_
    refine o_pass rfl rfl rfl rfl rfl ?_
    refine o_pass rfl rfl rfl rfl rfl ?_
    refine o_pass rfl rfl rfl rfl rfl ?_
    refine o_passU rfl rfl rfl rfl ?_
    refine o_passU rfl rfl rfl rfl ?_
    refine o_passU rfl rfl rfl rfl ?_
    refine o_passU rfl rfl rfl rfl ?_
    refine o_pass rfl rfl rfl rfl rfl ?_
    refine o_T (y_pickF rfl rfl) rfl ?_
    refine o_nil1 28 rfl rfl ?_
    refine c_condF rfl ?_
    refine c_skip ?_
    refine c_seq ?_
    refine c_region ?_
    refine o_lbs0 (R := segR) sz_185 rfl (fun v_3 gv_5 hl_5 => ?_)
    refine o_L (y_assign rfl) rfl rfl ?_
    refine o_nil0 rfl ?_
    refine c_ret ?_
    refine fun aX wX heX hsX => ret1 Tryz.results193 heX rfl (s_take (s_take (s_skip (s_take (s_take (s_take s_nil)))))) ?_
    have e1 : (⟨x, s, r⟩ : Conn).inQuiet g = [] := by unfold Conn.inQuiet; (repeat' split) <;> first | rfl | (exfalso; omega) | (simp_all; done)
    rw [e1]
    exact ⟨_, _, hl_5, rfl⟩
theorem u193 (b ps pr : Nat) (k : Cn) (hk1 : k.sb = ptr ps) (hk2 : k.rb = ptr pr) (s : Sb) (r : Rb) (b2 : Nat) (g : Seg) (ok : Conn.Ok ⟨(Cn.cs k), s, r⟩) (hg : g.Ok) : Trip Tryz.prog 193 #[.pointer (some ⟨b, 0, none⟩), .agg (segC b2 g).enc] [[(b, .cells k.enc 167 (0, 0))], [(ps, .cells s.enc 162 (0, 0))], [(pr, .cells r.enc 165 (0, 0))]] (fun u S' => ∃ gv gd, Segs u ((⟨(Cn.cs k), s, r⟩ : Conn).inQuiet g) gv gd ∧ S' = [gv, gd, [(b, .cells k.enc 167 (0, 0))], [(ps, .cells s.enc 162 (0, 0))], [(pr, .cells r.enc 165 (0, 0))]]) := by
  obtain ⟨a1, a2, a3, a4, a5, a6, a7, a8, a9, a10, a11, a12, a13, a14⟩ := k
  dsimp only at hk1 hk2
  subst hk1 hk2
  exact t193 b ps pr (Cs.mk a3 a4 a5 a6 a7 a8 a9 a10 a11 a12 a13 a14) s r b2 g ok hg

/-- (*e2e/conn.Conn).inSynSent -/
theorem t194 (b ps pr : Nat) (x : Cs) (s : Sb) (r : Rb) (b2 : Nat) (g : Seg) (ok : Conn.Ok ⟨x, s, r⟩) (hg : g.Ok) : Trip Tryz.prog 194 #[.pointer (some ⟨b, 0, none⟩), .agg (segC b2 g).enc] [[(b, .cells (x.cn ps pr).enc 167 (0, 0))], [(ps, .cells s.enc 162 (0, 0))], [(pr, .cells r.enc 165 (0, 0))]] (fun u S' => ∃ gv gd, Segs u (((⟨x, s, r⟩ : Conn).inSynSent g).2) gv gd ∧ S' = [gv, gd, [(b, .cells ((((⟨x, s, r⟩ : Conn).inSynSent g).1).x.cn ps pr).enc 167 (0, 0))], [(ps, .cells (((⟨x, s, r⟩ : Conn).inSynSent g).1).s.enc 162 (0, 0))], [(pr, .cells (((⟨x, s, r⟩ : Conn).inSynSent g).1).r.enc 165 (0, 0))]] ∧ (((⟨x, s, r⟩ : Conn).inSynSent g).1).Ok) := by
  have ok0 := ok
  have okS : s.Ok := ok.s
  have okR : r.Ok := ok.r
  obtain ⟨x1, x2, x3, x4, x5, x6, x7⟩ := ok.x
  obtain ⟨k1, k2, k3, k4, k5, k6, k7, k8⟩ := ok.s
  obtain ⟨j1, j2, j3, j4, j5, j6, j7, j8⟩ := ok.r
  dsimp only at x1 x2 x3 x4 x5 x6 x7 k1 k2 k3 k4 k5 k6 k7 k8 j1 j2 j3 j4 j5 j6 j7 j8
  have hfl := hg.flags
  have hw := window_b g.wnd
  refine fn_entry (args := [.pointer (some ⟨b, 0, none⟩), .agg (segC b2 g).enc]) Tryz.func194 rfl Tryz.ntmps194 rfl (fun w0 => ?_)
  refine c_seq ?_
  refine c_region ?_
  refine o_box rfl rfl rfl rfl (fun b_1 => ?_)
  refine o_L (y_assign rfl) rfl rfl ?_
  refine o_nil0 rfl ?_
  refine c_seq ?_
  refine c_region ?_
  refine o_lbs0 (R := segR) sz_185 rfl (fun v_1 gv_1 hl_1 => ?_)
  refine o_L (y_assign rfl) rfl rfl ?_
  refine o_nil0 rfl ?_
  refine c_seq ?_
  refine c_region ?_
  refine o_T (y_move rfl) rfl ?_
  refine o_T (y_nilck rfl) rfl ?_
  refine o_T (y_fa fl_167_8 rfl) rfl ?_
  refine o_ld one_3 rfl (ms (ms (ms m0))) Cn.g8 rfl ?_
  refine o_callv en_143 rfl (t143 _ _) rfl ?_
  refine o_L (y_assign rfl) rfl rfl ?_
  refine o_nil0 rfl ?_
  refine c_seq ?_
  refine c_region ?_
  refine o_T (y_fa fl_178_4 rfl) rfl ?_
  refine o_ld one_3 rfl (ms (ms m0)) Sg.g4 rfl ?_
  refine o_T (y_and rfl rfl (fl2 hg.flags)) rfl ?_
  refine o_T (y_neq rfl rfl) rfl ?_
  refine o_L (y_assign rfl) rfl rfl ?_
  refine o_nil0 rfl ?_
  refine c_seq ?_
  refine c_seq ?_
  refine c_region ?_
  refine o_T (y_move rfl) rfl ?_
  refine o_T (y_move rfl) rfl ?_
  refine o_split 22 rfl (fun h80 => ?_) (fun h80 => ?_)
  · try simp only [decide_eq_true_eq, decide_eq_false_iff_not, Bool.not_eq_true', Bool.not_eq_false', Int.not_lt, Int.not_le, Decidable.not_not, beq_iff_eq, bne_iff_ne, ne_eq, beq_eq_false_iff_ne] at h80
    refine o_take rfl rfl rfl ?_
    refine o_T (y_fa fl_178_3 rfl) rfl ?_
    refine o_take rfl rfl rfl ?_
    refine o_ld one_3 rfl (ms (ms m0)) Sg.g3 rfl ?_
    refine o_take rfl rfl rfl ?_
    refine o_T (y_move rfl) rfl ?_
    refine o_take rfl rfl rfl ?_
    refine o_T (y_neq rfl rfl) rfl ?_
    refine o_T (y_pickT rfl rfl) rfl ?_
    refine o_nil1 27 rfl rfl ?_
    refine c_cond rfl (fun h80_1 => ?_) (fun h80_1 => ?_)
    · try simp only [decide_eq_true_eq, decide_eq_false_iff_not, Bool.not_eq_true', Bool.not_eq_false', Int.not_lt, Int.not_le, Decidable.not_not, beq_iff_eq, bne_iff_ne, ne_eq, beq_eq_false_iff_ne] at h80_1
      refine c_seq ?_
      refine c_seq ?_
      refine c_region ?_
      refine o_T (y_fa fl_178_4 rfl) rfl ?_
      refine o_ld one_3 rfl (ms (ms m0)) Sg.g4 rfl ?_
      refine o_T (y_and rfl rfl (fl8 hg.flags)) rfl ?_
      refine o_T (y_neq rfl rfl) rfl ?_
      refine o_nil1 31 rfl rfl ?_
      refine c_cond rfl (fun h81 => ?_) (fun h81 => ?_)
      · try simp only [decide_eq_true_eq, decide_eq_false_iff_not, Bool.not_eq_true', Bool.not_eq_false', Int.not_lt, Int.not_le, Decidable.not_not, beq_iff_eq, bne_iff_ne, ne_eq, beq_eq_false_iff_ne] at h81
        refine c_seq ?_
        refine c_region ?_
        refine o_T (y_move rfl) rfl ?_
        refine o_L (y_assign rfl) rfl rfl ?_
        refine o_nil0 rfl ?_
        refine c_ret ?_
        refine fun aX wX heX hsX => ret1 Tryz.results194 heX rfl (s_take (s_take (s_skip (s_take (s_take (s_take s_nil)))))) ?_
        first | (exfalso; omega) | (have ok9 := (Conn.ok_inSynSent ok0 hg).1; have e1 : (⟨x, s, r⟩ : Conn).inSynSent g = ((⟨x, s, r⟩ : Conn), []) := (by unfold Conn.inSynSent; (repeat' split) <;> first | rfl | (exfalso; omega) | (simp_all; done)); rw [e1] at ok9 ⊢; exact ⟨_, _, hl_1, rfl, ok9⟩)
      · try simp only [decide_eq_true_eq, decide_eq_false_iff_not, Bool.not_eq_true', Bool.not_eq_false', Int.not_lt, Int.not_le, Decidable.not_not, beq_iff_eq, bne_iff_ne, ne_eq, beq_eq_false_iff_ne] at h81
        refine c_skip ?_
        refine c_seq ?_
        refine c_region ?_
        refine o_T (y_fa fl_178_3 rfl) rfl ?_
        refine o_ld one_3 rfl (ms (ms m0)) Sg.g3 rfl ?_
        refine o_call en_185 rfl (t185 _) s_nil rfl ?_
        rintro v S' ⟨b_2, rfl, rfl⟩
        refine o_alloc ze_178 rfl rfl (fun b_3 => ?_)
        refine o_sta ag_178 rfl rfl rfl rfl r0 (setAll_full _ _ rfl) (of_ble rfl) ?_
        refine o_nil0 rfl ?_
        refine c_seq ?_
        refine c_region ?_
        refine o_ldw ag_178 rfl m0 rfl rfl ?_
        refine o_call en_179 rfl (t179 _ _) (s_skip (s_take s_nil)) rfl ?_
        rintro v S' ⟨gv_2, hl_2, rfl⟩
        refine o_L (y_assign rfl) rfl rfl ?_
        refine o_nil0 rfl ?_
        refine c_ret ?_
        refine fun aX wX heX hsX => ret1 Tryz.results194 heX rfl (s_take (s_take (s_skip (s_skip (s_skip (s_skip (s_take (s_take (s_take s_nil))))))))) ?_
        first | (exfalso; omega) | (have ok9 := (Conn.ok_inSynSent ok0 hg).1; have e1 : (⟨x, s, r⟩ : Conn).inSynSent g = ((⟨x, s, r⟩ : Conn), [rstS g.ack]) := (by unfold Conn.inSynSent; (repeat' split) <;> first | rfl | (exfalso; omega) | (simp_all; done)); rw [e1] at ok9 ⊢; exact ⟨_, _, hl_2, rfl, ok9⟩)
    · try simp only [decide_eq_true_eq, decide_eq_false_iff_not, Bool.not_eq_true', Bool.not_eq_false', Int.not_lt, Int.not_le, Decidable.not_not, beq_iff_eq, bne_iff_ne, ne_eq, beq_eq_false_iff_ne] at h80_1
      refine c_skip ?_
      refine c_seq ?_
      refine c_seq ?_
      refine c_region ?_
      refine o_T (y_fa fl_178_4 rfl) rfl ?_
      refine o_ld one_3 rfl (ms (ms m0)) Sg.g4 rfl ?_
      refine o_T (y_and rfl rfl (fl8 hg.flags)) rfl ?_
      refine o_T (y_neq rfl rfl) rfl ?_
      refine o_nil1 41 rfl rfl ?_
      refine c_cond rfl (fun h87 => ?_) (fun h87 => ?_)
      · try simp only [decide_eq_true_eq, decide_eq_false_iff_not, Bool.not_eq_true', Bool.not_eq_false', Int.not_lt, Int.not_le, Decidable.not_not, beq_iff_eq, bne_iff_ne, ne_eq, beq_eq_false_iff_ne] at h87
        refine c_seq ?_
        refine c_seq ?_
        refine c_region ?_
        refine o_T (y_move rfl) rfl ?_
        refine o_nil1 42 rfl rfl ?_
        refine c_cond rfl (fun h88 => ?_) (fun h88 => ?_)
        · try simp only [decide_eq_true_eq, decide_eq_false_iff_not, Bool.not_eq_true', Bool.not_eq_false', Int.not_lt, Int.not_le, Decidable.not_not, beq_iff_eq, bne_iff_ne, ne_eq, beq_eq_false_iff_ne] at h88
          refine c_region ?_
          refine o_T (y_move rfl) rfl ?_
          refine o_call en_166 rfl (t166 _ ps pr x _ _ _ ok0) (s_skip (s_skip (s_skip (s_take (s_take (s_take s_nil)))))) rfl ?_
          rintro v S' ⟨rfl, rfl, hk_1⟩
          have hk_1_s := hk_1.s
          have hk_1_r := hk_1.r
          obtain ⟨hk_1_x1, hk_1_x2, hk_1_x3, hk_1_x4, hk_1_x5, hk_1_x6, hk_1_x7⟩ := hk_1.x
          try dsimp only at hk_1_s hk_1_r
          refine o_nil0 rfl ?_
          refine c_seq ?_
          refine c_region ?_
          refine o_T (y_move rfl) rfl ?_
          refine o_L (y_assign rfl) rfl rfl ?_
          refine o_nil0 rfl ?_
          refine c_ret ?_
          refine fun aX wX heX hsX => ret1 Tryz.results194 heX rfl (s_get (ks (ks (ks k0))) (s_get (ks (ks (ks k0))) (s_get k0 (s_get k0 (s_get k0 s_nil))))) ?_
          first | (exfalso; omega) | (have ok9 := (Conn.ok_inSynSent ok0 hg).1; have e1 : (⟨x, s, r⟩ : Conn).inSynSent g = ((⟨x, s, r⟩ : Conn).fail 18, []) := (by unfold Conn.inSynSent; (repeat' split) <;> first | rfl | (exfalso; omega) | (simp_all; done)); rw [e1] at ok9 ⊢; exact ⟨_, _, hl_1, rfl, ok9⟩)
        · try simp only [decide_eq_true_eq, decide_eq_false_iff_not, Bool.not_eq_true', Bool.not_eq_false', Int.not_lt, Int.not_le, Decidable.not_not, beq_iff_eq, bne_iff_ne, ne_eq, beq_eq_false_iff_ne] at h88
          refine c_skip ?_
          refine c_seq ?_
          refine c_region ?_
          refine o_T (y_move rfl) rfl ?_
          refine o_L (y_assign rfl) rfl rfl ?_
          refine o_nil0 rfl ?_
          refine c_ret ?_
          refine fun aX wX heX hsX => ret1 Tryz.results194 heX rfl (s_take (s_take (s_skip (s_take (s_take (s_take s_nil)))))) ?_
          first | (exfalso; omega) | (have ok9 := (Conn.ok_inSynSent ok0 hg).1; have e1 : (⟨x, s, r⟩ : Conn).inSynSent g = ((⟨x, s, r⟩ : Conn), []) := (by unfold Conn.inSynSent; (repeat' split) <;> first | rfl | (exfalso; omega) | (simp_all; done)); rw [e1] at ok9 ⊢; exact ⟨_, _, hl_1, rfl, ok9⟩)
      · try simp only [decide_eq_true_eq, decide_eq_false_iff_not, Bool.not_eq_true', Bool.not_eq_false', Int.not_lt, Int.not_le, Decidable.not_not, beq_iff_eq, bne_iff_ne, ne_eq, beq_eq_false_iff_ne] at h87
        refine c_skip ?_
        refine c_seq ?_
        refine c_seq ?_
        refine c_region ?_
        refine o_T (y_fa fl_178_4 rfl) rfl ?_
        refine o_ld one_3 rfl (ms (ms m0)) Sg.g4 rfl ?_
        refine o_T (y_and rfl rfl (fl1 hg.flags)) rfl ?_
        refine o_T (y_eql rfl rfl) rfl ?_
        refine o_T (y_move rfl) rfl ?_
        refine o_split 50 rfl (fun h93 => ?_) (fun h93 => ?_)
        · try simp only [decide_eq_true_eq, decide_eq_false_iff_not, Bool.not_eq_true', Bool.not_eq_false', Int.not_lt, Int.not_le, Decidable.not_not, beq_iff_eq, bne_iff_ne, ne_eq, beq_eq_false_iff_ne] at h93
          refine o_pass rfl rfl rfl rfl rfl ?_
          refine o_pass rfl rfl rfl rfl rfl ?_
          refine o_T (y_pickT rfl rfl) rfl ?_
          refine o_nil1 53 rfl rfl ?_
          refine c_condT rfl ?_
          refine c_seq ?_
          refine c_region ?_
          refine o_T (y_move rfl) rfl ?_
          refine o_L (y_assign rfl) rfl rfl ?_
          refine o_nil0 rfl ?_
          refine c_ret ?_
          refine fun aX wX heX hsX => ret1 Tryz.results194 heX rfl (s_take (s_take (s_skip (s_take (s_take (s_take s_nil)))))) ?_
          first | (exfalso; omega) | (have ok9 := (Conn.ok_inSynSent ok0 hg).1; have e1 : (⟨x, s, r⟩ : Conn).inSynSent g = ((⟨x, s, r⟩ : Conn), []) := (by unfold Conn.inSynSent; (repeat' split) <;> first | rfl | (exfalso; omega) | (simp_all; done)); rw [e1] at ok9 ⊢; exact ⟨_, _, hl_1, rfl, ok9⟩)
        · try simp only [decide_eq_true_eq, decide_eq_false_iff_not, Bool.not_eq_true', Bool.not_eq_false', Int.not_lt, Int.not_le, Decidable.not_not, beq_iff_eq, bne_iff_ne, ne_eq, beq_eq_false_iff_ne] at h93
          refine o_take rfl rfl rfl ?_
          refine o_T (y_move rfl) rfl ?_
          refine o_take rfl rfl rfl ?_
          refine o_T (y_not rfl) rfl ?_
          refine o_T (y_pickF rfl rfl) rfl ?_
          refine o_nil1 53 rfl rfl ?_
          refine c_cond rfl (fun h93_1 => ?_) (fun h93_1 => ?_)
          · try simp only [decide_eq_true_eq, decide_eq_false_iff_not, Bool.not_eq_true', Bool.not_eq_false', Int.not_lt, Int.not_le, Decidable.not_not, beq_iff_eq, bne_iff_ne, ne_eq, beq_eq_false_iff_ne] at h93_1
            refine c_seq ?_
            refine c_region ?_
            refine o_T (y_move rfl) rfl ?_
            refine o_L (y_assign rfl) rfl rfl ?_
            refine o_nil0 rfl ?_
            refine c_ret ?_
            refine fun aX wX heX hsX => ret1 Tryz.results194 heX rfl (s_take (s_take (s_skip (s_take (s_take (s_take s_nil)))))) ?_
            first | (exfalso; omega) | (have ok9 := (Conn.ok_inSynSent ok0 hg).1; have e1 : (⟨x, s, r⟩ : Conn).inSynSent g = ((⟨x, s, r⟩ : Conn), []) := (by unfold Conn.inSynSent; (repeat' split) <;> first | rfl | (exfalso; omega) | (simp_all; done)); rw [e1] at ok9 ⊢; exact ⟨_, _, hl_1, rfl, ok9⟩)
          · try simp only [decide_eq_true_eq, decide_eq_false_iff_not, Bool.not_eq_true', Bool.not_eq_false', Int.not_lt, Int.not_le, Decidable.not_not, beq_iff_eq, bne_iff_ne, ne_eq, beq_eq_false_iff_ne] at h93_1
            refine c_skip ?_
            refine c_seq ?_
            refine c_region ?_
            refine o_T (y_move rfl) rfl ?_
            refine o_call en_211 rfl (t211 _ ps pr x _ _ ok0) (s_skip (s_skip (s_skip (s_take (s_take (s_take s_nil)))))) rfl ?_
            rintro v S' ⟨rfl, rfl, hk_2⟩
            have hk_2_s := hk_2.s
            have hk_2_r := hk_2.r
            obtain ⟨hk_2_x1, hk_2_x2, hk_2_x3, hk_2_x4, hk_2_x5, hk_2_x6, hk_2_x7⟩ := hk_2.x
            try dsimp only at hk_2_s hk_2_r
            refine o_nil0 rfl ?_
            refine c_seq ?_
            refine c_region ?_
            refine o_T (y_fa fl_178_2 rfl) rfl ?_
            refine o_ld one_3 rfl (ms (ms (ms (ms (ms m0))))) Sg.g2 rfl ?_
            refine o_callv en_143 rfl (t143 _ _) rfl ?_
            refine o_L (y_assign rfl) rfl rfl ?_
            refine o_nil0 rfl ?_
            refine c_seq ?_
            refine c_region ?_
            refine o_T (y_move rfl) rfl ?_
            refine o_T (y_nilck rfl) rfl ?_
            refine o_T (y_fa fl_167_1 rfl) rfl ?_
            refine o_ld one_104 rfl m0 Cn.g1 rfl ?_
            refine o_T (y_move rfl) rfl ?_
            refine o_call en_197 rfl (t197 _ _ _ (by assumption)) (s_skip (s_skip (s_take s_nil))) rfl ?_
            rintro v S' ⟨rfl, rfl, hk_3⟩
            refine o_nil0 rfl ?_
            refine c_seq ?_
            refine c_region ?_
            refine o_T (y_move rfl) rfl ?_
            refine o_T (y_fa fl_178_5 rfl) rfl ?_
            refine o_ld one_3 rfl (ms (ms (ms (ms (ms m0))))) Sg.g5 rfl ?_
            refine o_callv en_198 rfl (t198 _) rfl ?_
            refine o_T (y_nilck rfl) rfl ?_
            refine o_T (y_fa fl_167_9 rfl) rfl ?_
            refine o_st one_3 rfl rfl rfl (rs r0) Cn.s9 (of_blt rfl) ?_
            refine o_nil0 rfl ?_
            refine c_seq ?_
            refine c_region ?_
            refine o_T (y_move rfl) rfl ?_
            refine o_call en_184 rfl (u184 _ ps pr _ rfl rfl _ _ ?_) (s_get (ks k0) (s_get (ks k0) (s_get k0 s_nil))) rfl ?_
            · exact (⟨(by constructor <;> first | assumption | (dsimp only [Cn.cs]; omega) | (dsimp only [Cn.cs]; assumption)), by assumption, by assumption⟩)
            rintro v S' ⟨b_4, rfl, rfl⟩
            refine o_alloc ze_178 rfl rfl (fun b_5 => ?_)
            refine o_sta ag_178 rfl rfl rfl rfl r0 (setAll_full _ _ rfl) (of_ble rfl) ?_
            refine o_nil0 rfl ?_
            refine c_seq ?_
            refine c_region ?_
            refine o_ldw ag_178 rfl m0 rfl rfl ?_
            refine o_call en_179 rfl (t179 _ _) (s_skip (s_take s_nil)) rfl ?_
            rintro v S' ⟨gv_3, hl_3, rfl⟩
            refine o_L (y_assign rfl) rfl rfl ?_
            refine o_nil0 rfl ?_
            refine c_ret ?_
            refine fun aX wX heX hsX => ret1 Tryz.results194 heX rfl (s_take (s_take (s_skip (s_take (s_take (s_take s_nil)))))) ?_
            first | (exfalso; omega) | (have ok9 := (Conn.ok_inSynSent ok0 hg).1; have e1 : (⟨x, s, r⟩ : Conn).inSynSent g = ((⟨{ (⟨x, s, r⟩ : Conn).opened.x with peerWnd := window g.wnd }, (⟨x, s, r⟩ : Conn).opened.s, r.reset (seqAdd g.seq 1)⟩ : Conn), [(⟨{ (⟨x, s, r⟩ : Conn).opened.x with peerWnd := window g.wnd }, (⟨x, s, r⟩ : Conn).opened.s, r.reset (seqAdd g.seq 1)⟩ : Conn).ack]) := (by unfold Conn.inSynSent; (repeat' split) <;> first | rfl | (exfalso; omega) | (simp_all; done)); rw [e1] at ok9 ⊢; exact ⟨_, _, hl_3, rfl, ok9⟩)
  · try simp only [decide_eq_true_eq, decide_eq_false_iff_not, Bool.not_eq_true', Bool.not_eq_false', Int.not_lt, Int.not_le, Decidable.not_not, beq_iff_eq, bne_iff_ne, ne_eq, beq_eq_false_iff_ne] at h80
    refine o_pass rfl rfl rfl rfl rfl ?_
    refine o_pass rfl rfl rfl rfl rfl ?_
    refine o_pass rfl rfl rfl rfl rfl ?_
    refine o_pass rfl rfl rfl rfl rfl ?_
    refine o_T (y_pickF rfl rfl) rfl ?_
    refine o_nil1 27 rfl rfl ?_
    refine c_condF rfl ?_
    refine c_skip ?_
    refine c_seq ?_
    refine c_seq ?_
    refine c_region ?_
    refine o_T (y_fa fl_178_4 rfl) rfl ?_
    refine o_ld one_3 rfl (ms (ms m0)) Sg.g4 rfl ?_
    refine o_T (y_and rfl rfl (fl8 hg.flags)) rfl ?_
    refine o_T (y_neq rfl rfl) rfl ?_
    refine o_nil1 41 rfl rfl ?_
    refine c_cond rfl (fun h87 => ?_) (fun h87 => ?_)
    · try simp only [decide_eq_true_eq, decide_eq_false_iff_not, Bool.not_eq_true', Bool.not_eq_false', Int.not_lt, Int.not_le, Decidable.not_not, beq_iff_eq, bne_iff_ne, ne_eq, beq_eq_false_iff_ne] at h87
      refine c_seq ?_
      refine c_seq ?_
      refine c_region ?_
      refine o_T (y_move rfl) rfl ?_
      refine o_nil1 42 rfl rfl ?_
      refine c_cond rfl (fun h88 => ?_) (fun h88 => ?_)
      · try simp only [decide_eq_true_eq, decide_eq_false_iff_not, Bool.not_eq_true', Bool.not_eq_false', Int.not_lt, Int.not_le, Decidable.not_not, beq_iff_eq, bne_iff_ne, ne_eq, beq_eq_false_iff_ne] at h88
        refine c_region ?_
        refine o_T (y_move rfl) rfl ?_
        refine o_call en_166 rfl (t166 _ ps pr x _ _ _ ok0) (s_skip (s_skip (s_skip (s_take (s_take (s_take s_nil)))))) rfl ?_
        rintro v S' ⟨rfl, rfl, hk_4⟩
        have hk_4_s := hk_4.s
        have hk_4_r := hk_4.r
        obtain ⟨hk_4_x1, hk_4_x2, hk_4_x3, hk_4_x4, hk_4_x5, hk_4_x6, hk_4_x7⟩ := hk_4.x
        try dsimp only at hk_4_s hk_4_r
        refine o_nil0 rfl ?_
        refine c_seq ?_
        refine c_region ?_
        refine o_T (y_move rfl) rfl ?_
        refine o_L (y_assign rfl) rfl rfl ?_
        refine o_nil0 rfl ?_
        refine c_ret ?_
        refine fun aX wX heX hsX => ret1 Tryz.results194 heX rfl (s_get (ks (ks (ks k0))) (s_get (ks (ks (ks k0))) (s_get k0 (s_get k0 (s_get k0 s_nil))))) ?_
        first | (exfalso; omega) | (have ok9 := (Conn.ok_inSynSent ok0 hg).1; have e1 : (⟨x, s, r⟩ : Conn).inSynSent g = ((⟨x, s, r⟩ : Conn).fail 18, []) := (by unfold Conn.inSynSent; (repeat' split) <;> first | rfl | (exfalso; omega) | (simp_all; done)); rw [e1] at ok9 ⊢; exact ⟨_, _, hl_1, rfl, ok9⟩)
      · try simp only [decide_eq_true_eq, decide_eq_false_iff_not, Bool.not_eq_true', Bool.not_eq_false', Int.not_lt, Int.not_le, Decidable.not_not, beq_iff_eq, bne_iff_ne, ne_eq, beq_eq_false_iff_ne] at h88
        refine c_skip ?_
        refine c_seq ?_
        refine c_region ?_
        refine o_T (y_move rfl) rfl ?_
        refine o_L (y_assign rfl) rfl rfl ?_
        refine o_nil0 rfl ?_
        refine c_ret ?_
        refine fun aX wX heX hsX => ret1 Tryz.results194 heX rfl (s_take (s_take (s_skip (s_take (s_take (s_take s_nil)))))) ?_
        first | (exfalso; omega) | (have ok9 := (Conn.ok_inSynSent ok0 hg).1; have e1 : (⟨x, s, r⟩ : Conn).inSynSent g = ((⟨x, s, r⟩ : Conn), []) := (by unfold Conn.inSynSent; (repeat' split) <;> first | rfl | (exfalso; omega) | (simp_all; done)); rw [e1] at ok9 ⊢; exact ⟨_, _, hl_1, rfl, ok9⟩)
    · try simp only [decide_eq_true_eq, decide_eq_false_iff_not, Bool.not_eq_true', Bool.not_eq_false', Int.not_lt, Int.not_le, Decidable.not_not, beq_iff_eq, bne_iff_ne, ne_eq, beq_eq_false_iff_ne] at h87
      refine c_skip ?_
      refine c_seq ?_
      refine c_seq ?_
      refine c_region ?_
      refine o_T (y_fa fl_178_4 rfl) rfl ?_
      refine o_ld one_3 rfl (ms (ms m0)) Sg.g4 rfl ?_
      refine o_T (y_and rfl rfl (fl1 hg.flags)) rfl ?_
      refine o_T (y_eql rfl rfl) rfl ?_
      refine o_T (y_move rfl) rfl ?_
      refine o_split 50 rfl (fun h93 => ?_) (fun h93 => ?_)
      · try simp only [decide_eq_true_eq, decide_eq_false_iff_not, Bool.not_eq_true', Bool.not_eq_false', Int.not_lt, Int.not_le, Decidable.not_not, beq_iff_eq, bne_iff_ne, ne_eq, beq_eq_false_iff_ne] at h93
        refine o_pass rfl rfl rfl rfl rfl ?_
        refine o_pass rfl rfl rfl rfl rfl ?_
        refine o_T (y_pickT rfl rfl) rfl ?_
        refine o_nil1 53 rfl rfl ?_
        refine c_condT rfl ?_
        refine c_seq ?_
        refine c_region ?_
        refine o_T (y_move rfl) rfl ?_
        refine o_L (y_assign rfl) rfl rfl ?_
        refine o_nil0 rfl ?_
        refine c_ret ?_
        refine fun aX wX heX hsX => ret1 Tryz.results194 heX rfl (s_take (s_take (s_skip (s_take (s_take (s_take s_nil)))))) ?_
        first | (exfalso; omega) | (have ok9 := (Conn.ok_inSynSent ok0 hg).1; have e1 : (⟨x, s, r⟩ : Conn).inSynSent g = ((⟨x, s, r⟩ : Conn), []) := (by unfold Conn.inSynSent; (repeat' split) <;> first | rfl | (exfalso; omega) | (simp_all; done)); rw [e1] at ok9 ⊢; exact ⟨_, _, hl_1, rfl, ok9⟩)
      · try simp only [decide_eq_true_eq, decide_eq_false_iff_not, Bool.not_eq_true', Bool.not_eq_false', Int.not_lt, Int.not_le, Decidable.not_not, beq_iff_eq, bne_iff_ne, ne_eq, beq_eq_false_iff_ne] at h93
        refine o_take rfl rfl rfl ?_
        refine o_T (y_move rfl) rfl ?_
        refine o_take rfl rfl rfl ?_
        refine o_T (y_not rfl) rfl ?_
        refine o_T (y_pickF rfl rfl) rfl ?_
        refine o_nil1 53 rfl rfl ?_
        refine c_cond rfl (fun h93_1 => ?_) (fun h93_1 => ?_)
        · try simp only [decide_eq_true_eq, decide_eq_false_iff_not, Bool.not_eq_true', Bool.not_eq_false', Int.not_lt, Int.not_le, Decidable.not_not, beq_iff_eq, bne_iff_ne, ne_eq, beq_eq_false_iff_ne] at h93_1
          refine c_seq ?_
          refine c_region ?_
          refine o_T (y_move rfl) rfl ?_
          refine o_L (y_assign rfl) rfl rfl ?_
          refine o_nil0 rfl ?_
          refine c_ret ?_
          refine fun aX wX heX hsX => ret1 Tryz.results194 heX rfl (s_take (s_take (s_skip (s_take (s_take (s_take s_nil)))))) ?_
          first | (exfalso; omega) | (have ok9 := (Conn.ok_inSynSent ok0 hg).1; have e1 : (⟨x, s, r⟩ : Conn).inSynSent g = ((⟨x, s, r⟩ : Conn), []) := (by unfold Conn.inSynSent; (repeat' split) <;> first | rfl | (exfalso; omega) | (simp_all; done)); rw [e1] at ok9 ⊢; exact ⟨_, _, hl_1, rfl, ok9⟩)
        · try simp only [decide_eq_true_eq, decide_eq_false_iff_not, Bool.not_eq_true', Bool.not_eq_false', Int.not_lt, Int.not_le, Decidable.not_not, beq_iff_eq, bne_iff_ne, ne_eq, beq_eq_false_iff_ne] at h93_1
          refine c_skip ?_
          refine c_seq ?_
          refine c_region ?_
          refine o_T (y_move rfl) rfl ?_
          refine o_call en_211 rfl (t211 _ ps pr x _ _ ok0) (s_skip (s_skip (s_skip (s_take (s_take (s_take s_nil)))))) rfl ?_
          rintro v S' ⟨rfl, rfl, hk_5⟩
          have hk_5_s := hk_5.s
          have hk_5_r := hk_5.r
          obtain ⟨hk_5_x1, hk_5_x2, hk_5_x3, hk_5_x4, hk_5_x5, hk_5_x6, hk_5_x7⟩ := hk_5.x
          try dsimp only at hk_5_s hk_5_r
          refine o_nil0 rfl ?_
          refine c_seq ?_
          refine c_region ?_
          refine o_T (y_fa fl_178_2 rfl) rfl ?_
          refine o_ld one_3 rfl (ms (ms (ms (ms (ms m0))))) Sg.g2 rfl ?_
          refine o_callv en_143 rfl (t143 _ _) rfl ?_
          refine o_L (y_assign rfl) rfl rfl ?_
          refine o_nil0 rfl ?_
          refine c_seq ?_
          refine c_region ?_
          refine o_T (y_move rfl) rfl ?_
          refine o_T (y_nilck rfl) rfl ?_
          refine o_T (y_fa fl_167_1 rfl) rfl ?_
          refine o_ld one_104 rfl m0 Cn.g1 rfl ?_
          refine o_T (y_move rfl) rfl ?_
          refine o_call en_197 rfl (t197 _ _ _ (by assumption)) (s_skip (s_skip (s_take s_nil))) rfl ?_
          rintro v S' ⟨rfl, rfl, hk_6⟩
          refine o_nil0 rfl ?_
          refine c_seq ?_
          refine c_region ?_
          refine o_T (y_move rfl) rfl ?_
          refine o_T (y_fa fl_178_5 rfl) rfl ?_
          refine o_ld one_3 rfl (ms (ms (ms (ms (ms m0))))) Sg.g5 rfl ?_
          refine o_callv en_198 rfl (t198 _) rfl ?_
          refine o_T (y_nilck rfl) rfl ?_
          refine o_T (y_fa fl_167_9 rfl) rfl ?_
          refine o_st one_3 rfl rfl rfl (rs r0) Cn.s9 (of_blt rfl) ?_
          refine o_nil0 rfl ?_
          refine c_seq ?_
          refine c_region ?_
          refine o_T (y_move rfl) rfl ?_
          refine o_call en_184 rfl (u184 _ ps pr _ rfl rfl _ _ ?_) (s_get (ks k0) (s_get (ks k0) (s_get k0 s_nil))) rfl ?_
          · exact (⟨(by constructor <;> first | assumption | (dsimp only [Cn.cs]; omega) | (dsimp only [Cn.cs]; assumption)), by assumption, by assumption⟩)
          rintro v S' ⟨b_6, rfl, rfl⟩
          refine o_alloc ze_178 rfl rfl (fun b_7 => ?_)
          refine o_sta ag_178 rfl rfl rfl rfl r0 (setAll_full _ _ rfl) (of_ble rfl) ?_
          refine o_nil0 rfl ?_
          refine c_seq ?_
          refine c_region ?_
          refine o_ldw ag_178 rfl m0 rfl rfl ?_
          refine o_call en_179 rfl (t179 _ _) (s_skip (s_take s_nil)) rfl ?_
          rintro v S' ⟨gv_4, hl_4, rfl⟩
          refine o_L (y_assign rfl) rfl rfl ?_
          refine o_nil0 rfl ?_
          refine c_ret ?_
          refine fun aX wX heX hsX => ret1 Tryz.results194 heX rfl (s_take (s_take (s_skip (s_take (s_take (s_take s_nil)))))) ?_
          first | (exfalso; omega) | (have ok9 := (Conn.ok_inSynSent ok0 hg).1; have e1 : (⟨x, s, r⟩ : Conn).inSynSent g = ((⟨{ (⟨x, s, r⟩ : Conn).opened.x with peerWnd := window g.wnd }, (⟨x, s, r⟩ : Conn).opened.s, r.reset (seqAdd g.seq 1)⟩ : Conn), [(⟨{ (⟨x, s, r⟩ : Conn).opened.x with peerWnd := window g.wnd }, (⟨x, s, r⟩ : Conn).opened.s, r.reset (seqAdd g.seq 1)⟩ : Conn).ack]) := (by unfold Conn.inSynSent; (repeat' split) <;> first | rfl | (exfalso; omega) | (simp_all; done)); rw [e1] at ok9 ⊢; exact ⟨_, _, hl_4, rfl, ok9⟩)
theorem u194 (b ps pr : Nat) (k : Cn) (hk1 : k.sb = ptr ps) (hk2 : k.rb = ptr pr) (s : Sb) (r : Rb) (b2 : Nat) (g : Seg) (ok : Conn.Ok ⟨(Cn.cs k), s, r⟩) (hg : g.Ok) : Trip Tryz.prog 194 #[.pointer (some ⟨b, 0, none⟩), .agg (segC b2 g).enc] [[(b, .cells k.enc 167 (0, 0))], [(ps, .cells s.enc 162 (0, 0))], [(pr, .cells r.enc 165 (0, 0))]] (fun u S' => ∃ gv gd, Segs u (((⟨(Cn.cs k), s, r⟩ : Conn).inSynSent g).2) gv gd ∧ S' = [gv, gd, [(b, .cells ((((⟨(Cn.cs k), s, r⟩ : Conn).inSynSent g).1).x.cn ps pr).enc 167 (0, 0))], [(ps, .cells (((⟨(Cn.cs k), s, r⟩ : Conn).inSynSent g).1).s.enc 162 (0, 0))], [(pr, .cells (((⟨(Cn.cs k), s, r⟩ : Conn).inSynSent g).1).r.enc 165 (0, 0))]] ∧ (((⟨(Cn.cs k), s, r⟩ : Conn).inSynSent g).1).Ok) := by
  obtain ⟨a1, a2, a3, a4, a5, a6, a7, a8, a9, a10, a11, a12, a13, a14⟩ := k
  dsimp only at hk1 hk2
  subst hk1 hk2
  exact t194 b ps pr (Cs.mk a3 a4 a5 a6 a7 a8 a9 a10 a11 a12 a13 a14) s r b2 g ok hg

end Go.Proofs.Qxb6500351aGreat
