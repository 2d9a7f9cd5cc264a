/- MADE BY PROGRAM (tools/gen.py over tools/specs351.py): walks. -/
import Derived.Test.Qxb6500351aGreatFacts
import Derived.Test.Qxb6500351aGreatMd15
import Derived.Test.Qxb6500351aGreatW44
set_option linter.unusedVariables false
set_option linter.unusedSimpArgs false
namespace Go.Proofs.Qxb6500351aGreat
open Go.Eng
set_option maxRecDepth 20000
set_option maxHeartbeats 4000000
/-- e2e/wirem.New -/
theorem t20  : Trip Tryz.prog 20 #[] [] (fun u S' => ∃ b, u = .pointer (some ⟨b, 0, none⟩) ∧ S' = [[(b, .cells (Wr.mk (.slice none 0 0)).enc 98 (0, 0))]]) := by
  refine fn_entry (args := []) Tryz.func20 rfl Tryz.ntmps20 rfl (fun w0 => ?_)
  refine c_seq ?_
  refine c_region ?_
  refine o_L (y_assign rfl) rfl rfl ?_
  refine o_nil0 rfl ?_
  refine c_seq ?_
  refine c_region ?_
  refine o_T (y_build st_98 rfl fb0) rfl ?_
  refine o_box rfl rfl rfl rfl (fun b_1 => ?_)
  refine o_L (y_assign rfl) rfl rfl ?_
  refine o_nil0 rfl ?_
  refine c_ret ?_
  refine fun aX wX heX hsX => ret1 Tryz.results20 heX rfl (s_take s_nil) ?_
  exact ⟨_, rfl, rfl⟩

/-- (*e2e/wirem.Wire).Len -/
theorem t86 (b : Nat) (v : Value) (l : List Flt) (gv gd : List Chunk) (hw : LstN 130 3 flR v l gv gd) : Trip Tryz.prog 86 #[.pointer (some ⟨b, 0, none⟩)] [[(b, .cells (Wr.mk v).enc 98 (0, 0))]] (fun u S' => u = .int .i64 (l.length : Int) ∧ S' = [[(b, .cells (Wr.mk v).enc 98 (0, 0))]]) := by
  obtain ⟨pw, cw, hvw⟩ := hw.slice
  subst hvw
  refine fn_entry (args := [.pointer (some ⟨b, 0, none⟩)]) Tryz.func86 rfl Tryz.ntmps86 rfl (fun w0 => ?_)
  refine c_seq ?_
  refine c_region ?_
  refine o_L (y_assign rfl) rfl rfl ?_
  refine o_nil0 rfl ?_
  refine c_seq ?_
  refine c_region ?_
  refine o_T (y_move rfl) rfl ?_
  refine o_T (y_nilck rfl) rfl ?_
  refine o_T (y_fa fl_98_0 rfl) rfl ?_
  refine o_ld one_96 rfl m0 Wr.g0 rfl ?_
  refine o_T (y_len Tryz.underlying96 rfl) rfl ?_
  refine o_L (y_assign rfl) rfl rfl ?_
  refine o_nil0 rfl ?_
  refine c_ret ?_
  refine fun aX wX heX hsX => ret1 Tryz.results86 heX rfl (s_take s_nil) ?_
  exact ⟨rfl, rfl⟩

/-- (*e2e/wirem.Wire).Put -/
theorem t124 (b : Nat) (v : Value) (l : List Flt) (gv gd : List Chunk) (b2 o n cap e : Nat) (cs : Array Value) (raw : List Int) (hw : LstN 130 3 flR v l gv gd) (h64 : l.length ≤ 64) (hy : BytAt o n cap cs raw) (hr : n ≤ 1000) : Trip Tryz.prog 124 #[.pointer (some ⟨b, 0, none⟩), .slice (some ⟨b2, o, none⟩) n cap] [[(b, .cells (Wr.mk v).enc 98 (0, 0))], gv, gd, [(b2, .cells cs e (0, 0))]] (fun u S' => ∃ (v' : Value) (gv' gd' : List Chunk), u = .bool (decide (l.length < 64)) ∧ LstN 130 3 flR v' (wPut l raw) gv' gd' ∧ S' = [[(b, .cells (Wr.mk v').enc 98 (0, 0))], gv', gd', [(b2, .cells cs e (0, 0))]]) := by
  obtain ⟨pw, cw, hvw⟩ := hw.slice
  subst hvw
  have hn := hy.n_eq
  have hb := hy.bytes
  refine fn_entry (args := [.pointer (some ⟨b, 0, none⟩), .slice (some ⟨b2, o, none⟩) n cap]) Tryz.func124 rfl Tryz.ntmps124 rfl (fun w0 => ?_)
  refine c_seq ?_
  refine c_region ?_
  refine o_L (y_assign rfl) rfl rfl ?_
  refine o_nil0 rfl ?_
  refine c_seq ?_
  refine c_seq ?_
  refine c_region ?_
  refine o_T (y_move rfl) rfl ?_
  refine o_T (y_nilck rfl) rfl ?_
  refine o_T (y_fa fl_98_0 rfl) rfl ?_
  refine o_ld one_96 rfl m0 Wr.g0 rfl ?_
  refine o_T (y_len Tryz.underlying96 rfl) rfl ?_
  refine o_T (y_geq rfl rfl) rfl ?_
  refine o_nil1 10 rfl rfl ?_
  refine c_cond rfl (fun h32 => ?_) (fun h32 => ?_)
  · try simp only [decide_eq_true_eq, decide_eq_false_iff_not, Bool.not_eq_true', Bool.not_eq_false', Int.not_lt, Int.not_le, Decidable.not_not, beq_iff_eq, bne_iff_ne, ne_eq, beq_eq_false_iff_ne] at h32
    refine c_seq ?_
    refine c_region ?_
    refine o_L (y_assign rfl) rfl rfl ?_
    refine o_nil0 rfl ?_
    refine c_ret ?_
    refine fun aX wX heX hsX => ret1 Tryz.results124 heX rfl (s_take (s_take (s_take (s_take s_nil)))) ?_
    have e1 : wPut l raw = l := by unfold wPut; rw [if_pos (by omega)]
    rw [e1]
    exact ⟨_, _, _, congrArg Value.bool (decide_eq_false (by omega)).symm, hw, rfl⟩
  · try simp only [decide_eq_true_eq, decide_eq_false_iff_not, Bool.not_eq_true', Bool.not_eq_false', Int.not_lt, Int.not_le, Decidable.not_not, beq_iff_eq, bne_iff_ne, ne_eq, beq_eq_false_iff_ne] at h32
    refine c_skip ?_
    refine c_seq ?_
    refine c_draw #[true, true, true, true, true, true, true, true, true, false, true, true, false] rfl (n := 13) rfl ?_
    refine d_T 0 rfl (by kernel_rfl) rfl (y_move rfl) rfl ?_
    refine d_T 1 rfl (by kernel_rfl) rfl (y_move rfl) rfl ?_
    refine d_T 2 rfl (by kernel_rfl) rfl (y_nilck rfl) rfl ?_
    refine d_T 3 rfl (by kernel_rfl) rfl (y_fa fl_98_0 rfl) rfl ?_
    refine d_ld 4 rfl (by kernel_rfl) one_96 rfl (fun x hx => hx) m0 Wr.g0 rfl ?_
    refine d_T 5 rfl (by kernel_rfl) rfl (y_move rfl) rfl ?_
    refine d_hard 6 rfl (by kernel_rfl) ?_
    refine o_call en_78 rfl (t78 _ _ _ _ _ _ _ hy) (s_skip (s_skip (s_skip (s_take s_nil)))) rfl ?_
    rintro v S' ⟨b_1, rfl, rfl⟩
    refine o_front (s_get (ks k0) (s_get (ks k0) (s_get (ks k0) (s_get (ks k0) (s_get k0 s_nil))))) ?_
    refine o_stop (fun _ => (fun x hx => (ms hx))) ?_
    refine d_T 7 rfl (by kernel_rfl) rfl (y_build st_130 rfl (fb rfl rfl rfl Fl.s0 fb0)) rfl ?_
    refine d_hard 8 rfl (by kernel_rfl) ?_
    refine o_bs1 sz_96 rfl rfl rfl rfl rfl rfl (fun b_2 => ?_)
    refine o_stop (fun _ => (fun x hx => (ms (ms hx)))) ?_
    refine d_hard 9 rfl (by kernel_rfl) ?_
    refine o_lappN sz_96 rfl rfl rfl hw rfl rfl (flR.mk (x := ⟨raw, 0, false⟩) ⟨hb, by show raw.length ≤ 1000; omega, (by decide : (0 : Int) ≤ 0 ∧ (0 : Int) ≤ 5)⟩) (s_get (ks (ks (ks k0))) (s_get (ks (ks (ks k0))) (s_get k0 (s_get k0 s_nil)))) (by omega) (by omega) rfl (fun v_1 gv_1 hl_1 => ?_)
    obtain ⟨bq, cq, hvq⟩ := hl_1.slice
    subst hvq
    refine o_stop (fun h => nomatch h) ?_
    refine d_T 10 rfl (by kernel_rfl) rfl (y_nilck rfl) rfl ?_
    refine d_T 11 rfl (by kernel_rfl) rfl (y_fa fl_98_0 rfl) rfl ?_
    refine d_hard 12 rfl (by kernel_rfl) ?_
    refine o_st one_96 rfl rfl rfl (rs (rs r0)) Wr.s0 (of_blt rfl) ?_
    refine o_stop (fun h => nomatch h) ?_
    refine d_nil0 (by kernel_rfl) rfl ?_
    refine c_seq ?_
    refine c_region ?_
    refine o_L (y_assign rfl) rfl rfl ?_
    refine o_nil0 rfl ?_
    refine c_ret ?_
    refine fun aX wX heX hsX => ret1 Tryz.results124 heX rfl (s_get (ks (ks k0)) (s_get k0 (s_get k0 (s_get k0 s_nil)))) ?_
    have e1 : wPut l raw = l ++ [⟨raw, 0, false⟩] := by unfold wPut; rw [if_neg (by omega)]
    rw [e1]
    exact ⟨_, _, _, congrArg Value.bool (decide_eq_true (by omega)).symm, .of hl_1, rfl⟩

/-- (*e2e/wirem.Wire).Tick -/
theorem t84 (b : Nat) (v : Value) (l : List Flt) (gv gd : List Chunk) (hw : LstN 130 3 flR v l gv gd) (h64 : l.length ≤ 64) : Trip Tryz.prog 84 #[.pointer (some ⟨b, 0, none⟩)] [[(b, .cells (Wr.mk v).enc 98 (0, 0))], gv, gd] (fun u S' => ∃ gv', u = .tuple #[] ∧ LstN 130 3 flR v (wTick l) gv' gd ∧ S' = [[(b, .cells (Wr.mk v).enc 98 (0, 0))], gv', gd]) := by
  obtain ⟨pw, cw, hvw⟩ := hw.slice
  subst hvw
  refine fn_entry (args := [.pointer (some ⟨b, 0, none⟩)]) Tryz.func84 rfl Tryz.ntmps84 rfl (fun w0 => ?_)
  refine c_seq ?_
  refine c_region ?_
  refine o_L (y_assign rfl) rfl rfl ?_
  refine o_nil0 rfl ?_
  refine c_block ?_
  refine c_loopG (ι := Nat × List Chunk) (fun i_ => [(2, .int .i64 (i_.1 : Int))]) (fun i_ => [i_.2]) (fun i_ => i_.1 ≤ l.length ∧ LstN 130 3 flR (.slice pw l.length cw) ((l.take i_.1).map wTick1 ++ l.drop i_.1) i_.2 gd) (fun i_ => l.length - i_.1) (0, gv) (by exact ⟨Nat.zero_le _, by simpa using hw⟩) ⟨by first | rfl | exact gteI rfl (by omega), trivial⟩ (s_get (ks k0) (s_get k0 (s_get k0 s_nil))) ?_
  rintro ⟨k, gv2⟩ ⟨g1, g2⟩
  try dsimp only [List.cons_append, List.nil_append] at *
  have hlen : ((l.take k).map wTick1 ++ l.drop k).length = l.length := by simp; omega
  refine c_seq ?_
  refine c_seq ?_
  refine c_region ?_
  refine o_T (y_move rfl) rfl ?_
  refine o_T (y_move rfl) rfl ?_
  refine o_T (y_nilck rfl) rfl ?_
  refine o_T (y_fa fl_98_0 rfl) rfl ?_
  refine o_ld one_96 rfl (ms m0) Wr.g0 rfl ?_
  refine o_T (y_len Tryz.underlying96 rfl) rfl ?_
  refine o_T (y_lss rfl rfl) rfl ?_
  refine o_nil1 9 rfl rfl ?_
  refine c_cond rfl (fun h88 => ?_) (fun h88 => ?_)
  · try simp only [decide_eq_true_eq, decide_eq_false_iff_not, Bool.not_eq_true', Bool.not_eq_false', Int.not_lt, Int.not_le, Decidable.not_not, beq_iff_eq, bne_iff_ne, ne_eq, beq_eq_false_iff_ne] at h88
    refine c_skip ?_
    refine c_seq ?_
    refine c_block ?_
    refine c_seq ?_
    obtain ⟨bw, cpw, cur, hv2, hg2, hO⟩ := (g2.lst (by omega)).open
    injection hv2 with e1 e2 e3
    subst e1 e3 hg2
    have hat := step_at wTick1 l k (by omega) (by omega)
    have hok := Fl.okAt hO k (by omega)
    rw [hat] at hok
    refine c_region ?_
    refine o_T (y_move rfl) rfl ?_
    refine o_T (y_nilck rfl) rfl ?_
    refine o_T (y_fa fl_98_0 rfl) rfl ?_
    refine o_ld one_96 rfl (ms m0) Wr.g0 rfl ?_
    refine o_T (y_move rfl) rfl ?_
    refine o_T (y_is sl_96 rfl rfl (by omega) (by omega)) rfl ?_
    refine o_T (y_fa fl_130_1 rfl) rfl ?_
    refine o_ld one_3 rfl m0 (Fl.l_age hO k (by omega) (by omega)) rfl ?_
    refine o_T (y_leq rfl rfl) rfl ?_
    refine o_nil1 20 rfl rfl ?_
    refine c_cond rfl (fun h89 => ?_) (fun h89 => ?_)
    · try simp only [decide_eq_true_eq, decide_eq_false_iff_not, Bool.not_eq_true', Bool.not_eq_false', Int.not_lt, Int.not_le, Decidable.not_not, beq_iff_eq, bne_iff_ne, ne_eq, beq_eq_false_iff_ne] at h89
      refine c_region ?_
      refine o_T (y_move rfl) rfl ?_
      refine o_T (y_nilck rfl) rfl ?_
      refine o_T (y_fa fl_98_0 rfl) rfl ?_
      refine o_ld one_96 rfl (ms m0) Wr.g0 rfl ?_
      refine o_T (y_move rfl) rfl ?_
      refine o_T (y_is sl_96 rfl rfl (by omega) (by omega)) rfl ?_
      refine o_T (y_fa fl_130_1 rfl) rfl ?_
      refine o_ld one_3 rfl m0 (Fl.l_age hO k (by omega) (by omega)) rfl ?_
      refine o_T (y_add rfl rfl (w64 (by rw [hat]; have := hok.age; omega))) rfl ?_
      refine o_T (y_is sl_96 rfl rfl (by omega) (by omega)) rfl ?_
      refine o_T (y_fa fl_130_1 rfl) rfl ?_
      refine o_st one_3 rfl rfl rfl r0 (set_at (o' := 0 + k * 3 + 1) (by omega)) (Fl.bnd hO k (by omega) 1 (by omega) (by omega)) ?_
      have hO2 := Fl.s_age hO k (by omega) (o := 0 + k * 3 + 1) rfl ((((l.take k).map wTick1 ++ l.drop k)[k]'(by omega)).age + 1) (by rw [hat]; have := hok.age; rw [hat] at h89; omega)
      refine o_nil0 rfl ?_
      refine c_region ?_
      refine o_T (y_move rfl) rfl ?_
      refine o_T (y_add rfl rfl (w64 (by omega))) rfl ?_
      refine o_L (y_assign rfl) rfl rfl ?_
      refine o_nil0 rfl ?_
      have hlen2 : ((l.take (k + 1)).map wTick1 ++ l.drop (k + 1)).length = l.length := by simp; omega
      have e9 : (((l.take k).map wTick1 ++ l.drop k)).set k { (((l.take k).map wTick1 ++ l.drop k))[k]'(by omega) with age := ((((l.take k).map wTick1 ++ l.drop k))[k]'(by omega)).age + 1 } = (l.take (k + 1)).map wTick1 ++ l.drop (k + 1) := by
        have e7 := step_set wTick1 l k (by omega)
        have e8 : wTick1 l[k] = { l[k] with age := l[k].age + 1 } := by unfold wTick1; rw [if_pos (by rw [hat] at h89; omega)]
        rw [e8] at e7
        rw [← e7, hat]
      rw [e9] at hO2
      refine ⟨(k + 1, _), ⟨⟨by omega, lstN_of_open hO2 hlen2⟩, by dsimp only; omega⟩, ⟨gteI rfl (by dsimp only; omega), trivial⟩, ⟨rfl, rfl⟩, _, ((s_take (s_take (s_take s_nil))))⟩
    · try simp only [decide_eq_true_eq, decide_eq_false_iff_not, Bool.not_eq_true', Bool.not_eq_false', Int.not_lt, Int.not_le, Decidable.not_not, beq_iff_eq, bne_iff_ne, ne_eq, beq_eq_false_iff_ne] at h89
      refine c_skip ?_
      refine c_region ?_
      refine o_T (y_move rfl) rfl ?_
      refine o_T (y_add rfl rfl (w64 (by omega))) rfl ?_
      refine o_L (y_assign rfl) rfl rfl ?_
      refine o_nil0 rfl ?_
      have hlen2 : ((l.take (k + 1)).map wTick1 ++ l.drop (k + 1)).length = l.length := by simp; omega
      have e9 := step_same wTick1 l k (by omega) (by unfold wTick1; rw [if_neg (by rw [hat] at h89; omega)])
      rw [e9] at hO
      refine ⟨(k + 1, _), ⟨⟨by omega, lstN_of_open hO hlen2⟩, by dsimp only; omega⟩, ⟨gteI rfl (by dsimp only; omega), trivial⟩, ⟨rfl, rfl⟩, _, ((s_take (s_take (s_take s_nil))))⟩
  · try simp only [decide_eq_true_eq, decide_eq_false_iff_not, Bool.not_eq_true', Bool.not_eq_false', Int.not_lt, Int.not_le, Decidable.not_not, beq_iff_eq, bne_iff_ne, ne_eq, beq_eq_false_iff_ne] at h88
    refine c_exit ?_
    refine fun aX wX heX hsX => ret0 Tryz.results84 (s_get (ks k0) (s_get k0 (s_get k0 s_nil))) ?_
    obtain rfl : k = l.length := by omega
    rw [List.take_length, List.drop_length, List.append_nil] at g2
    exact ⟨gv2, rfl, g2, rfl⟩

end Go.Proofs.Qxb6500351aGreat
