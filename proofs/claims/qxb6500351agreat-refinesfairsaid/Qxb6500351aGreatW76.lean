/- MADE BY PROGRAM (tools/gen.py over tools/specsw.py): walks. -/
import Derived.Test.Qxb6500351aGreatRp9
set_option linter.unusedVariables false
set_option linter.unusedSimpArgs false
namespace Go.Proofs.Qxb6500351aGreat
open Go.Eng
set_option maxRecDepth 20000
set_option maxHeartbeats 4000000
/-- (*e2e/towerlaw.World).Put -/
theorem t83 (A : WA) (q : Bool) (x : Wrld) (V : WV) (c : Nat) (c3 : c < 3) (v : Value) (fr : List (List Int)) (gv gd : List Chunk) (gw : List Chunk) (m o : Nat) (gm go : List Chunk) (hF : Frs v fr gv gd) (hfl : fr.length ≤ 1000) (hw : WrG A.bw x.wr gw) (h64 : x.wr.length ≤ 64) (hm : PM m V.mine gm) (ho : PO o V.outs go) (hmm : m + fr.length ≤ 2900000000000) (hoo : o ≤ 2900000000000) (hou : 0 ≤ x.out c ∧ x.out c ≤ 1000000) (hsp : 0 ≤ x.spilt ∧ x.spilt ≤ 1000000000000000) : Trip Tryz.prog 83 #[.pointer (some ⟨A.b, 0, none⟩), .int .i64 (c : Int), v] [[(A.b, .cells (A.wd q x V).enc 53 (0, 0))], gw, gm, go, gv, gd] (fun u S' => ∃ (vm vo : Value) (gw' gm' go' : List Chunk), u = .tuple #[] ∧ WrG A.bw (x.put c fr).wr gw' ∧ PM (m + fr.length) vm gm' ∧ PO (o + 1) vo go' ∧ S' = [[(A.b, .cells (A.wd q (x.put c fr) { V with mine := vm, outs := vo }).enc 53 (0, 0))], gw', gm', go']) := by
  have hln := lstN_bnd hF
  obtain ⟨pf, cf, hvf⟩ := hF.slice
  subst hvf
  refine fn_entry (args := [.pointer (some ⟨A.b, 0, none⟩), .int .i64 (c : Int), .slice pf fr.length cf]) Tryz.func83 rfl Tryz.ntmps83 rfl (fun w0 => ?_)
  refine c_seq ?_
  refine c_region ?_
  refine o_L (y_assign rfl) rfl rfl ?_
  refine o_nil0 rfl ?_
  refine c_seq ?_
  refine c_seq ?_
  refine c_row (g' := [(A.b, .cells (A.wd q (x.putI c (fr.take 0)) V).enc 53 (0, 0))]) q0 (by rw [List.take_zero, Wrld.putI_nil]) ?_
  refine c_region ?_
  refine o_L (y_assign rfl) rfl rfl ?_
  refine o_nil0 rfl ?_
  refine c_block ?_
  refine c_loopG (ι := Nat × List Chunk) (fun i_ => [(6, .int .i64 ((fr.take i_.1).countP firstFrag : Nat)), (7, .int .i64 (i_.1 : Int))]) (fun i_ => [[(A.b, .cells (A.wd q (x.putI c (fr.take i_.1)) V).enc 53 (0, 0))], i_.2]) (fun i_ => i_.1 ≤ fr.length ∧ WrG A.bw (x.putI c (fr.take i_.1)).wr i_.2) (fun i_ => fr.length - i_.1) (0, gw) (by exact ⟨Nat.zero_le _, by rw [List.take_zero, Wrld.putI_nil]; exact hw⟩) ⟨by first | rfl | exact gteI rfl (by omega), by first | rfl | exact gteI rfl (by omega), trivial⟩ (s_take (s_take (s_take (s_take (s_take (s_take s_nil)))))) ?_
  rintro ⟨k, gw2⟩ ⟨g1, g2⟩
  try dsimp only [List.cons_append, List.nil_append] at *
  refine c_seq ?_
  refine c_seq ?_
  refine c_region ?_
  refine o_T (y_move rfl) rfl ?_
  refine o_T (y_move rfl) rfl ?_
  refine o_T (y_len Tryz.underlying51 rfl) rfl ?_
  refine o_T (y_lss rfl rfl) rfl ?_
  refine o_nil1 11 rfl rfl ?_
  refine c_cond rfl (fun h264 => ?_) (fun h264 => ?_)
  · try simp only [decide_eq_true_eq, decide_eq_false_iff_not, Bool.not_eq_true', Bool.not_eq_false', Int.not_lt, Int.not_le, Decidable.not_not, beq_iff_eq, bne_iff_ne, ne_eq, beq_eq_false_iff_ne, WA.wd] at h264
    refine c_skip ?_
    refine c_seq ?_
    refine c_block ?_
    refine c_seq ?_
    refine c_seq ?_
    have hk : k < fr.length := by omega
    obtain ⟨bf, cpf, curf, e1, egf, hOf⟩ := (hF.lst (by omega)).open
    injection e1 with e1 e2 e3
    subst e1 e3 egf
    obtain ⟨rb, ga, gb, hgd, hcur, hbk, hlk⟩ := hOf.row k hk
    have hwl : (x.putI c (fr.take k)).wr.length ≤ 64 := wPuts_len _ h64
    have hcl : (fr.take k).countP firstFrag ≤ k := Nat.le_trans List.countP_le_length (by rw [List.length_take]; omega)
    have hou : (x.putI c (fr.take k)).out c = x.out c + ((fr.take k).countP firstFrag : Nat) := upA_at ..
    have hsb := wSpill_b x.wr (fr.take k)
    have hsl : (fr.take k).length ≤ k := by rw [List.length_take]; omega
    have hsq : (x.putI c (fr.take k)).spilt = x.spilt + wSpill x.wr (fr.take k) := rfl
    refine c_region ?_
    refine o_T (y_move rfl) rfl ?_
    refine o_T (y_move rfl) rfl ?_
    refine o_T (y_is sl_51 rfl rfl (by omega) (by omega)) rfl ?_
    refine o_ld one_81 rfl (ms (ms (ms (ms m0)))) (hcur _ (by omega)) rfl ?_
    refine o_callrv en_123 rfl (s123 hgd hbk hlk) (s_skip (s_skip (s_skip (s_skip (s_skip (s_take s_nil)))))) rfl ?_
    refine o_nil1 18 rfl rfl ?_
    refine c_cond rfl (fun h265 => ?_) (fun h265 => ?_)
    · try simp only [decide_eq_true_eq, decide_eq_false_iff_not, Bool.not_eq_true', Bool.not_eq_false', Int.not_lt, Int.not_le, Decidable.not_not, beq_iff_eq, bne_iff_ne, ne_eq, beq_eq_false_iff_ne, WA.wd] at h265
      refine c_seq ?_
      refine c_draw #[true, true, true, true, true, true, true, true, true, true, false] rfl (n := 11) rfl ?_
      refine d_T 0 rfl (by kernel_rfl) rfl (y_move rfl) rfl ?_
      refine d_T 1 rfl (by kernel_rfl) rfl (y_move rfl) rfl ?_
      refine d_T 2 rfl (by kernel_rfl) rfl (y_nilck rfl) rfl ?_
      refine d_T 3 rfl (by kernel_rfl) rfl (y_fa fl_53_10 rfl) rfl ?_
      refine d_T 4 rfl (by kernel_rfl) rfl (y_ia ar_45 rfl rfl (by omega) (by omega)) rfl ?_
      refine d_ld 5 rfl (by kernel_rfl) one_3 rfl (fun x hx => hx) m0 ((Wd.g_out c (by omega) (by omega)).trans (congrArg some (show _ = Value.int .i64 ((x.putI c (fr.take k)).out c) from rfl))) rfl ?_
      refine d_T 6 rfl (by kernel_rfl) rfl (y_add rfl rfl (w64 (by omega))) rfl ?_
      refine d_T 7 rfl (by kernel_rfl) rfl (y_nilck rfl) rfl ?_
      refine d_T 8 rfl (by kernel_rfl) rfl (y_fa fl_53_10 rfl) rfl ?_
      refine d_T 9 rfl (by kernel_rfl) rfl (y_ia ar_45 rfl rfl (by omega) (by omega)) rfl ?_
      refine d_hard 10 rfl (by kernel_rfl) ?_
      refine o_st one_3 rfl rfl rfl r0 (Wd.s_out c (by omega) (by omega)) (by simp only [Wd.size]; omega) ?_
      refine o_stop (fun h => nomatch h) ?_
      refine d_nil0 (by kernel_rfl) rfl ?_
      refine c_region ?_
      refine o_T (y_move rfl) rfl ?_
      refine o_T (y_add rfl rfl (w64 (by omega))) rfl ?_
      refine o_L (y_assign rfl) rfl rfl ?_
      refine o_nil0 rfl ?_
      refine c_seq ?_
      refine c_draw #[true, true, true, true, true, true, true, true, false, true] rfl (n := 10) rfl ?_
      refine d_T 0 rfl (by kernel_rfl) rfl (y_move rfl) rfl ?_
      refine d_T 1 rfl (by kernel_rfl) rfl (y_nilck rfl) rfl ?_
      refine d_T 2 rfl (by kernel_rfl) rfl (y_fa fl_53_5 rfl) rfl ?_
      refine d_ld 3 rfl (by kernel_rfl) one_43 rfl (fun x hx => hx) m0 Wd.g29 rfl ?_
      refine d_T 4 rfl (by kernel_rfl) rfl (y_move rfl) rfl ?_
      refine d_T 5 rfl (by kernel_rfl) rfl (y_move rfl) rfl ?_
      refine d_T 6 rfl (by kernel_rfl) rfl (y_is sl_51 rfl rfl (by omega) (by omega)) rfl ?_
      refine d_ld 7 rfl (by kernel_rfl) one_81 rfl (fun x hx => hx) (ms (ms (ms (ms m0)))) (hcur _ (by omega)) rfl ?_
      refine d_hard 8 rfl (by kernel_rfl) ?_
      refine o_call en_124 rfl (s124 g2 hwl hgd hbk hlk) (s_skip (s_take (s_skip (s_skip (s_skip (s_take s_nil)))))) rfl ?_
      rintro v S' ⟨gw_1, rfl, hw_1, rfl⟩
      refine o_stop (fun h => nomatch h) ?_
      refine d_T 9 rfl (by kernel_rfl) rfl (y_not rfl) rfl ?_
      refine d_nil1 40 (by kernel_rfl) rfl rfl ?_
      refine c_cond rfl (fun h269 => ?_) (fun h269 => ?_)
      · try simp only [decide_eq_true_eq, decide_eq_false_iff_not, Bool.not_eq_true', Bool.not_eq_false', Int.not_lt, Int.not_le, Decidable.not_not, beq_iff_eq, bne_iff_ne, ne_eq, beq_eq_false_iff_ne, WA.wd] at h269
        refine c_region ?_
        refine o_T (y_move rfl) rfl ?_
        refine o_T (y_nilck rfl) rfl ?_
        refine o_T (y_fa fl_53_13 rfl) rfl ?_
        refine o_ld one_3 rfl (ms (ms m0)) (Wd.g45.trans (congrArg some (show _ = Value.int .i64 (x.putI c (fr.take k)).spilt from rfl))) rfl ?_
        refine o_T (y_add rfl rfl (w64 (by omega))) rfl ?_
        refine o_T (y_nilck rfl) rfl ?_
        refine o_T (y_fa fl_53_13 rfl) rfl ?_
        refine o_st one_3 rfl rfl rfl (rs (rs r0)) Wd.s45 (of_blt rfl) ?_
        refine o_nil0 rfl ?_
        refine c_row (g' := [(A.b, .cells (A.wd q (x.putI c (fr.take (k + 1))) V).enc 53 (0, 0))]) (qs (qs q0)) (congrArg (fun z => [(A.b, Obj.cells (Wd.enc z) 53 (0, 0))]) (putW_yy A q x V hk h265 h269)) ?_
        refine c_region ?_
        refine o_T (y_move rfl) rfl ?_
        refine o_T (y_add rfl rfl (w64 (by omega))) rfl ?_
        refine o_L (y_assign rfl) rfl rfl ?_
        refine o_nil0 rfl ?_
        refine ⟨(k + 1, gw_1), ⟨⟨by omega, by rw [putI_wr x hk]; exact hw_1⟩, by dsimp only; omega⟩, ⟨gteI rfl (by dsimp only; rw [cntF_step hk, if_pos (by rw [h265])]; omega), gteI rfl (by dsimp only; omega), trivial⟩, ⟨rfl, rfl⟩, _, ((s_get (ks (ks k0)) (s_get k0 (s_get (ks k0) (s_get (ks k0) (s_get (ks k0) (s_get k0 s_nil)))))))⟩
      · try simp only [decide_eq_true_eq, decide_eq_false_iff_not, Bool.not_eq_true', Bool.not_eq_false', Int.not_lt, Int.not_le, Decidable.not_not, beq_iff_eq, bne_iff_ne, ne_eq, beq_eq_false_iff_ne, WA.wd] at h269
        refine c_skip ?_
        refine c_row (g' := [(A.b, .cells (A.wd q (x.putI c (fr.take (k + 1))) V).enc 53 (0, 0))]) (qs (qs q0)) (congrArg (fun z => [(A.b, Obj.cells (Wd.enc z) 53 (0, 0))]) (putW_yn A q x V hk h265 h269)) ?_
        refine c_region ?_
        refine o_T (y_move rfl) rfl ?_
        refine o_T (y_add rfl rfl (w64 (by omega))) rfl ?_
        refine o_L (y_assign rfl) rfl rfl ?_
        refine o_nil0 rfl ?_
        refine ⟨(k + 1, gw_1), ⟨⟨by omega, by rw [putI_wr x hk]; exact hw_1⟩, by dsimp only; omega⟩, ⟨gteI rfl (by dsimp only; rw [cntF_step hk, if_pos (by rw [h265])]; omega), gteI rfl (by dsimp only; omega), trivial⟩, ⟨rfl, rfl⟩, _, ((s_get (ks (ks k0)) (s_get k0 (s_get (ks k0) (s_get (ks k0) (s_get (ks k0) (s_get k0 s_nil)))))))⟩
    · try simp only [decide_eq_true_eq, decide_eq_false_iff_not, Bool.not_eq_true', Bool.not_eq_false', Int.not_lt, Int.not_le, Decidable.not_not, beq_iff_eq, bne_iff_ne, ne_eq, beq_eq_false_iff_ne, WA.wd] at h265
      refine c_skip ?_
      refine c_seq ?_
      refine c_draw #[true, true, true, true, true, true, true, true, false, true] rfl (n := 10) rfl ?_
      refine d_T 0 rfl (by kernel_rfl) rfl (y_move rfl) rfl ?_
      refine d_T 1 rfl (by kernel_rfl) rfl (y_nilck rfl) rfl ?_
      refine d_T 2 rfl (by kernel_rfl) rfl (y_fa fl_53_5 rfl) rfl ?_
      refine d_ld 3 rfl (by kernel_rfl) one_43 rfl (fun x hx => hx) m0 Wd.g29 rfl ?_
      refine d_T 4 rfl (by kernel_rfl) rfl (y_move rfl) rfl ?_
      refine d_T 5 rfl (by kernel_rfl) rfl (y_move rfl) rfl ?_
      refine d_T 6 rfl (by kernel_rfl) rfl (y_is sl_51 rfl rfl (by omega) (by omega)) rfl ?_
      refine d_ld 7 rfl (by kernel_rfl) one_81 rfl (fun x hx => hx) (ms (ms (ms (ms m0)))) (hcur _ (by omega)) rfl ?_
      refine d_hard 8 rfl (by kernel_rfl) ?_
      refine o_call en_124 rfl (s124 g2 hwl hgd hbk hlk) (s_skip (s_take (s_skip (s_skip (s_skip (s_take s_nil)))))) rfl ?_
      rintro v S' ⟨gw_2, rfl, hw_2, rfl⟩
      refine o_stop (fun h => nomatch h) ?_
      refine d_T 9 rfl (by kernel_rfl) rfl (y_not rfl) rfl ?_
      refine d_nil1 40 (by kernel_rfl) rfl rfl ?_
      refine c_cond rfl (fun h269 => ?_) (fun h269 => ?_)
      · try simp only [decide_eq_true_eq, decide_eq_false_iff_not, Bool.not_eq_true', Bool.not_eq_false', Int.not_lt, Int.not_le, Decidable.not_not, beq_iff_eq, bne_iff_ne, ne_eq, beq_eq_false_iff_ne, WA.wd] at h269
        refine c_region ?_
        refine o_T (y_move rfl) rfl ?_
        refine o_T (y_nilck rfl) rfl ?_
        refine o_T (y_fa fl_53_13 rfl) rfl ?_
        refine o_ld one_3 rfl (ms (ms m0)) (Wd.g45.trans (congrArg some (show _ = Value.int .i64 (x.putI c (fr.take k)).spilt from rfl))) rfl ?_
        refine o_T (y_add rfl rfl (w64 (by omega))) rfl ?_
        refine o_T (y_nilck rfl) rfl ?_
        refine o_T (y_fa fl_53_13 rfl) rfl ?_
        refine o_st one_3 rfl rfl rfl (rs (rs r0)) Wd.s45 (of_blt rfl) ?_
        refine o_nil0 rfl ?_
        refine c_row (g' := [(A.b, .cells (A.wd q (x.putI c (fr.take (k + 1))) V).enc 53 (0, 0))]) (qs (qs q0)) (congrArg (fun z => [(A.b, Obj.cells (Wd.enc z) 53 (0, 0))]) (putW_ny A q x V hk h265 h269)) ?_
        refine c_region ?_
        refine o_T (y_move rfl) rfl ?_
        refine o_T (y_add rfl rfl (w64 (by omega))) rfl ?_
        refine o_L (y_assign rfl) rfl rfl ?_
        refine o_nil0 rfl ?_
        refine ⟨(k + 1, gw_2), ⟨⟨by omega, by rw [putI_wr x hk]; exact hw_2⟩, by dsimp only; omega⟩, ⟨gteI rfl (by dsimp only; rw [cntF_step hk, if_neg (by rw [h265]; decide)]; omega), gteI rfl (by dsimp only; omega), trivial⟩, ⟨rfl, rfl⟩, _, ((s_get (ks (ks k0)) (s_get k0 (s_get (ks k0) (s_get (ks k0) (s_get (ks k0) (s_get k0 s_nil)))))))⟩
      · try simp only [decide_eq_true_eq, decide_eq_false_iff_not, Bool.not_eq_true', Bool.not_eq_false', Int.not_lt, Int.not_le, Decidable.not_not, beq_iff_eq, bne_iff_ne, ne_eq, beq_eq_false_iff_ne, WA.wd] at h269
        refine c_skip ?_
        refine c_row (g' := [(A.b, .cells (A.wd q (x.putI c (fr.take (k + 1))) V).enc 53 (0, 0))]) (qs (qs q0)) (congrArg (fun z => [(A.b, Obj.cells (Wd.enc z) 53 (0, 0))]) (putW_nn A q x V hk h265 h269)) ?_
        refine c_region ?_
        refine o_T (y_move rfl) rfl ?_
        refine o_T (y_add rfl rfl (w64 (by omega))) rfl ?_
        refine o_L (y_assign rfl) rfl rfl ?_
        refine o_nil0 rfl ?_
        refine ⟨(k + 1, gw_2), ⟨⟨by omega, by rw [putI_wr x hk]; exact hw_2⟩, by dsimp only; omega⟩, ⟨gteI rfl (by dsimp only; rw [cntF_step hk, if_neg (by rw [h265]; decide)]; omega), gteI rfl (by dsimp only; omega), trivial⟩, ⟨rfl, rfl⟩, _, ((s_get (ks (ks k0)) (s_get k0 (s_get (ks k0) (s_get (ks k0) (s_get (ks k0) (s_get k0 s_nil)))))))⟩
  · try simp only [decide_eq_true_eq, decide_eq_false_iff_not, Bool.not_eq_true', Bool.not_eq_false', Int.not_lt, Int.not_le, Decidable.not_not, beq_iff_eq, bne_iff_ne, ne_eq, beq_eq_false_iff_ne, WA.wd] at h264
    refine c_exit ?_
    refine c_seq ?_
    refine c_seq ?_
    obtain rfl : k = fr.length := by omega
    rw [List.take_length] at g2
    rw [List.take_length]
    refine c_region ?_
    refine o_T (y_move rfl) rfl ?_
    refine o_T (y_gtr rfl rfl) rfl ?_
    refine o_nil1 49 rfl rfl ?_
    refine c_cond rfl (fun h273 => ?_) (fun h273 => ?_)
    · try simp only [decide_eq_true_eq, decide_eq_false_iff_not, Bool.not_eq_true', Bool.not_eq_false', Int.not_lt, Int.not_le, Decidable.not_not, beq_iff_eq, bne_iff_ne, ne_eq, beq_eq_false_iff_ne, WA.wd] at h273
      refine c_region ?_
      refine o_T (y_move rfl) rfl ?_
      refine o_T (y_nilck rfl) rfl ?_
      refine o_T (y_fa fl_53_12 rfl) rfl ?_
      refine o_st one_4 rfl rfl rfl r0 Wd.s44 (of_blt rfl) ?_
      refine o_nil0 rfl ?_
      refine c_row (g' := [(A.b, .cells (A.wd q (x.put c fr) V).enc 53 (0, 0))]) q0 (congrArg (fun z => [(A.b, Obj.cells (Wd.enc z) 53 (0, 0))]) (putW_f1 A q x V (by omega))) ?_
      refine c_region ?_
      refine o_T (y_move rfl) rfl ?_
      refine o_T (y_move rfl) rfl ?_
      refine o_call en_82 rfl (t82 _ _ _ _ (by assumption) (by assumption) (by omega) (by omega) hF) (s_take (s_skip (s_take (s_take (s_take (s_take s_nil)))))) rfl ?_
      rintro v S' ⟨vm_1, vo_1, gm_1, go_1, rfl, hm_1, ho_1, rfl⟩
      refine o_nil0 rfl ?_
      refine fun aX wX heX hsX => ret0 Tryz.results83 (s_get k0 (s_get (ks (ks k0)) (s_get k0 (s_get k0 s_nil)))) ?_
      exact ⟨vm_1, vo_1, _, _, _, rfl, g2, hm_1, ho_1, rfl⟩
    · try simp only [decide_eq_true_eq, decide_eq_false_iff_not, Bool.not_eq_true', Bool.not_eq_false', Int.not_lt, Int.not_le, Decidable.not_not, beq_iff_eq, bne_iff_ne, ne_eq, beq_eq_false_iff_ne, WA.wd] at h273
      refine c_skip ?_
      refine c_row (g' := [(A.b, .cells (A.wd q (x.put c fr) V).enc 53 (0, 0))]) q0 (congrArg (fun z => [(A.b, Obj.cells (Wd.enc z) 53 (0, 0))]) (putW_f0 A q x V (by omega))) ?_
      refine c_region ?_
      refine o_T (y_move rfl) rfl ?_
      refine o_T (y_move rfl) rfl ?_
      refine o_call en_82 rfl (t82 _ _ _ _ (by assumption) (by assumption) (by omega) (by omega) hF) (s_take (s_skip (s_take (s_take (s_take (s_take s_nil)))))) rfl ?_
      rintro v S' ⟨vm_2, vo_2, gm_2, go_2, rfl, hm_2, ho_2, rfl⟩
      refine o_nil0 rfl ?_
      refine fun aX wX heX hsX => ret0 Tryz.results83 (s_get k0 (s_get (ks (ks k0)) (s_get k0 (s_get k0 s_nil)))) ?_
      exact ⟨vm_2, vo_2, _, _, _, rfl, g2, hm_2, ho_2, rfl⟩

end Go.Proofs.Qxb6500351aGreat
