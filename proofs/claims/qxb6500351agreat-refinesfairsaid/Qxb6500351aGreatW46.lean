/- MADE BY PROGRAM (tools/gen.py over tools/specs351.py): walks. -/
import Derived.Test.Qxb6500351aGreatFacts
import Derived.Test.Qxb6500351aGreatMd16
import Derived.Test.Qxb6500351aGreatW45
set_option linter.unusedVariables false
set_option linter.unusedSimpArgs false
namespace Go.Proofs.Qxb6500351aGreat
open Go.Eng
set_option maxRecDepth 20000
set_option maxHeartbeats 4000000
/-- (*e2e/wirem.Wire).remove -/
theorem t87 (b : Nat) (v : Value) (n i : Nat) (pa x pb : List Value) (gv : List Chunk) (hw : Vec 130 3 v n (pa ++ x ++ pb) gv) (hi : i < n) (h64 : n ≤ 64) (ha : pa.length = i * 3) (hx : x.length = 3) (hpl : (pa ++ x ++ pb).all plainV = true) : Trip Tryz.prog 87 #[.pointer (some ⟨b, 0, none⟩), .int .i64 (i : Int)] [[(b, .cells (Wr.mk v).enc 98 (0, 0))], gv] (fun u S' => ∃ (v' : Value) (gv' : List Chunk), u = .tuple #[] ∧ Vec 130 3 v' (n - 1) (pa ++ pb) gv' ∧ S' = [[(b, .cells (Wr.mk v').enc 98 (0, 0))], gv']) := by
  obtain ⟨bw, cw, cur, hvw, hgw, hnc, hcm, hsz, htk⟩ := hw.pos (by omega)
  subst hvw hgw
  have hpl0 := hpl
  rw [List.all_append, List.all_append, Bool.and_eq_true, Bool.and_eq_true] at hpl0
  obtain ⟨⟨hpl1, _⟩, hpl2⟩ := hpl0
  have htk1 : cur.toList.take (n * 3) = pa ++ (x ++ pb) := by rw [htk, List.append_assoc]
  have hlt := congrArg List.length htk
  simp only [List.length_append, List.length_take, Array.length_toList] at hlt
  refine fn_entry (args := [.pointer (some ⟨b, 0, none⟩), .int .i64 (i : Int)]) Tryz.func87 rfl Tryz.ntmps87 rfl (fun w0 => ?_)
  refine c_seq ?_
  refine c_region ?_
  refine o_T (y_move rfl) rfl ?_
  refine o_T (y_nilck rfl) rfl ?_
  refine o_T (y_fa fl_98_0 rfl) rfl ?_
  refine o_ld one_96 rfl m0 Wr.g0 rfl ?_
  refine o_T (y_len Tryz.underlying96 rfl) rfl ?_
  refine o_make 0 n sz_96 rfl rfl rfl rfl (by omega) (by omega) (by omega) rfl (fun b_m => ?_)
  refine o_L (y_assign rfl) rfl rfl ?_
  refine o_nil0 rfl ?_
  refine c_seq ?_
  refine c_region ?_
  refine o_T (y_move rfl) rfl ?_
  refine o_T (y_move rfl) rfl ?_
  refine o_T (y_nilck rfl) rfl ?_
  refine o_T (y_fa fl_98_0 rfl) rfl ?_
  refine o_ld one_96 rfl (ms m0) Wr.g0 rfl ?_
  refine o_T (y_move rfl) rfl ?_
  refine o_T (y_sls sl_96 rfl bN (bS (i := i) rfl rfl) (by omega) (by omega)) rfl ?_
  refine o_append (news := pa) sz_96 rfl rfl rfl (Vec.made (by rw [maxLen_eq]; omega)) (fun g' => q0) (ms (ms m0)) (win_pre htk1 ha (by split <;> omega) (by omega)) (by split <;> omega) hpl1 (by omega) (by omega) rfl (fun v1 g1 hv1 hn1 => ?_)
  obtain ⟨p1_, c1_, hvq1⟩ := hv1.slice
  subst hvq1
  refine o_L (y_assign rfl) rfl rfl ?_
  refine o_nil0 rfl ?_
  refine c_region ?_
  refine o_T (y_move rfl) rfl ?_
  refine o_T (y_move rfl) rfl ?_
  refine o_T (y_move rfl) rfl ?_
  refine o_T (y_nilck rfl) rfl ?_
  refine o_T (y_fa fl_98_0 rfl) rfl ?_
  refine o_ld one_96 rfl (ms m0) Wr.g0 rfl ?_
  refine o_T (y_move rfl) rfl ?_
  refine o_T (y_add rfl rfl (w64 (by omega))) rfl ?_
  refine o_T (y_sls sl_96 rfl (bS (i := i + 1) rfl (by omega)) bN (by omega) (by omega)) rfl ?_
  refine o_append (news := pb) sz_96 rfl rfl rfl hv1 (fun g' => q0) (ms (ms m0)) (win_suf (i := i + 1) htk (by rw [List.length_append]; omega) (by omega) (by omega) (by split <;> omega)) (by split <;> omega) hpl2 (by omega) (by omega) rfl (fun v2 g2 hv2 hn2 => ?_)
  obtain ⟨p2_, c2_, hvq2⟩ := hv2.slice
  subst hvq2
  refine o_T (y_nilck rfl) rfl ?_
  refine o_T (y_fa fl_98_0 rfl) rfl ?_
  refine o_st one_96 rfl rfl rfl (rs r0) Wr.s0 (of_blt rfl) ?_
  refine o_nil0 rfl ?_
  refine fun aX wX heX hsX => ret0 Tryz.results87 (s_get (ks k0) (s_get k0 s_nil)) ?_
  have e1 : 0 + (i - 0) + (n - (i + 1)) = n - 1 := by omega
  rw [e1] at hv2 ⊢
  exact ⟨_, _, rfl, hv2, rfl⟩

end Go.Proofs.Qxb6500351aGreat
