/- MADE BY PROGRAM (tools/gen.py over tools/specs351.py): walks. -/
import Derived.Test.Qxb6500351aGreatFacts
import Derived.Test.Qxb6500351aGreatMd8
import Derived.Test.Qxb6500351aGreatW16
set_option linter.unusedVariables false
set_option linter.unusedSimpArgs false
namespace Go.Proofs.Qxb6500351aGreat
open Go.Eng
set_option maxRecDepth 20000
set_option maxHeartbeats 4000000
/-- e2e/ip.sumOf -/
theorem t148 (b o n cap e : Nat) (cs : Array Value) (l : List Int) (hy : BytAt o n cap cs l) (h8 : 7 ≤ n) : Trip Tryz.prog 148 #[.slice (some ⟨b, o, none⟩) n cap] [[(b, .cells cs e (0, 0))]] (fun u S' => u = .int .u8 (ipSum l) ∧ S' = [[(b, .cells cs e (0, 0))]]) := by
  have hn := hy.n_eq
  refine fn_entry (args := [.slice (some ⟨b, o, none⟩) n cap]) Tryz.func148 rfl Tryz.ntmps148 rfl (fun w0 => ?_)
  refine c_seq ?_
  refine c_region ?_
  refine o_L (y_assign rfl) rfl rfl ?_
  refine o_nil0 rfl ?_
  refine c_seq ?_
  refine c_region ?_
  refine o_L (y_assign rfl) rfl rfl ?_
  refine o_nil0 rfl ?_
  refine c_seq ?_
  refine c_seq ?_
  refine c_region ?_
  refine o_L (y_assign rfl) rfl rfl ?_
  refine o_nil0 rfl ?_
  refine c_block ?_
  refine c_loopG (ι := Nat) (fun i => [(4, .int .i64 (i : Int)), (3, .int .u8 (sum8 (l.take i)))]) (fun i => []) (fun i => i ≤ 7) (fun i => 7 - i) 0 (by omega) ⟨by first | rfl | exact gteI rfl (by omega), by first | rfl | exact gteI rfl (by omega), trivial⟩ (s_take s_nil) ?_
  rintro j hI
  try dsimp only at hI
  refine c_seq ?_
  refine c_seq ?_
  refine c_region ?_
  refine o_T (y_move rfl) rfl ?_
  refine o_T (y_lss rfl rfl) rfl ?_
  refine o_nil1 6 rfl rfl ?_
  refine c_cond rfl (fun h63 => ?_) (fun h63 => ?_)
  · try simp only [decide_eq_true_eq, decide_eq_false_iff_not, Bool.not_eq_true', Bool.not_eq_false', Int.not_lt, Int.not_le, Decidable.not_not, beq_iff_eq, bne_iff_ne, ne_eq, beq_eq_false_iff_ne] at h63
    refine c_skip ?_
    refine c_seq ?_
    refine c_block ?_
    refine c_region ?_
    refine o_T (y_move rfl) rfl ?_
    refine o_T (y_move rfl) rfl ?_
    refine o_T (y_move rfl) rfl ?_
    refine o_T (y_is sl_81 rfl rfl (by omega) (by omega)) rfl ?_
    refine o_ld one_5 rfl m0 (hy.getD (i := j) (by omega) rfl) rfl ?_
    refine o_T (y_add rfl rfl (w8 _)) rfl ?_
    refine o_L (y_assign rfl) rfl rfl ?_
    refine o_nil0 rfl ?_
    refine c_region ?_
    refine o_T (y_move rfl) rfl ?_
    refine o_T (y_add rfl rfl (w64 (by omega))) rfl ?_
    refine o_L (y_assign rfl) rfl rfl ?_
    refine o_nil0 rfl ?_
    refine ⟨(j + 1), ⟨by omega, by first | omega | (dsimp only; omega)⟩, ⟨by first | rfl | exact gteI rfl (by omega), gteI rfl (sum8_take l j (by omega)).symm, trivial⟩, ⟨rfl, rfl⟩, _, ((s_take s_nil))⟩
  · try simp only [decide_eq_true_eq, decide_eq_false_iff_not, Bool.not_eq_true', Bool.not_eq_false', Int.not_lt, Int.not_le, Decidable.not_not, beq_iff_eq, bne_iff_ne, ne_eq, beq_eq_false_iff_ne] at h63
    refine c_exit ?_
    refine c_seq ?_
    refine c_region ?_
    refine o_T (y_move rfl) rfl ?_
    refine o_T (y_sub rfl rfl (w8 _)) rfl ?_
    refine o_L (y_assign rfl) rfl rfl ?_
    refine o_nil0 rfl ?_
    refine c_ret ?_
    refine fun aX wX heX hsX => ret1 Tryz.results148 heX rfl (s_take s_nil) ?_
    obtain rfl : j = 7 := by omega
    exact ⟨rfl, rfl⟩

/-- e2e/ip.keyOf -/
theorem t149 (src proto id : Int) (h1 : 0 ≤ src ∧ src < 256) (h2 : 0 ≤ proto ∧ proto < 256) (h3 : 0 ≤ id ∧ id < 256) : Trip Tryz.prog 149 #[.int .i64 src, .int .i64 proto, .int .i64 id] [] (fun u S' => S' = [] ∧ u = .int .i64 (keyOf src proto id)) := by
  refine fn_entry (args := [.int .i64 src, .int .i64 proto, .int .i64 id]) Tryz.func149 rfl Tryz.ntmps149 rfl (fun w0 => ?_)
  refine c_seq ?_
  refine c_region ?_
  refine o_L (y_assign rfl) rfl rfl ?_
  refine o_nil0 rfl ?_
  refine c_seq ?_
  refine c_region ?_
  refine o_T (y_move rfl) rfl ?_
  refine o_T (y_shl rfl rfl (by omega) (shl_key 16 65536 (by decide) (by omega) (by omega) (by omega))) rfl ?_
  refine o_T (y_move rfl) rfl ?_
  refine o_T (y_shl rfl rfl (by omega) (shl_key 8 256 (by decide) (by omega) (by omega) (by omega))) rfl ?_
  refine o_T (y_or rfl rfl (key_or1 h1 h2)) rfl ?_
  refine o_T (y_move rfl) rfl ?_
  refine o_T (y_or rfl rfl (key_or2 h1 h2 h3)) rfl ?_
  refine o_L (y_assign rfl) rfl rfl ?_
  refine o_nil0 rfl ?_
  refine c_ret ?_
  refine fun aX wX heX hsX => ret1 Tryz.results149 heX rfl s_nil ?_
  exact ⟨rfl, rfl⟩

end Go.Proofs.Qxb6500351aGreat
