/- MADE BY PROGRAM (tools/gen.py over tools/specs351.py): walks. -/
import Derived.Test.Qxb6500351aGreatFacts
import Derived.Test.Qxb6500351aGreatW18
set_option linter.unusedVariables false
set_option linter.unusedSimpArgs false
namespace Go.Proofs.Qxb6500351aGreat
open Go.Eng
set_option maxRecDepth 20000
set_option maxHeartbeats 4000000
/-- e2e/ip.packet -/
theorem t199 (proto src dst id om : Int) (b o n cap e : Nat) (cs : Array Value) (l : List Int) (h1 : 0 ≤ proto ∧ proto ≤ 255) (h2 : 0 ≤ src ∧ src ≤ 255) (h3 : 0 ≤ dst ∧ dst ≤ 255) (h4 : 0 ≤ id ∧ id ≤ 255) (h5 : 0 ≤ om ∧ om ≤ 255) (h6 : n ≤ 255) (hy : BytAt o n cap cs l) : Trip Tryz.prog 199 #[.int .i64 proto, .int .i64 src, .int .i64 dst, .int .i64 id, .int .i64 om, .slice (some ⟨b, o, none⟩) n cap] [[(b, .cells cs e (0, 0))]] (fun u S' => ∃ b3, u = byV b3 (ipPkt proto src dst id om l) ∧ S' = [byG b3 (ipPkt proto src dst id om l) 5, [(b, .cells cs e (0, 0))]]) := by
  have hn := hy.n_eq
  have hcp := hy.cap
  refine fn_entry (args := [.int .i64 proto, .int .i64 src, .int .i64 dst, .int .i64 id, .int .i64 om, .slice (some ⟨b, o, none⟩) n cap]) Tryz.func199 rfl Tryz.ntmps199 rfl (fun w0 => ?_)
  refine c_seq ?_
  refine c_region ?_
  refine o_L (y_assign rfl) rfl rfl ?_
  refine o_nil0 rfl ?_
  refine c_seq ?_
  refine c_region ?_
  refine o_T (y_move rfl) rfl ?_
  refine o_T (y_len Tryz.underlying81 rfl) rfl ?_
  refine o_T (y_add rfl rfl (w64 (by omega))) rfl ?_
  refine o_makeB (8 + n) sz_81 rfl rfl (by first | rfl | omega) (by first | rfl | omega) (by omega) (by omega) rfl (fun b_1 => ?_)
  refine o_L (y_assign rfl) rfl rfl ?_
  refine o_nil0 rfl ?_
  refine c_seq ?_
  refine c_region ?_
  refine o_T (y_move rfl) rfl ?_
  refine o_T (y_move rfl) rfl ?_
  refine o_T (y_conv Tryz.underlying3 Tryz.underlying5 rfl (w8 _)) rfl ?_
  refine o_T (y_is sl_81 rfl rfl (by omega) (by omega)) rfl ?_
  refine o_st one_5 rfl rfl rfl r0 (bV_set _ 0 _ rfl) (bV_size _ (by first | omega | (simp only [List.length_set, List.length_replicate]; omega) | (simp <;> omega))) ?_
  refine o_nil0 rfl ?_
  refine c_seq ?_
  refine c_region ?_
  refine o_T (y_move rfl) rfl ?_
  refine o_T (y_is sl_81 rfl rfl (by omega) (by omega)) rfl ?_
  refine o_st one_5 rfl rfl rfl r0 (bV_set _ 1 _ rfl) (bV_size _ (by first | omega | (simp only [List.length_set, List.length_replicate]; omega) | (simp <;> omega))) ?_
  refine o_nil0 rfl ?_
  refine c_seq ?_
  refine c_region ?_
  refine o_T (y_move rfl) rfl ?_
  refine o_T (y_move rfl) rfl ?_
  refine o_T (y_conv Tryz.underlying3 Tryz.underlying5 rfl (w8 _)) rfl ?_
  refine o_T (y_is sl_81 rfl rfl (by omega) (by omega)) rfl ?_
  refine o_st one_5 rfl rfl rfl r0 (bV_set _ 2 _ rfl) (bV_size _ (by first | omega | (simp only [List.length_set, List.length_replicate]; omega) | (simp <;> omega))) ?_
  refine o_nil0 rfl ?_
  refine c_seq ?_
  refine c_region ?_
  refine o_T (y_move rfl) rfl ?_
  refine o_T (y_move rfl) rfl ?_
  refine o_T (y_conv Tryz.underlying3 Tryz.underlying5 rfl (w8 _)) rfl ?_
  refine o_T (y_is sl_81 rfl rfl (by omega) (by omega)) rfl ?_
  refine o_st one_5 rfl rfl rfl r0 (bV_set _ 3 _ rfl) (bV_size _ (by first | omega | (simp only [List.length_set, List.length_replicate]; omega) | (simp <;> omega))) ?_
  refine o_nil0 rfl ?_
  refine c_seq ?_
  refine c_region ?_
  refine o_T (y_move rfl) rfl ?_
  refine o_T (y_move rfl) rfl ?_
  refine o_T (y_conv Tryz.underlying3 Tryz.underlying5 rfl (w8 _)) rfl ?_
  refine o_T (y_is sl_81 rfl rfl (by omega) (by omega)) rfl ?_
  refine o_st one_5 rfl rfl rfl r0 (bV_set _ 4 _ rfl) (bV_size _ (by first | omega | (simp only [List.length_set, List.length_replicate]; omega) | (simp <;> omega))) ?_
  refine o_nil0 rfl ?_
  refine c_seq ?_
  refine c_region ?_
  refine o_T (y_move rfl) rfl ?_
  refine o_T (y_move rfl) rfl ?_
  refine o_T (y_conv Tryz.underlying3 Tryz.underlying5 rfl (w8 _)) rfl ?_
  refine o_T (y_is sl_81 rfl rfl (by omega) (by omega)) rfl ?_
  refine o_st one_5 rfl rfl rfl r0 (bV_set _ 5 _ rfl) (bV_size _ (by first | omega | (simp only [List.length_set, List.length_replicate]; omega) | (simp <;> omega))) ?_
  refine o_nil0 rfl ?_
  refine c_seq ?_
  refine c_region ?_
  refine o_T (y_move rfl) rfl ?_
  refine o_T (y_move rfl) rfl ?_
  refine o_T (y_len Tryz.underlying81 rfl) rfl ?_
  refine o_T (y_conv Tryz.underlying3 Tryz.underlying5 rfl (w8 _)) rfl ?_
  refine o_T (y_is sl_81 rfl rfl (by omega) (by omega)) rfl ?_
  refine o_st one_5 rfl rfl rfl r0 (bV_set _ 6 _ rfl) (bV_size _ (by first | omega | (simp only [List.length_set, List.length_replicate]; omega) | (simp <;> omega))) ?_
  refine o_nil0 rfl ?_
  refine c_seq ?_
  refine c_row (g' := byG b_1 (pkL proto src dst id om l) 5) q0 (byG_eq (pkRow hn (by omega) (by omega) (by omega) (by omega) (by omega) (by omega))) ?_
  have hrl := pkL_len (proto := proto) (src := src) (dst := dst) (id := id) (om := om) (l := l)
  rw [hn] at hrl
  have hrb := pkL_b (l := l) h1 h2 h3 h4 h5 (by omega)
  refine c_region ?_
  refine o_T (y_move rfl) rfl ?_
  refine o_T (y_move rfl) rfl ?_
  refine o_callrv en_148 rfl (t148 _ _ _ _ _ _ _ (BytAt.ful (by first | assumption | omega) (by assumption) (by omega)) (by omega)) (s_take s_nil) rfl ?_
  refine o_T (y_is sl_81 rfl rfl (by omega) (by omega)) rfl ?_
  refine o_st one_5 rfl rfl rfl r0 (bV_set _ 7 _ rfl) (bV_size _ (by first | omega | (simp only [List.length_set, List.length_replicate]; omega) | (simp <;> omega))) ?_
  refine o_nil0 rfl ?_
  refine c_seq ?_
  refine c_region ?_
  refine o_T (y_move rfl) rfl ?_
  refine o_T (y_sls sl_81 rfl (bS (i := 8) rfl rfl) bN (by omega) (by omega)) rfl ?_
  refine o_T (y_move rfl) rfl ?_
  refine o_copyB _ sz_81 rfl rfl hy (by first | rfl | (simp only [Nat.min_def]; split <;> omega)) r0 (ms m0) (by first | (simp only [List.length_set, List.length_replicate, List.length_append, List.length_take, List.length_drop, List.length_map, List.length_range]; (try split) <;> omega) | (simp <;> omega)) (.inr ⟨_, rfl, rfl, rfl⟩) ?_
  refine o_nil0 rfl ?_
  refine c_seq ?_
  refine c_region ?_
  refine o_T (y_move rfl) rfl ?_
  refine o_L (y_assign rfl) rfl rfl ?_
  refine o_nil0 rfl ?_
  refine c_ret ?_
  refine fun aX wX heX hsX => ret1 Tryz.results199 heX rfl (s_take (s_take s_nil)) ?_
  exact ⟨_, byV_eq (by rw [ipPkt_len, hn]), bs2 (byG_eq (pkEnd hn (by simp only [Nat.min_def]; split <;> omega) rfl rfl)) rfl⟩

end Go.Proofs.Qxb6500351aGreat
