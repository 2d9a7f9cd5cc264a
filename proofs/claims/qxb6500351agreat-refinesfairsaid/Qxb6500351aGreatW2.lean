/- MADE BY PROGRAM (tools/gen.py over tools/specs351.py): walks. -/
import Derived.Test.Qxb6500351aGreatFacts
import Derived.Test.Qxb6500351aGreatMd2
import Derived.Test.Qxb6500351aGreatW1
set_option linter.unusedVariables false
set_option linter.unusedSimpArgs false
namespace Go.Proofs.Qxb6500351aGreat
open Go.Eng
set_option maxRecDepth 20000
/-- (*e2e/seg.sums).add -/
theorem t191 (b : Nat) (x : Ss) (c : Int) : Trip Tryz.prog 191 #[.pointer (some ⟨b, 0, none⟩), .int .u8 c] [[(b, .cells x.enc 204 (0, 0))]] (fun u S' => u = .tuple #[] ∧ S' = [[(b, .cells (sumStep x c).enc 204 (0, 0))]]) := by
  refine fn_entry (args := [.pointer (some ⟨b, 0, none⟩), .int .u8 c]) Tryz.func191 rfl Tryz.ntmps191 rfl (fun w0 => ?_)
  refine c_seq ?_
  refine c_region ?_
  refine o_T (y_move rfl) rfl ?_
  refine o_T (y_nilck rfl) rfl ?_
  refine o_T (y_fa fl_204_0 rfl) rfl ?_
  refine o_ld one_5 rfl m0 Ss.g0 rfl ?_
  refine o_T (y_move rfl) rfl ?_
  refine o_T (y_add rfl rfl (w8 _)) rfl ?_
  refine o_T (y_nilck rfl) rfl ?_
  refine o_T (y_fa fl_204_0 rfl) rfl ?_
  refine o_st one_5 rfl rfl rfl r0 Ss.s0 (of_blt rfl) ?_
  refine o_nil0 rfl ?_
  refine c_draw #[true, true, true, true, true, true, true, true, true, true, true, false] rfl (n := 12) rfl ?_
  refine d_T 0 rfl (by kernel_rfl) rfl (y_move rfl) rfl ?_
  refine d_T 1 rfl (by kernel_rfl) rfl (y_nilck rfl) rfl ?_
  refine d_T 2 rfl (by kernel_rfl) rfl (y_fa fl_204_1 rfl) rfl ?_
  refine d_ld 3 rfl (by kernel_rfl) one_5 rfl (fun x hx => hx) m0 Ss.g1 rfl ?_
  refine d_T 4 rfl (by kernel_rfl) rfl (y_move rfl) rfl ?_
  refine d_T 5 rfl (by kernel_rfl) rfl (y_nilck rfl) rfl ?_
  refine d_T 6 rfl (by kernel_rfl) rfl (y_fa fl_204_0 rfl) rfl ?_
  refine d_ld 7 rfl (by kernel_rfl) one_5 rfl (fun x hx => hx) m0 Ss.g0 rfl ?_
  refine d_T 8 rfl (by kernel_rfl) rfl (y_add rfl rfl (w8 _)) rfl ?_
  refine d_T 9 rfl (by kernel_rfl) rfl (y_nilck rfl) rfl ?_
  refine d_T 10 rfl (by kernel_rfl) rfl (y_fa fl_204_1 rfl) rfl ?_
  refine d_hard 11 rfl (by kernel_rfl) ?_
  refine o_st one_5 rfl rfl rfl r0 Ss.s1 (of_blt rfl) ?_
  refine o_stop (fun h => nomatch h) ?_
  refine d_nil0 (by kernel_rfl) rfl ?_
  refine fun aX wX heX hsX => ret0 Tryz.results191 (s_take s_nil) ?_
  exact ⟨rfl, rfl⟩

/-- (*e2e/seg.sums).all -/
theorem t192 (b : Nat) (x : Ss) (b2 o n cap e : Nat) (cs : Array Value) (l : List Int) (hy : BytAt o n cap cs l) : Trip Tryz.prog 192 #[.pointer (some ⟨b, 0, none⟩), .slice (some ⟨b2, o, none⟩) n cap] [[(b, .cells x.enc 204 (0, 0))], [(b2, .cells cs e (0, 0))]] (fun u S' => u = .tuple #[] ∧ S' = [[(b, .cells (sumAll x l).enc 204 (0, 0))], [(b2, .cells cs e (0, 0))]]) := by
  have hn := hy.n_eq
  have hl := hy.len
  refine fn_entry (args := [.pointer (some ⟨b, 0, none⟩), .slice (some ⟨b2, o, none⟩) n cap]) Tryz.func192 rfl Tryz.ntmps192 rfl (fun w0 => ?_)
  refine c_seq ?_
  refine c_region ?_
  refine o_L (y_assign rfl) rfl rfl ?_
  refine o_nil0 rfl ?_
  refine c_block ?_
  refine c_loopG (ι := Nat) (fun i => [(4, .int .i64 (i : Int))]) (fun i => [[(b, .cells (sumAll x (l.take i)).enc 204 (0, 0))]]) (fun i => i ≤ n) (fun i => n - i) 0 (by omega) ⟨by first | rfl | (simp; done), trivial⟩ (s_take (s_take s_nil)) ?_
  rintro k hI
  try dsimp only at hI
  refine c_seq ?_
  refine c_seq ?_
  refine c_region ?_
  refine o_T (y_move rfl) rfl ?_
  refine o_T (y_move rfl) rfl ?_
  refine o_T (y_len Tryz.underlying81 rfl) rfl ?_
  refine o_T (y_lss rfl rfl) rfl ?_
  refine o_nil1 8 rfl rfl ?_
  refine c_cond rfl (fun h17 => ?_) (fun h17 => ?_)
  · try simp only [decide_eq_true_eq, decide_eq_false_iff_not, Bool.not_eq_true', Bool.not_eq_false', Int.not_lt, Int.not_le, Decidable.not_not, beq_iff_eq, bne_iff_ne, ne_eq, beq_eq_false_iff_ne] at h17
    refine c_skip ?_
    refine c_seq ?_
    refine c_block ?_
    refine c_region ?_
    refine o_T (y_move rfl) rfl ?_
    refine o_T (y_move rfl) rfl ?_
    refine o_T (y_move rfl) rfl ?_
    refine o_T (y_is sl_81 rfl rfl (by omega) (by omega)) rfl ?_
    refine o_ld one_5 rfl (ms m0) (hy.getD (i := k) (by omega) rfl) rfl ?_
    refine o_call en_191 rfl (t191 _ _ _) (s_take s_nil) rfl ?_
    rintro v S' ⟨rfl, rfl⟩
    refine o_nil0 rfl ?_
    refine c_region ?_
    refine o_T (y_move rfl) rfl ?_
    refine o_T (y_add rfl rfl (w64 (by omega))) rfl ?_
    refine o_L (y_assign rfl) rfl rfl ?_
    refine o_nil0 rfl ?_
    rw [← sumAll_take x l k (by omega)]
    refine ⟨(k + 1), ⟨by omega, by omega⟩, ⟨by first | rfl | (simp; done) | (simp; omega), trivial⟩, ⟨rfl, rfl⟩, _, ((s_take (s_take s_nil)))⟩
  · try simp only [decide_eq_true_eq, decide_eq_false_iff_not, Bool.not_eq_true', Bool.not_eq_false', Int.not_lt, Int.not_le, Decidable.not_not, beq_iff_eq, bne_iff_ne, ne_eq, beq_eq_false_iff_ne] at h17
    refine c_exit ?_
    refine fun aX wX heX hsX => ret0 Tryz.results192 (s_take (s_take s_nil)) ?_
    exact ⟨rfl, by rw [List.take_of_length_le (by omega)]⟩

/-- e2e/seg.over -/
theorem t155 (src dst : Int) (b1 o1 n1 cap1 e1 b2 o2 n2 cap2 e2 : Nat) (cs1 cs2 : Array Value) (l1 l2 : List Int) (hy1 : BytAt o1 n1 cap1 cs1 l1) (hy2 : BytAt o2 n2 cap2 cs2 l2) : Trip Tryz.prog 155 #[.int .i64 src, .int .i64 dst, .slice (some ⟨b1, o1, none⟩) n1 cap1, .slice (some ⟨b2, o2, none⟩) n2 cap2] [[(b1, .cells cs1 e1 (0, 0))], [(b2, .cells cs2 e2 (0, 0))]] (fun u S' => u = .agg (overF src dst l1 l2).enc ∧ S' = [[(b1, .cells cs1 e1 (0, 0))], [(b2, .cells cs2 e2 (0, 0))]]) := by
  refine fn_entry (args := [.int .i64 src, .int .i64 dst, .slice (some ⟨b1, o1, none⟩) n1 cap1, .slice (some ⟨b2, o2, none⟩) n2 cap2]) Tryz.func155 rfl Tryz.ntmps155 rfl (fun w0 => ?_)
  refine c_seq ?_
  refine c_region ?_
  refine o_alloc ze_204 rfl rfl (fun b_1 => ?_)
  refine o_nil0 rfl ?_
  refine c_seq ?_
  refine c_region ?_
  refine o_T (y_build st_204 rfl (cs := Ss.enc (Ss.mk _ _)) rfl) rfl ?_
  refine o_alloc ze_204 rfl rfl (fun b_2 => ?_)
  refine o_sta ag_204 rfl rfl rfl rfl r0 rfl (by decide) ?_
  refine o_nil0 rfl ?_
  refine c_seq ?_
  refine c_region ?_
  refine o_T (y_move rfl) rfl ?_
  refine o_T (y_conv Tryz.underlying3 Tryz.underlying5 rfl (w8 _)) rfl ?_
  refine o_call en_191 rfl (t191 _ _ _) (s_take s_nil) rfl ?_
  rintro v S' ⟨rfl, rfl⟩
  refine o_nil0 rfl ?_
  refine c_seq ?_
  refine c_region ?_
  refine o_T (y_move rfl) rfl ?_
  refine o_T (y_conv Tryz.underlying3 Tryz.underlying5 rfl (w8 _)) rfl ?_
  refine o_call en_191 rfl (t191 _ _ _) (s_take s_nil) rfl ?_
  rintro v S' ⟨rfl, rfl⟩
  refine o_nil0 rfl ?_
  refine c_seq ?_
  refine c_region ?_
  refine o_T (y_move rfl) rfl ?_
  refine o_call en_192 rfl (t192 _ _ _ _ _ _ _ _ _ hy1) (s_take (s_skip (s_take s_nil))) rfl ?_
  rintro v S' ⟨rfl, rfl⟩
  refine o_nil0 rfl ?_
  refine c_seq ?_
  refine c_region ?_
  refine o_T (y_move rfl) rfl ?_
  refine o_call en_192 rfl (t192 _ _ _ _ _ _ _ _ _ hy2) (s_take (s_skip (s_skip (s_take s_nil)))) rfl ?_
  rintro v S' ⟨rfl, rfl⟩
  refine o_nil0 rfl ?_
  refine c_seq ?_
  refine c_region ?_
  refine o_ldw ag_204 rfl m0 rfl rfl ?_
  refine o_sta ag_204 rfl rfl rfl rfl (rs (rs (rs r0))) rfl (by decide) ?_
  refine o_nil0 rfl ?_
  refine c_ret ?_
  refine fun aX wX heX hsX => retc Tryz.results155 heX hsX rfl ag_204 (ms (ms (ms m0))) rfl (s_get (ks (ks k0)) (s_get (ks k0) s_nil)) ?_
  exact ⟨rfl, rfl⟩

/-- e2e/seg.over -/
theorem t155b (src dst : Int) (b1 o1 n1 cap1 e1 o2 n2 cap2 : Nat) (cs1 : Array Value) (l1 l2 : List Int) (hy1 : BytAt o1 n1 cap1 cs1 l1) (hy2 : BytAt o2 n2 cap2 cs1 l2) : Trip Tryz.prog 155 #[.int .i64 src, .int .i64 dst, .slice (some ⟨b1, o1, none⟩) n1 cap1, .slice (some ⟨b1, o2, none⟩) n2 cap2] [[(b1, .cells cs1 e1 (0, 0))]] (fun u S' => u = .agg (overF src dst l1 l2).enc ∧ S' = [[(b1, .cells cs1 e1 (0, 0))]]) := by
  refine fn_entry (args := [.int .i64 src, .int .i64 dst, .slice (some ⟨b1, o1, none⟩) n1 cap1, .slice (some ⟨b1, o2, none⟩) n2 cap2]) Tryz.func155 rfl Tryz.ntmps155 rfl (fun w0 => ?_)
  refine c_seq ?_
  refine c_region ?_
  refine o_alloc ze_204 rfl rfl (fun b_1 => ?_)
  refine o_nil0 rfl ?_
  refine c_seq ?_
  refine c_region ?_
  refine o_T (y_build st_204 rfl (cs := Ss.enc (Ss.mk _ _)) rfl) rfl ?_
  refine o_alloc ze_204 rfl rfl (fun b_2 => ?_)
  refine o_sta ag_204 rfl rfl rfl rfl r0 rfl (by decide) ?_
  refine o_nil0 rfl ?_
  refine c_seq ?_
  refine c_region ?_
  refine o_T (y_move rfl) rfl ?_
  refine o_T (y_conv Tryz.underlying3 Tryz.underlying5 rfl (w8 _)) rfl ?_
  refine o_call en_191 rfl (t191 _ _ _) (s_take s_nil) rfl ?_
  rintro v S' ⟨rfl, rfl⟩
  refine o_nil0 rfl ?_
  refine c_seq ?_
  refine c_region ?_
  refine o_T (y_move rfl) rfl ?_
  refine o_T (y_conv Tryz.underlying3 Tryz.underlying5 rfl (w8 _)) rfl ?_
  refine o_call en_191 rfl (t191 _ _ _) (s_take s_nil) rfl ?_
  rintro v S' ⟨rfl, rfl⟩
  refine o_nil0 rfl ?_
  refine c_seq ?_
  refine c_region ?_
  refine o_T (y_move rfl) rfl ?_
  refine o_call en_192 rfl (t192 _ _ _ _ _ _ _ _ _ hy1) (s_take (s_skip (s_take s_nil))) rfl ?_
  rintro v S' ⟨rfl, rfl⟩
  refine o_nil0 rfl ?_
  refine c_seq ?_
  refine c_region ?_
  refine o_T (y_move rfl) rfl ?_
  refine o_call en_192 rfl (t192 _ _ _ _ _ _ _ _ _ hy2) (s_take (s_take s_nil)) rfl ?_
  rintro v S' ⟨rfl, rfl⟩
  refine o_nil0 rfl ?_
  refine c_seq ?_
  refine c_region ?_
  refine o_ldw ag_204 rfl m0 rfl rfl ?_
  refine o_sta ag_204 rfl rfl rfl rfl (rs (rs r0)) rfl (by decide) ?_
  refine o_nil0 rfl ?_
  refine c_ret ?_
  refine fun aX wX heX hsX => retc Tryz.results155 heX hsX rfl ag_204 (ms (ms m0)) rfl (s_skip (s_take s_nil)) ?_
  exact ⟨rfl, rfl⟩

/-- e2e/api.CopyBytes -/
theorem t78 (b o n cap e : Nat) (cs : Array Value) (l : List Int) (hy : BytAt o n cap cs l) : Trip Tryz.prog 78 #[.slice (some ⟨b, o, none⟩) n cap] [[(b, .cells cs e (0, 0))]] (fun u S' => ∃ b2, u = byV b2 l ∧ S' = [[(b, .cells cs e (0, 0))], byG b2 l 5]) := by
  have hn := hy.n_eq
  have hl := hy.len
  refine fn_entry (args := [.slice (some ⟨b, o, none⟩) n cap]) Tryz.func78 rfl Tryz.ntmps78 rfl (fun w0 => ?_)
  refine c_seq ?_
  refine c_region ?_
  refine o_L (y_assign rfl) rfl rfl ?_
  refine o_nil0 rfl ?_
  refine c_seq ?_
  refine c_region ?_
  refine o_T (y_move rfl) rfl ?_
  refine o_T (y_len Tryz.underlying81 rfl) rfl ?_
  refine o_makeB n sz_81 rfl rfl (by first | rfl | omega) (by first | rfl | omega) (by omega) (by omega) rfl (fun b_1 => ?_)
  refine o_L (y_assign rfl) rfl rfl ?_
  refine o_nil0 rfl ?_
  refine c_seq ?_
  refine c_region ?_
  refine o_T (y_move rfl) rfl ?_
  refine o_T (y_move rfl) rfl ?_
  refine o_copyB _ sz_81 rfl rfl hy (by first | rfl | (simp only [Nat.min_def]; split <;> omega)) r0 (ms m0) (by first | (simp only [List.length_set, List.length_replicate]; (try split) <;> omega) | (simp <;> omega)) (.inr ⟨_, rfl, rfl, rfl⟩) ?_
  refine o_nil0 rfl ?_
  refine c_seq ?_
  refine c_region ?_
  refine o_T (y_move rfl) rfl ?_
  refine o_L (y_assign rfl) rfl rfl ?_
  refine o_nil0 rfl ?_
  refine c_ret ?_
  refine fun aX wX heX hsX => ret1 Tryz.results78 heX rfl (s_get (ks k0) (s_get k0 s_nil)) ?_
  refine ⟨b_1, byV_eq hn, bs2 rfl (byG_eq ?_)⟩
  simp [List.take_of_length_le (Nat.le_of_eq hn)]

/-- e2e/seg.Encode -/
theorem t162 (src dst : Int) (b : Nat) (s : Seg) (ok : s.Ok) (hs : 0 ≤ src ∧ src ≤ 255) (ht : 0 ≤ dst ∧ dst ≤ 255) : Trip Tryz.prog 162 #[.int .i64 src, .int .i64 dst, .agg (segC b s).enc] [byG b s.data 5] (fun u S' => ∃ b2, u = .tuple #[byV b2 (segEnc src dst s), .int .i64 0] ∧ S' = [byG b2 (segEnc src dst s) 5, byG b s.data 5]) := by
  have hd := BytAt.full ok.bytes (by have := ok.len; omega)
  have ok0 := ok
  obtain ⟨k1, k2, k3, k4, k5, k6, k7, k8⟩ := ok
  refine fn_entry (args := [.int .i64 src, .int .i64 dst, .agg (segC b s).enc]) Tryz.func162 rfl Tryz.ntmps162 rfl (fun w0 => ?_)
  refine c_seq ?_
  refine c_region ?_
  refine o_box rfl rfl rfl rfl (fun b_1 => ?_)
  refine o_L (y_assign rfl) rfl rfl ?_
  refine o_L (y_assign rfl) rfl rfl ?_
  refine o_nil0 rfl ?_
  refine c_seq ?_
  refine c_seq ?_
  refine c_region ?_
  refine o_T (y_move rfl) rfl ?_
  refine o_T (y_lss rfl rfl) rfl ?_
  refine o_T (y_move rfl) rfl ?_
  refine o_split 12 rfl (fun h34 => ?_) (fun h34 => ?_)
  · try simp only [decide_eq_true_eq, decide_eq_false_iff_not, Bool.not_eq_true', Bool.not_eq_false', Int.not_lt, Int.not_le, Decidable.not_not, beq_iff_eq, bne_iff_ne, ne_eq, beq_eq_false_iff_ne] at h34
    exfalso; omega
  · try simp only [decide_eq_true_eq, decide_eq_false_iff_not, Bool.not_eq_true', Bool.not_eq_false', Int.not_lt, Int.not_le, Decidable.not_not, beq_iff_eq, bne_iff_ne, ne_eq, beq_eq_false_iff_ne] at h34
    refine o_take rfl rfl rfl ?_
    refine o_T (y_move rfl) rfl ?_
    refine o_take rfl rfl rfl ?_
    refine o_T (y_gtr rfl rfl) rfl ?_
    refine o_T (y_pickF rfl rfl) rfl ?_
    refine o_T (y_move rfl) rfl ?_
    refine o_split 16 rfl (fun h34_1 => ?_) (fun h34_1 => ?_)
    · try simp only [decide_eq_true_eq, decide_eq_false_iff_not, Bool.not_eq_true', Bool.not_eq_false', Int.not_lt, Int.not_le, Decidable.not_not, beq_iff_eq, bne_iff_ne, ne_eq, beq_eq_false_iff_ne] at h34_1
      exfalso; omega
    · try simp only [decide_eq_true_eq, decide_eq_false_iff_not, Bool.not_eq_true', Bool.not_eq_false', Int.not_lt, Int.not_le, Decidable.not_not, beq_iff_eq, bne_iff_ne, ne_eq, beq_eq_false_iff_ne] at h34_1
      refine o_take rfl rfl rfl ?_
      refine o_T (y_move rfl) rfl ?_
      refine o_take rfl rfl rfl ?_
      refine o_T (y_lss rfl rfl) rfl ?_
      refine o_T (y_pickF rfl rfl) rfl ?_
      refine o_T (y_move rfl) rfl ?_
      refine o_split 20 rfl (fun h34_2 => ?_) (fun h34_2 => ?_)
      · try simp only [decide_eq_true_eq, decide_eq_false_iff_not, Bool.not_eq_true', Bool.not_eq_false', Int.not_lt, Int.not_le, Decidable.not_not, beq_iff_eq, bne_iff_ne, ne_eq, beq_eq_false_iff_ne] at h34_2
        exfalso; omega
      · try simp only [decide_eq_true_eq, decide_eq_false_iff_not, Bool.not_eq_true', Bool.not_eq_false', Int.not_lt, Int.not_le, Decidable.not_not, beq_iff_eq, bne_iff_ne, ne_eq, beq_eq_false_iff_ne] at h34_2
        refine o_take rfl rfl rfl ?_
        refine o_T (y_move rfl) rfl ?_
        refine o_take rfl rfl rfl ?_
        refine o_T (y_gtr rfl rfl) rfl ?_
        refine o_T (y_pickF rfl rfl) rfl ?_
        refine o_nil1 23 rfl rfl ?_
        refine c_cond rfl (fun h34_3 => ?_) (fun h34_3 => ?_)
        · try simp only [decide_eq_true_eq, decide_eq_false_iff_not, Bool.not_eq_true', Bool.not_eq_false', Int.not_lt, Int.not_le, Decidable.not_not, beq_iff_eq, bne_iff_ne, ne_eq, beq_eq_false_iff_ne] at h34_3
          exfalso; omega
        · try simp only [decide_eq_true_eq, decide_eq_false_iff_not, Bool.not_eq_true', Bool.not_eq_false', Int.not_lt, Int.not_le, Decidable.not_not, beq_iff_eq, bne_iff_ne, ne_eq, beq_eq_false_iff_ne] at h34_3
          refine c_skip ?_
          refine c_seq ?_
          refine c_seq ?_
          refine c_region ?_
          refine o_T (y_fa fl_178_0 rfl) rfl ?_
          refine o_ld one_3 rfl m0 Sg.g0 rfl ?_
          refine o_T (y_lss rfl rfl) rfl ?_
          refine o_T (y_move rfl) rfl ?_
          refine o_split 27 rfl (fun h37 => ?_) (fun h37 => ?_)
          · try simp only [decide_eq_true_eq, decide_eq_false_iff_not, Bool.not_eq_true', Bool.not_eq_false', Int.not_lt, Int.not_le, Decidable.not_not, beq_iff_eq, bne_iff_ne, ne_eq, beq_eq_false_iff_ne] at h37
            exfalso; omega
          · try simp only [decide_eq_true_eq, decide_eq_false_iff_not, Bool.not_eq_true', Bool.not_eq_false', Int.not_lt, Int.not_le, Decidable.not_not, beq_iff_eq, bne_iff_ne, ne_eq, beq_eq_false_iff_ne] at h37
            refine o_take rfl rfl rfl ?_
            refine o_T (y_fa fl_178_0 rfl) rfl ?_
            refine o_take rfl rfl rfl ?_
            refine o_ld one_3 rfl m0 Sg.g0 rfl ?_
            refine o_take rfl rfl rfl ?_
            refine o_T (y_gtr rfl rfl) rfl ?_
            refine o_T (y_pickF rfl rfl) rfl ?_
            refine o_T (y_move rfl) rfl ?_
            refine o_split 32 rfl (fun h37_1 => ?_) (fun h37_1 => ?_)
            · try simp only [decide_eq_true_eq, decide_eq_false_iff_not, Bool.not_eq_true', Bool.not_eq_false', Int.not_lt, Int.not_le, Decidable.not_not, beq_iff_eq, bne_iff_ne, ne_eq, beq_eq_false_iff_ne] at h37_1
              exfalso; omega
            · try simp only [decide_eq_true_eq, decide_eq_false_iff_not, Bool.not_eq_true', Bool.not_eq_false', Int.not_lt, Int.not_le, Decidable.not_not, beq_iff_eq, bne_iff_ne, ne_eq, beq_eq_false_iff_ne] at h37_1
              refine o_take rfl rfl rfl ?_
              refine o_T (y_fa fl_178_1 rfl) rfl ?_
              refine o_take rfl rfl rfl ?_
              refine o_ld one_3 rfl m0 Sg.g1 rfl ?_
              refine o_take rfl rfl rfl ?_
              refine o_T (y_lss rfl rfl) rfl ?_
              refine o_T (y_pickF rfl rfl) rfl ?_
              refine o_T (y_move rfl) rfl ?_
              refine o_split 37 rfl (fun h37_2 => ?_) (fun h37_2 => ?_)
              · try simp only [decide_eq_true_eq, decide_eq_false_iff_not, Bool.not_eq_true', Bool.not_eq_false', Int.not_lt, Int.not_le, Decidable.not_not, beq_iff_eq, bne_iff_ne, ne_eq, beq_eq_false_iff_ne] at h37_2
                exfalso; omega
              · try simp only [decide_eq_true_eq, decide_eq_false_iff_not, Bool.not_eq_true', Bool.not_eq_false', Int.not_lt, Int.not_le, Decidable.not_not, beq_iff_eq, bne_iff_ne, ne_eq, beq_eq_false_iff_ne] at h37_2
                refine o_take rfl rfl rfl ?_
                refine o_T (y_fa fl_178_1 rfl) rfl ?_
                refine o_take rfl rfl rfl ?_
                refine o_ld one_3 rfl m0 Sg.g1 rfl ?_
                refine o_take rfl rfl rfl ?_
                refine o_T (y_gtr rfl rfl) rfl ?_
                refine o_T (y_pickF rfl rfl) rfl ?_
                refine o_nil1 41 rfl rfl ?_
                refine c_cond rfl (fun h37_3 => ?_) (fun h37_3 => ?_)
                · try simp only [decide_eq_true_eq, decide_eq_false_iff_not, Bool.not_eq_true', Bool.not_eq_false', Int.not_lt, Int.not_le, Decidable.not_not, beq_iff_eq, bne_iff_ne, ne_eq, beq_eq_false_iff_ne] at h37_3
                  exfalso; omega
                · try simp only [decide_eq_true_eq, decide_eq_false_iff_not, Bool.not_eq_true', Bool.not_eq_false', Int.not_lt, Int.not_le, Decidable.not_not, beq_iff_eq, bne_iff_ne, ne_eq, beq_eq_false_iff_ne] at h37_3
                  refine c_skip ?_
                  refine c_seq ?_
                  refine c_seq ?_
                  refine c_region ?_
                  refine o_T (y_fa fl_178_2 rfl) rfl ?_
                  refine o_ld one_3 rfl m0 Sg.g2 rfl ?_
                  refine o_T (y_lss rfl rfl) rfl ?_
                  refine o_T (y_move rfl) rfl ?_
                  refine o_split 45 rfl (fun h40 => ?_) (fun h40 => ?_)
                  · try simp only [decide_eq_true_eq, decide_eq_false_iff_not, Bool.not_eq_true', Bool.not_eq_false', Int.not_lt, Int.not_le, Decidable.not_not, beq_iff_eq, bne_iff_ne, ne_eq, beq_eq_false_iff_ne] at h40
                    exfalso; omega
                  · try simp only [decide_eq_true_eq, decide_eq_false_iff_not, Bool.not_eq_true', Bool.not_eq_false', Int.not_lt, Int.not_le, Decidable.not_not, beq_iff_eq, bne_iff_ne, ne_eq, beq_eq_false_iff_ne] at h40
                    refine o_take rfl rfl rfl ?_
                    refine o_T (y_fa fl_178_2 rfl) rfl ?_
                    refine o_take rfl rfl rfl ?_
                    refine o_ld one_3 rfl m0 Sg.g2 rfl ?_
                    refine o_take rfl rfl rfl ?_
                    refine o_T (y_gtr rfl rfl) rfl ?_
                    refine o_T (y_pickF rfl rfl) rfl ?_
                    refine o_T (y_move rfl) rfl ?_
                    refine o_split 50 rfl (fun h40_1 => ?_) (fun h40_1 => ?_)
                    · try simp only [decide_eq_true_eq, decide_eq_false_iff_not, Bool.not_eq_true', Bool.not_eq_false', Int.not_lt, Int.not_le, Decidable.not_not, beq_iff_eq, bne_iff_ne, ne_eq, beq_eq_false_iff_ne] at h40_1
                      exfalso; omega
                    · try simp only [decide_eq_true_eq, decide_eq_false_iff_not, Bool.not_eq_true', Bool.not_eq_false', Int.not_lt, Int.not_le, Decidable.not_not, beq_iff_eq, bne_iff_ne, ne_eq, beq_eq_false_iff_ne] at h40_1
                      refine o_take rfl rfl rfl ?_
                      refine o_T (y_fa fl_178_3 rfl) rfl ?_
                      refine o_take rfl rfl rfl ?_
                      refine o_ld one_3 rfl m0 Sg.g3 rfl ?_
                      refine o_take rfl rfl rfl ?_
                      refine o_T (y_lss rfl rfl) rfl ?_
                      refine o_T (y_pickF rfl rfl) rfl ?_
                      refine o_T (y_move rfl) rfl ?_
                      refine o_split 55 rfl (fun h40_2 => ?_) (fun h40_2 => ?_)
                      · try simp only [decide_eq_true_eq, decide_eq_false_iff_not, Bool.not_eq_true', Bool.not_eq_false', Int.not_lt, Int.not_le, Decidable.not_not, beq_iff_eq, bne_iff_ne, ne_eq, beq_eq_false_iff_ne] at h40_2
                        exfalso; omega
                      · try simp only [decide_eq_true_eq, decide_eq_false_iff_not, Bool.not_eq_true', Bool.not_eq_false', Int.not_lt, Int.not_le, Decidable.not_not, beq_iff_eq, bne_iff_ne, ne_eq, beq_eq_false_iff_ne] at h40_2
                        refine o_take rfl rfl rfl ?_
                        refine o_T (y_fa fl_178_3 rfl) rfl ?_
                        refine o_take rfl rfl rfl ?_
                        refine o_ld one_3 rfl m0 Sg.g3 rfl ?_
                        refine o_take rfl rfl rfl ?_
                        refine o_T (y_gtr rfl rfl) rfl ?_
                        refine o_T (y_pickF rfl rfl) rfl ?_
                        refine o_nil1 59 rfl rfl ?_
                        refine c_cond rfl (fun h40_3 => ?_) (fun h40_3 => ?_)
                        · try simp only [decide_eq_true_eq, decide_eq_false_iff_not, Bool.not_eq_true', Bool.not_eq_false', Int.not_lt, Int.not_le, Decidable.not_not, beq_iff_eq, bne_iff_ne, ne_eq, beq_eq_false_iff_ne] at h40_3
                          exfalso; omega
                        · try simp only [decide_eq_true_eq, decide_eq_false_iff_not, Bool.not_eq_true', Bool.not_eq_false', Int.not_lt, Int.not_le, Decidable.not_not, beq_iff_eq, bne_iff_ne, ne_eq, beq_eq_false_iff_ne] at h40_3
                          refine c_skip ?_
                          refine c_seq ?_
                          refine c_seq ?_
                          refine c_region ?_
                          refine o_T (y_fa fl_178_5 rfl) rfl ?_
                          refine o_ld one_3 rfl m0 Sg.g5 rfl ?_
                          refine o_T (y_lss rfl rfl) rfl ?_
                          refine o_T (y_move rfl) rfl ?_
                          refine o_split 63 rfl (fun h43 => ?_) (fun h43 => ?_)
                          · try simp only [decide_eq_true_eq, decide_eq_false_iff_not, Bool.not_eq_true', Bool.not_eq_false', Int.not_lt, Int.not_le, Decidable.not_not, beq_iff_eq, bne_iff_ne, ne_eq, beq_eq_false_iff_ne] at h43
                            exfalso; omega
                          · try simp only [decide_eq_true_eq, decide_eq_false_iff_not, Bool.not_eq_true', Bool.not_eq_false', Int.not_lt, Int.not_le, Decidable.not_not, beq_iff_eq, bne_iff_ne, ne_eq, beq_eq_false_iff_ne] at h43
                            refine o_take rfl rfl rfl ?_
                            refine o_T (y_fa fl_178_5 rfl) rfl ?_
                            refine o_take rfl rfl rfl ?_
                            refine o_ld one_3 rfl m0 Sg.g5 rfl ?_
                            refine o_take rfl rfl rfl ?_
                            refine o_T (y_gtr rfl rfl) rfl ?_
                            refine o_T (y_pickF rfl rfl) rfl ?_
                            refine o_T (y_move rfl) rfl ?_
                            refine o_split 68 rfl (fun h43_1 => ?_) (fun h43_1 => ?_)
                            · try simp only [decide_eq_true_eq, decide_eq_false_iff_not, Bool.not_eq_true', Bool.not_eq_false', Int.not_lt, Int.not_le, Decidable.not_not, beq_iff_eq, bne_iff_ne, ne_eq, beq_eq_false_iff_ne] at h43_1
                              exfalso; omega
                            · try simp only [decide_eq_true_eq, decide_eq_false_iff_not, Bool.not_eq_true', Bool.not_eq_false', Int.not_lt, Int.not_le, Decidable.not_not, beq_iff_eq, bne_iff_ne, ne_eq, beq_eq_false_iff_ne] at h43_1
                              refine o_take rfl rfl rfl ?_
                              refine o_T (y_fa fl_178_4 rfl) rfl ?_
                              refine o_take rfl rfl rfl ?_
                              refine o_ld one_3 rfl m0 Sg.g4 rfl ?_
                              refine o_take rfl rfl rfl ?_
                              refine o_T (y_lss rfl rfl) rfl ?_
                              refine o_T (y_pickF rfl rfl) rfl ?_
                              refine o_T (y_move rfl) rfl ?_
                              refine o_split 73 rfl (fun h43_2 => ?_) (fun h43_2 => ?_)
                              · try simp only [decide_eq_true_eq, decide_eq_false_iff_not, Bool.not_eq_true', Bool.not_eq_false', Int.not_lt, Int.not_le, Decidable.not_not, beq_iff_eq, bne_iff_ne, ne_eq, beq_eq_false_iff_ne] at h43_2
                                exfalso; omega
                              · try simp only [decide_eq_true_eq, decide_eq_false_iff_not, Bool.not_eq_true', Bool.not_eq_false', Int.not_lt, Int.not_le, Decidable.not_not, beq_iff_eq, bne_iff_ne, ne_eq, beq_eq_false_iff_ne] at h43_2
                                refine o_take rfl rfl rfl ?_
                                refine o_T (y_fa fl_178_4 rfl) rfl ?_
                                refine o_take rfl rfl rfl ?_
                                refine o_ld one_3 rfl m0 Sg.g4 rfl ?_
                                refine o_take rfl rfl rfl ?_
                                refine o_T (y_gtr rfl rfl) rfl ?_
                                refine o_T (y_pickF rfl rfl) rfl ?_
                                refine o_nil1 77 rfl rfl ?_
                                refine c_cond rfl (fun h43_3 => ?_) (fun h43_3 => ?_)
                                · try simp only [decide_eq_true_eq, decide_eq_false_iff_not, Bool.not_eq_true', Bool.not_eq_false', Int.not_lt, Int.not_le, Decidable.not_not, beq_iff_eq, bne_iff_ne, ne_eq, beq_eq_false_iff_ne] at h43_3
                                  exfalso; omega
                                · try simp only [decide_eq_true_eq, decide_eq_false_iff_not, Bool.not_eq_true', Bool.not_eq_false', Int.not_lt, Int.not_le, Decidable.not_not, beq_iff_eq, bne_iff_ne, ne_eq, beq_eq_false_iff_ne] at h43_3
                                  refine c_skip ?_
                                  refine c_seq ?_
                                  refine c_seq ?_
                                  refine c_region ?_
                                  refine o_T (y_fa fl_178_6 rfl) rfl ?_
                                  refine o_ld one_81 rfl m0 Sg.g6 rfl ?_
                                  refine o_T (y_len Tryz.underlying81 rfl) rfl ?_
                                  refine o_T (y_gtr rfl rfl) rfl ?_
                                  refine o_nil1 81 rfl rfl ?_
                                  refine c_cond rfl (fun h46 => ?_) (fun h46 => ?_)
                                  · try simp only [decide_eq_true_eq, decide_eq_false_iff_not, Bool.not_eq_true', Bool.not_eq_false', Int.not_lt, Int.not_le, Decidable.not_not, beq_iff_eq, bne_iff_ne, ne_eq, beq_eq_false_iff_ne] at h46
                                    exfalso; omega
                                  · try simp only [decide_eq_true_eq, decide_eq_false_iff_not, Bool.not_eq_true', Bool.not_eq_false', Int.not_lt, Int.not_le, Decidable.not_not, beq_iff_eq, bne_iff_ne, ne_eq, beq_eq_false_iff_ne] at h46
                                    refine c_skip ?_
                                    refine c_seq ?_
                                    refine c_region ?_
                                    refine o_T (y_fa fl_178_6 rfl) rfl ?_
                                    refine o_ld one_81 rfl m0 Sg.g6 rfl ?_
                                    refine o_T (y_len Tryz.underlying81 rfl) rfl ?_
                                    refine o_T (y_add rfl rfl (w64 (by omega))) rfl ?_
                                    refine o_makeB (8 + s.data.length) sz_81 rfl rfl (by first | rfl | omega) (by first | rfl | omega) (by omega) (by omega) rfl (fun b_2 => ?_)
                                    refine o_L (y_assign rfl) rfl rfl ?_
                                    refine o_nil0 rfl ?_
                                    refine c_seq ?_
                                    refine c_region ?_
                                    refine o_T (y_move rfl) rfl ?_
                                    refine o_T (y_fa fl_178_0 rfl) rfl ?_
                                    refine o_ld one_3 rfl (ms m0) Sg.g0 rfl ?_
                                    refine o_T (y_conv Tryz.underlying3 Tryz.underlying5 rfl (w8 _)) rfl ?_
                                    refine o_T (y_is sl_81 rfl rfl (by omega) (by omega)) rfl ?_
                                    refine o_st one_5 rfl rfl rfl r0 (bV_set _ 0 _ rfl) (bV_size _ (by first | omega | (simp only [List.length_set, List.length_replicate]; omega) | (simp <;> omega))) ?_
                                    refine o_nil0 rfl ?_
                                    refine c_seq ?_
                                    refine c_region ?_
                                    refine o_T (y_move rfl) rfl ?_
                                    refine o_T (y_fa fl_178_1 rfl) rfl ?_
                                    refine o_ld one_3 rfl (ms m0) Sg.g1 rfl ?_
                                    refine o_T (y_conv Tryz.underlying3 Tryz.underlying5 rfl (w8 _)) rfl ?_
                                    refine o_T (y_is sl_81 rfl rfl (by omega) (by omega)) rfl ?_
                                    refine o_st one_5 rfl rfl rfl r0 (bV_set _ 1 _ rfl) (bV_size _ (by first | omega | (simp only [List.length_set, List.length_replicate]; omega) | (simp <;> omega))) ?_
                                    refine o_nil0 rfl ?_
                                    refine c_seq ?_
                                    refine c_region ?_
                                    refine o_T (y_move rfl) rfl ?_
                                    refine o_T (y_fa fl_178_2 rfl) rfl ?_
                                    refine o_ld one_3 rfl (ms m0) Sg.g2 rfl ?_
                                    refine o_T (y_conv Tryz.underlying3 Tryz.underlying5 rfl (w8 _)) rfl ?_
                                    refine o_T (y_is sl_81 rfl rfl (by omega) (by omega)) rfl ?_
                                    refine o_st one_5 rfl rfl rfl r0 (bV_set _ 2 _ rfl) (bV_size _ (by first | omega | (simp only [List.length_set, List.length_replicate]; omega) | (simp <;> omega))) ?_
                                    refine o_nil0 rfl ?_
                                    refine c_seq ?_
                                    refine c_region ?_
                                    refine o_T (y_move rfl) rfl ?_
                                    refine o_T (y_fa fl_178_3 rfl) rfl ?_
                                    refine o_ld one_3 rfl (ms m0) Sg.g3 rfl ?_
                                    refine o_T (y_conv Tryz.underlying3 Tryz.underlying5 rfl (w8 _)) rfl ?_
                                    refine o_T (y_is sl_81 rfl rfl (by omega) (by omega)) rfl ?_
                                    refine o_st one_5 rfl rfl rfl r0 (bV_set _ 3 _ rfl) (bV_size _ (by first | omega | (simp only [List.length_set, List.length_replicate]; omega) | (simp <;> omega))) ?_
                                    refine o_nil0 rfl ?_
                                    refine c_seq ?_
                                    refine c_region ?_
                                    refine o_T (y_move rfl) rfl ?_
                                    refine o_T (y_fa fl_178_4 rfl) rfl ?_
                                    refine o_ld one_3 rfl (ms m0) Sg.g4 rfl ?_
                                    refine o_T (y_conv Tryz.underlying3 Tryz.underlying5 rfl (w8 _)) rfl ?_
                                    refine o_T (y_is sl_81 rfl rfl (by omega) (by omega)) rfl ?_
                                    refine o_st one_5 rfl rfl rfl r0 (bV_set _ 4 _ rfl) (bV_size _ (by first | omega | (simp only [List.length_set, List.length_replicate]; omega) | (simp <;> omega))) ?_
                                    refine o_nil0 rfl ?_
                                    refine c_seq ?_
                                    refine c_region ?_
                                    refine o_T (y_move rfl) rfl ?_
                                    refine o_T (y_fa fl_178_5 rfl) rfl ?_
                                    refine o_ld one_3 rfl (ms m0) Sg.g5 rfl ?_
                                    refine o_T (y_conv Tryz.underlying3 Tryz.underlying5 rfl (w8 _)) rfl ?_
                                    refine o_T (y_is sl_81 rfl rfl (by omega) (by omega)) rfl ?_
                                    refine o_st one_5 rfl rfl rfl r0 (bV_set _ 5 _ rfl) (bV_size _ (by first | omega | (simp only [List.length_set, List.length_replicate]; omega) | (simp <;> omega))) ?_
                                    refine o_nil0 rfl ?_
                                    refine c_seq ?_
                                    refine c_draw #[true, true, true, true, false] rfl (n := 5) rfl ?_
                                    refine d_T 0 rfl (by kernel_rfl) rfl (y_move rfl) rfl ?_
                                    refine d_T 1 rfl (by kernel_rfl) rfl (y_sls sl_81 rfl (bS (i := 8) rfl rfl) bN (by omega) (by omega)) rfl ?_
                                    refine d_T 2 rfl (by kernel_rfl) rfl (y_fa fl_178_6 rfl) rfl ?_
                                    refine d_ld 3 rfl (by kernel_rfl) one_81 rfl (fun x hx => hx) (ms m0) Sg.g6 rfl ?_
                                    refine d_hard 4 rfl (by kernel_rfl) ?_
                                    refine o_copyB _ sz_81 rfl rfl hd (by first | rfl | (simp only [Nat.min_def]; split <;> omega)) r0 (ms (ms m0)) (by first | (simp only [List.length_set, List.length_replicate]; (try split) <;> omega) | (simp <;> omega)) (.inr ⟨_, rfl, rfl, rfl⟩) ?_
                                    refine o_stop (fun h => nomatch h) ?_
                                    refine d_nil0 (by kernel_rfl) rfl ?_
                                    refine c_seq ?_
                                    refine c_row (g' := byG b_2 (segHead s ++ [0, 0] ++ s.data) 5) q0 (byG_eq (segRow ok0 _ _ (by simp only [Nat.min_def]; split <;> omega) rfl _ _ _ _ _ _ (by omega) (by omega) (by omega) (by omega) (by omega) (by omega) _ rfl)) ?_
                                    have hr8 : (segHead s ++ [0, 0] ++ s.data).length = 8 + s.data.length := by simp [segHead]; omega
                                    have hrb : Bytes (segHead s ++ [0, 0] ++ s.data) := ((segHead_b ok0).append (by intro x hx; simp at hx; omega)).append k8
                                    refine c_draw #[true, true, true, true, true, true, false, true, false] rfl (n := 9) rfl ?_
                                    refine d_T 0 rfl (by kernel_rfl) rfl (y_move rfl) rfl ?_
                                    refine d_T 1 rfl (by kernel_rfl) rfl (y_move rfl) rfl ?_
                                    refine d_T 2 rfl (by kernel_rfl) rfl (y_move rfl) rfl ?_
                                    refine d_T 3 rfl (by kernel_rfl) rfl (y_sls sl_81 rfl bN (bS (i := 6) rfl rfl) (by omega) (by omega)) rfl ?_
                                    refine d_T 4 rfl (by kernel_rfl) rfl (y_fa fl_178_6 rfl) rfl ?_
                                    refine d_ld 5 rfl (by kernel_rfl) one_81 rfl (fun x hx => hx) (ms m0) Sg.g6 rfl ?_
                                    refine d_hard2 6 7 rfl rfl (by kernel_rfl) ?_ ?_
                                    · skip
                                      refine o_call en_155 rfl (t155 _ _ _ _ _ _ _ _ _ _ _ _ _ _ _ _ ((BytAt.ful (by first | assumption | (simp <;> omega)) (by assumption) (by omega)).sub _ _ (by omega) (by omega)) hd) (s_take (s_skip (s_take s_nil))) rfl ?_
                                      rintro v S' ⟨rfl, rfl⟩
                                      refine o_stop (fun h => nomatch h) ?_
                                      refine d_hard 7 rfl (by kernel_rfl) ?_
                                      refine o_alloc ze_204 rfl rfl (fun b_3 => ?_)
                                      refine o_front (s_get k0 (s_get k0 (s_get (ks k0) (s_get k0 s_nil)))) ?_
                                      refine o_stop (fun _ => (fun x hx => (ms hx))) ?_
                                      refine d_hard 8 rfl (by kernel_rfl) ?_
                                      refine o_sta ag_204 rfl rfl rfl rfl r0 rfl (by decide) ?_
                                      refine o_stop (fun h => nomatch h) ?_
                                      refine d_nil0 (by kernel_rfl) rfl ?_
                                      refine c_seq ?_
                                      refine c_region ?_
                                      refine o_T (y_move rfl) rfl ?_
                                      refine o_T (y_fa fl_204_0 rfl) rfl ?_
                                      refine o_ld one_5 rfl m0 Ss.g0 rfl ?_
                                      refine o_T (y_is sl_81 rfl rfl (by omega) (by omega)) rfl ?_
                                      refine o_st one_5 rfl rfl rfl (rs r0) (bV_set _ 6 _ rfl) (bV_size _ (by first | omega | (simp only [List.length_set, List.length_replicate]; omega) | (simp <;> omega))) ?_
                                      refine o_nil0 rfl ?_
                                      refine c_seq ?_
                                      refine c_region ?_
                                      refine o_T (y_move rfl) rfl ?_
                                      refine o_T (y_fa fl_204_1 rfl) rfl ?_
                                      refine o_ld one_5 rfl m0 Ss.g1 rfl ?_
                                      refine o_T (y_is sl_81 rfl rfl (by omega) (by omega)) rfl ?_
                                      refine o_st one_5 rfl rfl rfl (rs r0) (bV_set _ 7 _ rfl) (bV_size _ (by first | omega | (simp only [List.length_set, List.length_replicate]; omega) | (simp <;> omega))) ?_
                                      refine o_nil0 rfl ?_
                                      refine c_seq ?_
                                      refine c_region ?_
                                      refine o_T (y_move rfl) rfl ?_
                                      refine o_L (y_assign rfl) rfl rfl ?_
                                      refine o_L (y_assign rfl) rfl rfl ?_
                                      refine o_nil0 rfl ?_
                                      refine c_ret ?_
                                      refine fun aX wX heX hsX => ret2 Tryz.results162 heX rfl rfl (s_skip (s_take (s_skip (s_take s_nil)))) ?_
                                      refine ⟨_, congrArg (fun v => Value.tuple #[v, .int .i64 0]) (byV_eq segEnc_len), bs2 (byG_eq (segSum ?_ ?_)) rfl⟩ <;> first | rfl | (simp [segHead]; rfl)
                                    · skip
                                      refine o_alloc ze_204 rfl rfl (fun b_4 => ?_)
                                      refine o_stop (fun _ => (fun x hx => (ms hx))) ?_
                                      refine d_hard 6 rfl (by kernel_rfl) ?_
                                      refine o_call en_155 rfl (t155 _ _ _ _ _ _ _ _ _ _ _ _ _ _ _ _ ((BytAt.ful (by first | assumption | (simp <;> omega)) (by assumption) (by omega)).sub _ _ (by omega) (by omega)) hd) (s_skip (s_take (s_skip (s_take s_nil)))) rfl ?_
                                      rintro v S' ⟨rfl, rfl⟩
                                      refine o_stop (fun h => nomatch h) ?_
                                      refine d_hard 8 rfl (by kernel_rfl) ?_
                                      refine o_sta ag_204 rfl rfl rfl rfl (rs (rs r0)) rfl (by decide) ?_
                                      refine o_stop (fun h => nomatch h) ?_
                                      refine d_nil0 (by kernel_rfl) rfl ?_
                                      refine c_seq ?_
                                      refine c_region ?_
                                      refine o_T (y_move rfl) rfl ?_
                                      refine o_T (y_fa fl_204_0 rfl) rfl ?_
                                      refine o_ld one_5 rfl (ms (ms m0)) Ss.g0 rfl ?_
                                      refine o_T (y_is sl_81 rfl rfl (by omega) (by omega)) rfl ?_
                                      refine o_st one_5 rfl rfl rfl r0 (bV_set _ 6 _ rfl) (bV_size _ (by first | omega | (simp only [List.length_set, List.length_replicate]; omega) | (simp <;> omega))) ?_
                                      refine o_nil0 rfl ?_
                                      refine c_seq ?_
                                      refine c_region ?_
                                      refine o_T (y_move rfl) rfl ?_
                                      refine o_T (y_fa fl_204_1 rfl) rfl ?_
                                      refine o_ld one_5 rfl (ms (ms m0)) Ss.g1 rfl ?_
                                      refine o_T (y_is sl_81 rfl rfl (by omega) (by omega)) rfl ?_
                                      refine o_st one_5 rfl rfl rfl r0 (bV_set _ 7 _ rfl) (bV_size _ (by first | omega | (simp only [List.length_set, List.length_replicate]; omega) | (simp <;> omega))) ?_
                                      refine o_nil0 rfl ?_
                                      refine c_seq ?_
                                      refine c_region ?_
                                      refine o_T (y_move rfl) rfl ?_
                                      refine o_L (y_assign rfl) rfl rfl ?_
                                      refine o_L (y_assign rfl) rfl rfl ?_
                                      refine o_nil0 rfl ?_
                                      refine c_ret ?_
                                      refine fun aX wX heX hsX => ret2 Tryz.results162 heX rfl rfl (s_take (s_take s_nil)) ?_
                                      refine ⟨_, congrArg (fun v => Value.tuple #[v, .int .i64 0]) (byV_eq segEnc_len), bs2 (byG_eq (segSum ?_ ?_)) rfl⟩ <;> first | rfl | (simp [segHead]; rfl)

end Go.Proofs.Qxb6500351aGreat
