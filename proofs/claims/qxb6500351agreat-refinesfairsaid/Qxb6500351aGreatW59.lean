/- MADE BY PROGRAM (tools/gen.py over tools/specs351.py): walks. -/
import Derived.Test.Qxb6500351aGreatFacts
import Derived.Test.Qxb6500351aGreatRp4
set_option linter.unusedVariables false
set_option linter.unusedSimpArgs false
namespace Go.Proofs.Qxb6500351aGreat
open Go.Eng
set_option maxRecDepth 20000
set_option maxHeartbeats 4000000
/-- (*e2e/hostm.Net).Read -/
theorem t101 (b : Nat) (v : Value) (l : List Ned) (gv gd : List Chunk) (dl : Nat → Int) (i : Int) (b3 o3 n3 cap3 e3 : Nat) (cs3 : Array Value) (d : List Int) (hn : LstN 83 16 edR v l gv gd) (hy : BytAt o3 n3 cap3 cs3 d) (hs : ∀ x ∈ l, x.rcvd.length ≤ 1000000000000) (hdl : n3 ≤ 1000000000000) (hp : ∀ x ∈ l, x.peer < l.length) : Trip Tryz.prog 101 #[.pointer (some ⟨b, 0, none⟩), .int .i64 i, .slice (some ⟨b3, o3, none⟩) n3 cap3] [[(b, .cells (Nt.mk v dl).enc 80 (0, 0))], gv, gd, [(b3, .cells cs3 e3 (0, 0))]] (fun u S' => ∃ gv' gd', u = .bool (nReadB l i d) ∧ LstN 83 16 edR v (nReadL l i d) gv' gd' ∧ S' = [[(b, .cells (Nt.mk v dl).enc 80 (0, 0))], gv', gd', [(b3, .cells cs3 e3 (0, 0))]]) := by
  have hln := lstN_bnd hn
  obtain ⟨pw, cw, hvw⟩ := hn.slice
  subst hvw
  have hn3 := hy.n_eq
  have hl3 := hy.len
  have hc3 := hy.cap
  refine fn_entry (args := [.pointer (some ⟨b, 0, none⟩), .int .i64 i, .slice (some ⟨b3, o3, none⟩) n3 cap3]) Tryz.func101 rfl Tryz.ntmps101 rfl (fun w0 => ?_)
  refine c_seq ?_
  refine c_region ?_
  refine o_L (y_assign rfl) rfl rfl ?_
  refine o_nil0 rfl ?_
  refine c_seq ?_
  refine c_seq ?_
  refine c_region ?_
  refine o_T (y_move rfl) rfl ?_
  refine o_T (y_move rfl) rfl ?_
  refine o_callrv en_76 rfl (t76 _ _ _ _ _ _ _ (by assumption)) (s_take s_nil) rfl ?_
  refine o_T (y_not rfl) rfl ?_
  refine o_nil1 10 rfl rfl ?_
  refine c_cond rfl (fun h155 => ?_) (fun h155 => ?_)
  · try simp only [decide_eq_true_eq, decide_eq_false_iff_not, Bool.not_eq_true', Bool.not_eq_false', Int.not_lt, Int.not_le, Decidable.not_not, beq_iff_eq, bne_iff_ne, ne_eq, beq_eq_false_iff_ne] at h155
    refine c_seq ?_
    refine c_region ?_
    refine o_L (y_assign rfl) rfl rfl ?_
    refine o_nil0 rfl ?_
    refine c_ret ?_
    refine fun aX wX heX hsX => ret1 Tryz.results101 heX rfl (s_take (s_take (s_take (s_take s_nil)))) ?_
    have e0 : nReadB l i d = false := by unfold nReadB; rw [h155]; rfl
    have e1 : nReadL l i d = l := nUpd_no h155 _
    rw [e0, e1]
    exact ⟨_, _, rfl, hn, rfl⟩
  · try simp only [decide_eq_true_eq, decide_eq_false_iff_not, Bool.not_eq_true', Bool.not_eq_false', Int.not_lt, Int.not_le, Decidable.not_not, beq_iff_eq, bne_iff_ne, ne_eq, beq_eq_false_iff_ne] at h155
    refine c_skip ?_
    refine c_seq ?_
    have hb := nHas_iff.1 h155
    obtain ⟨k, hik⟩ : ∃ k : Nat, i = (k : Int) := ⟨i.toNat, by omega⟩
    subst hik
    have hk : k < l.length := by omega
    obtain ⟨bw, cpw, cur, hv2, hg2, hO⟩ := (hn.lst (by omega)).open
    injection hv2 with e1 e2 e3
    subst e1 e3 hg2
    have hsl := hs l[k] (List.getElem_mem hk)
    obtain ⟨vS, gS, ga, gb, hgd, hgS, hcS, hset⟩ := Ed.cut_rcvd hO k hk
    obtain ⟨pS, cS, hvS⟩ := hgS.1.slice
    subst hvS
    refine c_front (s_get (ks (ks k0)) (s_get k0 (s_get k0 (s_get k0 s_nil)))) ?_
    refine c_split3 hgd ?_
    refine c_draw #[true, true, true, true, true, true, true, true, true, true, true, true, true, true, true, true, true, true, false] rfl (n := 19) rfl ?_
    refine d_T 0 rfl (by kernel_rfl) rfl (y_move rfl) rfl ?_
    refine d_T 1 rfl (by kernel_rfl) rfl (y_nilck rfl) rfl ?_
    refine d_T 2 rfl (by kernel_rfl) rfl (y_fa fl_80_0 rfl) rfl ?_
    refine d_ld 3 rfl (by kernel_rfl) one_78 rfl (fun x hx => hx) (ms (ms m0)) Nt.g0 rfl ?_
    refine d_T 4 rfl (by kernel_rfl) rfl (y_move rfl) rfl ?_
    refine d_T 5 rfl (by kernel_rfl) rfl (y_move rfl) rfl ?_
    refine d_T 6 rfl (by kernel_rfl) rfl (y_nilck rfl) rfl ?_
    refine d_T 7 rfl (by kernel_rfl) rfl (y_fa fl_80_0 rfl) rfl ?_
    refine d_ld 8 rfl (by kernel_rfl) one_78 rfl (fun x hx => hx) (ms (ms m0)) Nt.g0 rfl ?_
    refine d_T 9 rfl (by kernel_rfl) rfl (y_move rfl) rfl ?_
    refine d_T 10 rfl (by kernel_rfl) rfl (y_is sl_78 rfl rfl (by omega) (by omega)) rfl ?_
    refine d_T 11 rfl (by kernel_rfl) rfl (y_fa fl_83_8 rfl) rfl ?_
    refine d_ld 12 rfl (by kernel_rfl) one_81 rfl (fun x hx => hx) (ms (ms (ms m0))) (hcS _ (by omega)) rfl ?_
    refine d_T 14 rfl (by kernel_rfl) rfl (y_move rfl) rfl ?_
    refine d_hard 13 rfl (by kernel_rfl) ?_
    refine o_call en_78 rfl (t78g _ _ _ hgS.byt) (s_take s_nil) rfl ?_
    rintro v S' ⟨b_1, rfl, rfl⟩
    refine o_front (s_get (ks k0) (s_get k0 (s_get k0 (s_get k0 (s_get k0 (s_get k0 s_nil)))))) ?_
    refine o_stop (fun _ => (fun x hx => (ms hx))) ?_
    refine d_hard 15 rfl (by kernel_rfl) ?_
    refine o_gbapp sz_81 rfl rfl rfl (GB.row hgS.2.1 hgS.2.2) hy (s_take (s_skip (s_skip (s_skip (s_skip (s_take s_nil)))))) (by omega) (by omega) rfl (fun v_8 g_8 hg_8 => ?_)
    obtain ⟨p_8, c_8, hv_8⟩ := hg_8.1.slice
    subst hv_8
    refine o_front (s_get k0 (s_get (ks k0) (s_get (ks k0) (s_get (ks k0) (s_get (ks k0) (s_get k0 s_nil)))))) ?_
    refine o_stop (fun _ => (fun x hx => (ms hx))) ?_
    refine d_T 16 rfl (by kernel_rfl) rfl (y_is sl_78 rfl rfl (by omega) (by omega)) rfl ?_
    refine d_T 17 rfl (by kernel_rfl) rfl (y_fa fl_83_8 rfl) rfl ?_
    refine d_hard 18 rfl (by kernel_rfl) ?_
    refine o_st one_81 rfl rfl rfl (rs (rs (rs (rs r0)))) (set_at (o' := 0 + k * 16 + 8) (by omega)) (Ed.bnd hO k hk 8 (by omega) (by omega)) ?_
    have hS_1 := hset (0 + k * 16 + 8) _ _ _ rfl hg_8
    refine o_stop (fun h => nomatch h) ?_
    refine d_nil0 (by kernel_rfl) rfl ?_
    refine c_seq ?_
    refine c_front (s_get k0 (s_get (ks k0) (s_get k0 (s_get k0 (s_get k0 (s_get k0 s_nil)))))) ?_
    refine c_join3 (g := ga ++ g_8 ++ gb) rfl ?_
    have hr1 : (l[k].rcvd ++ d).length = l[k].rcvd.length + n3 := by rw [List.length_append, hn3]
    obtain ⟨l2, hl2⟩ : ∃ l2, l2 = l.set k { l[k] with rcvd := l[k].rcvd ++ d } := ⟨_, rfl⟩
    rw [← hl2] at hS_1
    have hn2 : l2.length = l.length := by rw [hl2, List.length_set]
    have hk2 : k < l2.length := by omega
    have hat : l2[k] = { l[k] with rcvd := l[k].rcvd ++ d } := by subst hl2; rw [List.getElem_set_self]
    have hr2 : l2[k].rcvd.length = l[k].rcvd.length + n3 := by rw [hat]; exact hr1
    have hpe : l2[k].peer = l[k].peer := by rw [hat]
    have hpl := hp l[k] (List.getElem_mem hk)
    obtain ⟨vr, vs, gr, gs, rest, pp, hx⟩ := cut2_ex hS_1 k
    have hxk := hx k rfl hk2
    have eL : nReadL l k d = l2 := by unfold nReadL; rw [nUpd_at hk, hl2]
    refine c_cut2 pp ?_
    refine c_drop (s_take (s_take (s_take (s_skip (s_take (s_take (s_take s_nil))))))) ?_
    refine c_draw #[true, true, true, true, true, true, true, true, true, true, true, true, true, true, true, true, true, true, true, true, true, true, true, true, true, true, true, true, true, true, true, true, true, true, true, true, true, true, true, true, true] rfl (n := 41) rfl ?_
    refine d_T 0 rfl (by kernel_rfl) rfl (y_move rfl) rfl ?_
    refine d_T 1 rfl (by kernel_rfl) rfl (y_len Tryz.underlying81 rfl) rfl ?_
    refine d_T 2 rfl (by kernel_rfl) rfl (y_gtr rfl rfl) rfl ?_
    refine d_T 3 rfl (by kernel_rfl) rfl (y_move rfl) rfl ?_
    refine d_split 32 rfl (fun h159 => ?_) (fun h159 => ?_)
    · try simp only [decide_eq_true_eq, decide_eq_false_iff_not, Bool.not_eq_true', Bool.not_eq_false', Int.not_lt, Int.not_le, Decidable.not_not, beq_iff_eq, bne_iff_ne, ne_eq, beq_eq_false_iff_ne] at h159
      refine d_Tg 4 rfl rfl rfl rfl (by kernel_rfl) rfl (y_move rfl) rfl ?_
      refine d_Tg 5 rfl rfl rfl rfl (by kernel_rfl) rfl (y_nilck rfl) rfl ?_
      refine d_Tg 6 rfl rfl rfl rfl (by kernel_rfl) rfl (y_fa fl_80_0 rfl) rfl ?_
      refine d_ldt 7 rfl rfl rfl rfl (by kernel_rfl) one_78 rfl (fun x hx => hx) (ms (ms (ms m0))) Nt.g0 rfl ?_
      refine d_Tg 8 rfl rfl rfl rfl (by kernel_rfl) rfl (y_move rfl) rfl ?_
      refine d_Tg 9 rfl rfl rfl rfl (by kernel_rfl) rfl (y_is sl_78 rfl rfl (by omega) (by omega)) rfl ?_
      refine d_Tg 10 rfl rfl rfl rfl (by kernel_rfl) rfl (y_fa fl_83_6 rfl) rfl ?_
      refine d_ldt 11 rfl rfl rfl rfl (by kernel_rfl) one_3 rfl (fun x hx => hx) (ms (ms (ms (ms m0)))) (Ed.l_peer hS_1 k (by omega) (by omega)) rfl ?_
      refine d_Tg 12 rfl rfl rfl rfl (by kernel_rfl) rfl (y_geq rfl rfl) rfl ?_
      refine d_T 13 rfl (by kernel_rfl) rfl (y_pickT rfl rfl) rfl ?_
      refine d_T 14 rfl (by kernel_rfl) rfl (y_move rfl) rfl ?_
      refine d_split 43 rfl (fun h159_1 => ?_) (fun h159_1 => ?_)
      · try simp only [decide_eq_true_eq, decide_eq_false_iff_not, Bool.not_eq_true', Bool.not_eq_false', Int.not_lt, Int.not_le, Decidable.not_not, beq_iff_eq, bne_iff_ne, ne_eq, beq_eq_false_iff_ne] at h159_1
        refine d_Tg 15 rfl rfl rfl rfl (by kernel_rfl) rfl (y_move rfl) rfl ?_
        refine d_Tg 16 rfl rfl rfl rfl (by kernel_rfl) rfl (y_nilck rfl) rfl ?_
        refine d_Tg 17 rfl rfl rfl rfl (by kernel_rfl) rfl (y_fa fl_80_0 rfl) rfl ?_
        refine d_ldt 18 rfl rfl rfl rfl (by kernel_rfl) one_78 rfl (fun x hx => hx) (ms (ms (ms m0))) Nt.g0 rfl ?_
        refine d_Tg 19 rfl rfl rfl rfl (by kernel_rfl) rfl (y_move rfl) rfl ?_
        refine d_Tg 20 rfl rfl rfl rfl (by kernel_rfl) rfl (y_is sl_78 rfl rfl (by omega) (by omega)) rfl ?_
        refine d_Tg 21 rfl rfl rfl rfl (by kernel_rfl) rfl (y_fa fl_83_8 rfl) rfl ?_
        refine d_ldt 22 rfl rfl rfl rfl (by kernel_rfl) one_81 rfl (fun x hx => hx) (ms (ms (ms (ms m0)))) (hxk.2.1 _ (by omega)) rfl ?_
        refine d_Tg 23 rfl rfl rfl rfl (by kernel_rfl) rfl (y_move rfl) rfl ?_
        refine d_Tg 24 rfl rfl rfl rfl (by kernel_rfl) rfl (y_nilck rfl) rfl ?_
        refine d_Tg 25 rfl rfl rfl rfl (by kernel_rfl) rfl (y_fa fl_80_0 rfl) rfl ?_
        refine d_ldt 26 rfl rfl rfl rfl (by kernel_rfl) one_78 rfl (fun x hx => hx) (ms (ms (ms m0))) Nt.g0 rfl ?_
        refine d_Tg 27 rfl rfl rfl rfl (by kernel_rfl) rfl (y_move rfl) rfl ?_
        refine d_Tg 28 rfl rfl rfl rfl (by kernel_rfl) rfl (y_nilck rfl) rfl ?_
        refine d_Tg 29 rfl rfl rfl rfl (by kernel_rfl) rfl (y_fa fl_80_0 rfl) rfl ?_
        refine d_ldt 30 rfl rfl rfl rfl (by kernel_rfl) one_78 rfl (fun x hx => hx) (ms (ms (ms m0))) Nt.g0 rfl ?_
        refine d_Tg 31 rfl rfl rfl rfl (by kernel_rfl) rfl (y_move rfl) rfl ?_
        refine d_Tg 32 rfl rfl rfl rfl (by kernel_rfl) rfl (y_is sl_78 rfl rfl (by omega) (by omega)) rfl ?_
        refine d_Tg 33 rfl rfl rfl rfl (by kernel_rfl) rfl (y_fa fl_83_6 rfl) rfl ?_
        refine d_ldt 34 rfl rfl rfl rfl (by kernel_rfl) one_3 rfl (fun x hx => hx) (ms (ms (ms (ms m0)))) (Ed.l_peer hS_1 k (by omega) (by omega)) rfl ?_
        refine d_Tg 35 rfl rfl rfl rfl (by kernel_rfl) rfl (y_is sl_78 rfl rfl (by omega) (by omega)) rfl ?_
        refine d_Tg 36 rfl rfl rfl rfl (by kernel_rfl) rfl (y_fa fl_83_7 rfl) rfl ?_
        refine d_ldt 37 rfl rfl rfl rfl (by kernel_rfl) one_81 rfl (fun x hx => hx) (ms (ms (ms (ms m0)))) ((hxk.2.2 (by omega) (by omega)).2 _ (by omega)) rfl ?_
        refine d_hard 38 rfl (by kernel_rfl) ?_
        refine o_take rfl rfl rfl ?_
        refine o_callrv en_137 rfl (t137 _ _ _ _ _ _ hxk.1.byt (hxk.2.2 (by omega) (by omega)).1.byt (by omega)) (s_take (s_take s_nil)) rfl ?_
        refine o_stop (fun _ => (fun x hx => hx)) ?_
        refine d_T 39 rfl (by kernel_rfl) rfl (y_pickT rfl rfl) rfl ?_
        refine d_L 40 rfl (by kernel_rfl) rfl (y_assign rfl) rfl rfl ?_
        refine d_nil0 (by kernel_rfl) rfl ?_
        refine c_ret ?_
        refine fun aX wX heX hsX => ret1 Tryz.results101 heX rfl (sel_cut2 pp) ?_
        refine ⟨_, _, congrArg Value.bool ?_, eL ▸ lstE_of_open hS_1 hn2, rfl⟩
        unfold nReadB
        rw [h155, nPeer_at hk, eL]
        rw [decide_eq_true (show 0 ≤ l[k].peer by omega), decide_eq_true (show 0 < d.length by omega), nRcvd_at hk2, nSent_at (by omega)]; simp only [hpe]; rfl
      · try simp only [decide_eq_true_eq, decide_eq_false_iff_not, Bool.not_eq_true', Bool.not_eq_false', Int.not_lt, Int.not_le, Decidable.not_not, beq_iff_eq, bne_iff_ne, ne_eq, beq_eq_false_iff_ne] at h159_1
        refine d_pass 15 rfl rfl rfl rfl rfl (by kernel_rfl) (fun x hx => hx) rfl ?_
        refine d_pass 16 rfl rfl rfl rfl rfl (by kernel_rfl) (fun x hx => hx) rfl ?_
        refine d_pass 17 rfl rfl rfl rfl rfl (by kernel_rfl) (fun x hx => hx) rfl ?_
        refine d_pass 18 rfl rfl rfl rfl rfl (by kernel_rfl) (fun x hx => hx) rfl ?_
        refine d_pass 19 rfl rfl rfl rfl rfl (by kernel_rfl) (fun x hx => hx) rfl ?_
        refine d_pass 20 rfl rfl rfl rfl rfl (by kernel_rfl) (fun x hx => hx) rfl ?_
        refine d_pass 21 rfl rfl rfl rfl rfl (by kernel_rfl) (fun x hx => hx) rfl ?_
        refine d_pass 22 rfl rfl rfl rfl rfl (by kernel_rfl) (fun x hx => hx) rfl ?_
        refine d_pass 23 rfl rfl rfl rfl rfl (by kernel_rfl) (fun x hx => hx) rfl ?_
        refine d_pass 24 rfl rfl rfl rfl rfl (by kernel_rfl) (fun x hx => hx) rfl ?_
        refine d_pass 25 rfl rfl rfl rfl rfl (by kernel_rfl) (fun x hx => hx) rfl ?_
        refine d_pass 26 rfl rfl rfl rfl rfl (by kernel_rfl) (fun x hx => hx) rfl ?_
        refine d_pass 27 rfl rfl rfl rfl rfl (by kernel_rfl) (fun x hx => hx) rfl ?_
        refine d_pass 28 rfl rfl rfl rfl rfl (by kernel_rfl) (fun x hx => hx) rfl ?_
        refine d_pass 29 rfl rfl rfl rfl rfl (by kernel_rfl) (fun x hx => hx) rfl ?_
        refine d_pass 30 rfl rfl rfl rfl rfl (by kernel_rfl) (fun x hx => hx) rfl ?_
        refine d_pass 31 rfl rfl rfl rfl rfl (by kernel_rfl) (fun x hx => hx) rfl ?_
        refine d_pass 32 rfl rfl rfl rfl rfl (by kernel_rfl) (fun x hx => hx) rfl ?_
        refine d_pass 33 rfl rfl rfl rfl rfl (by kernel_rfl) (fun x hx => hx) rfl ?_
        refine d_pass 34 rfl rfl rfl rfl rfl (by kernel_rfl) (fun x hx => hx) rfl ?_
        refine d_pass 35 rfl rfl rfl rfl rfl (by kernel_rfl) (fun x hx => hx) rfl ?_
        refine d_pass 36 rfl rfl rfl rfl rfl (by kernel_rfl) (fun x hx => hx) rfl ?_
        refine d_pass 37 rfl rfl rfl rfl rfl (by kernel_rfl) (fun x hx => hx) rfl ?_
        refine d_pass 38 rfl rfl rfl rfl rfl (by kernel_rfl) (fun x hx => hx) rfl ?_
        refine d_T 39 rfl (by kernel_rfl) rfl (y_pickF rfl rfl) rfl ?_
        refine d_L 40 rfl (by kernel_rfl) rfl (y_assign rfl) rfl rfl ?_
        refine d_nil0 (by kernel_rfl) rfl ?_
        refine c_ret ?_
        refine fun aX wX heX hsX => ret1 Tryz.results101 heX rfl (sel_cut2 pp) ?_
        refine ⟨_, _, congrArg Value.bool ?_, eL ▸ lstE_of_open hS_1 hn2, rfl⟩
        unfold nReadB
        rw [h155, nPeer_at hk, eL]
        rw [decide_eq_false (show ¬ 0 ≤ l[k].peer by omega), decide_eq_true (show 0 < d.length by omega)]; rfl
    · try simp only [decide_eq_true_eq, decide_eq_false_iff_not, Bool.not_eq_true', Bool.not_eq_false', Int.not_lt, Int.not_le, Decidable.not_not, beq_iff_eq, bne_iff_ne, ne_eq, beq_eq_false_iff_ne] at h159
      refine d_pass 4 rfl rfl rfl rfl rfl (by kernel_rfl) (fun x hx => hx) rfl ?_
      refine d_pass 5 rfl rfl rfl rfl rfl (by kernel_rfl) (fun x hx => hx) rfl ?_
      refine d_pass 6 rfl rfl rfl rfl rfl (by kernel_rfl) (fun x hx => hx) rfl ?_
      refine d_pass 7 rfl rfl rfl rfl rfl (by kernel_rfl) (fun x hx => hx) rfl ?_
      refine d_pass 8 rfl rfl rfl rfl rfl (by kernel_rfl) (fun x hx => hx) rfl ?_
      refine d_pass 9 rfl rfl rfl rfl rfl (by kernel_rfl) (fun x hx => hx) rfl ?_
      refine d_pass 10 rfl rfl rfl rfl rfl (by kernel_rfl) (fun x hx => hx) rfl ?_
      refine d_pass 11 rfl rfl rfl rfl rfl (by kernel_rfl) (fun x hx => hx) rfl ?_
      refine d_pass 12 rfl rfl rfl rfl rfl (by kernel_rfl) (fun x hx => hx) rfl ?_
      refine d_T 13 rfl (by kernel_rfl) rfl (y_pickF rfl rfl) rfl ?_
      refine d_T 14 rfl (by kernel_rfl) rfl (y_move rfl) rfl ?_
      refine d_pass 15 rfl rfl rfl rfl rfl (by kernel_rfl) (fun x hx => hx) rfl ?_
      refine d_pass 16 rfl rfl rfl rfl rfl (by kernel_rfl) (fun x hx => hx) rfl ?_
      refine d_pass 17 rfl rfl rfl rfl rfl (by kernel_rfl) (fun x hx => hx) rfl ?_
      refine d_pass 18 rfl rfl rfl rfl rfl (by kernel_rfl) (fun x hx => hx) rfl ?_
      refine d_pass 19 rfl rfl rfl rfl rfl (by kernel_rfl) (fun x hx => hx) rfl ?_
      refine d_pass 20 rfl rfl rfl rfl rfl (by kernel_rfl) (fun x hx => hx) rfl ?_
      refine d_pass 21 rfl rfl rfl rfl rfl (by kernel_rfl) (fun x hx => hx) rfl ?_
      refine d_pass 22 rfl rfl rfl rfl rfl (by kernel_rfl) (fun x hx => hx) rfl ?_
      refine d_pass 23 rfl rfl rfl rfl rfl (by kernel_rfl) (fun x hx => hx) rfl ?_
      refine d_pass 24 rfl rfl rfl rfl rfl (by kernel_rfl) (fun x hx => hx) rfl ?_
      refine d_pass 25 rfl rfl rfl rfl rfl (by kernel_rfl) (fun x hx => hx) rfl ?_
      refine d_pass 26 rfl rfl rfl rfl rfl (by kernel_rfl) (fun x hx => hx) rfl ?_
      refine d_pass 27 rfl rfl rfl rfl rfl (by kernel_rfl) (fun x hx => hx) rfl ?_
      refine d_pass 28 rfl rfl rfl rfl rfl (by kernel_rfl) (fun x hx => hx) rfl ?_
      refine d_pass 29 rfl rfl rfl rfl rfl (by kernel_rfl) (fun x hx => hx) rfl ?_
      refine d_pass 30 rfl rfl rfl rfl rfl (by kernel_rfl) (fun x hx => hx) rfl ?_
      refine d_pass 31 rfl rfl rfl rfl rfl (by kernel_rfl) (fun x hx => hx) rfl ?_
      refine d_pass 32 rfl rfl rfl rfl rfl (by kernel_rfl) (fun x hx => hx) rfl ?_
      refine d_pass 33 rfl rfl rfl rfl rfl (by kernel_rfl) (fun x hx => hx) rfl ?_
      refine d_pass 34 rfl rfl rfl rfl rfl (by kernel_rfl) (fun x hx => hx) rfl ?_
      refine d_pass 35 rfl rfl rfl rfl rfl (by kernel_rfl) (fun x hx => hx) rfl ?_
      refine d_pass 36 rfl rfl rfl rfl rfl (by kernel_rfl) (fun x hx => hx) rfl ?_
      refine d_pass 37 rfl rfl rfl rfl rfl (by kernel_rfl) (fun x hx => hx) rfl ?_
      refine d_pass 38 rfl rfl rfl rfl rfl (by kernel_rfl) (fun x hx => hx) rfl ?_
      refine d_T 39 rfl (by kernel_rfl) rfl (y_pickF rfl rfl) rfl ?_
      refine d_L 40 rfl (by kernel_rfl) rfl (y_assign rfl) rfl rfl ?_
      refine d_nil0 (by kernel_rfl) rfl ?_
      refine c_ret ?_
      refine fun aX wX heX hsX => ret1 Tryz.results101 heX rfl (sel_cut2 pp) ?_
      refine ⟨_, _, congrArg Value.bool ?_, eL ▸ lstE_of_open hS_1 hn2, rfl⟩
      unfold nReadB
      rw [h155, nPeer_at hk, eL]
      rw [decide_eq_false (show ¬ 0 < d.length by omega)]; rfl

end Go.Proofs.Qxb6500351aGreat
