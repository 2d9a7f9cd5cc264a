/- MADE BY PROGRAM (tools/gen.py over tools/specsw.py): walks. -/
import Derived.Test.Qxb6500351aGreatMd27
set_option linter.unusedVariables false
set_option linter.unusedSimpArgs false
namespace Go.Proofs.Qxb6500351aGreat
open Go.Eng
set_option maxRecDepth 20000
set_option maxHeartbeats 4000000
attribute [local irreducible] Hst.ent Hst.err Hst.infoC
/-- (*e2e/towerlaw.World).End -/
theorem t49la (A : WA) (q : Bool) (x : Wrld) (V : WV) (m : Nat) (gh gq gw gn gs gr gi go gm : List Chunk) (W : WG A q x V m gh gq gw gn gs gr gi go gm) (hm : m ≤ 2700000000000) (hz : Szs x) (hb : HBnd x) (c : Nat) (c3 : c < 3) (sd : Int) (Y : Wrld → Prop) (ho : (x.H c).oursB sd = false) (hl : (x.H c).lisB sd = true) (hsh : (x.H c).lisB sd = true → (x.H c).ShutOk sd) (hs1 : (x.H c).oursB sd = true → 0 ≤ ((x.H c).ent sd).slot ∧ ((x.H c).ent sd).slot < 4) (hs7 : (((x.H c).abortG sd)).length ≤ 24) (ok2 : ∀ i, i < 3 → ((upA x.H c ((x.H c).abortK sd)) i).Ok ∧ InfoOk ((upA x.H c ((x.H c).abortK sd)) i)) (hE : ((x.H c).abortE sd) = 0) (hF0 : ¬ ((x.H c).abortE sd) = 0 → ((x.H c).abortG sd) = [] ∧ ((x.H c).abortK sd) = x.H c) (hY1 : Y (({ x with H := (upA x.H c ((x.H c).abortK sd)) } : Wrld).put c ((x.H c).abortG sd))) (hg : ((upA x.H c ((x.H c).abortK sd)) c).err sd ≠ 0) (hk : ∀ s, s ∈ x.seen c → (x.H c).err s = 0 → ((x.H c).ent s).parent = sd → ((upA x.H c ((x.H c).abortK sd)) c).err s = 0 ∧ (((upA x.H c ((x.H c).abortK sd)) c).ent s).parent = 0 ∧ (((upA x.H c ((x.H c).abortK sd)) c).infoC s).state = 4 ∧ (((upA x.H c ((x.H c).abortK sd)) c).infoC s).why ≠ 0) : Trip Tryz.prog 49 #[.pointer (some ⟨A.b, 0, none⟩), .int .i64 (c : Int), .int .i64 sd, .bool true] [[(A.b, .cells (A.wd q x V).enc 53 (0, 0))], gh, gq, gw, gn, gs, gr, gi, go, gm] (fun u S' => u = .bool true ∧ ∃ y, Y y ∧ WPost A q y V.cm (m + 60) S') := by
  have hlb := hb.b c c3
  obtain ⟨gc, grest, hin, hpm, hbk⟩ := W.s.at c3
  obtain ⟨pse, hsv⟩ := hin.slice
  have hsl := hin.1
  refine fn_entry (args := [.pointer (some ⟨A.b, 0, none⟩), .int .i64 (c : Int), .int .i64 sd, .bool true]) Tryz.func49 rfl Tryz.ntmps49 rfl (fun w0 => ?_)
  refine c_seq ?_
  refine c_region ?_
  refine o_L (y_assign rfl) rfl rfl ?_
  refine o_nil0 rfl ?_
  refine c_seq ?_
  refine c_region ?_
  refine o_T (y_move rfl) rfl ?_
  refine o_T (y_move rfl) rfl ?_
  refine o_T (y_move rfl) rfl ?_
  refine o_call en_55 rfl (t55b _ _ _ _ _ _ c3 _ W.h hb.ok false ho) (s_take (s_take s_nil)) rfl ?_
  rintro v S' ⟨pc_1, gc_1, rfl, hi_1, rfl⟩
  refine o_T (y_move rfl) rfl ?_
  refine o_T (y_extract rfl rfl) rfl ?_
  refine o_T (y_extract rfl rfl) rfl ?_
  refine o_alloc ze_69 rfl rfl (fun b_1 => ?_)
  refine o_sta ag_69 rfl rfl (si_plain hi_1) rfl r0 (setAll_full _ _ rfl) (of_ble rfl) ?_
  refine o_L (y_assign rfl) rfl rfl ?_
  refine o_nil0 rfl ?_
  refine c_seq ?_
  refine c_region ?_
  refine o_L (y_assign rfl) rfl rfl ?_
  refine o_nil0 rfl ?_
  refine c_seq ?_
  refine c_region ?_
  refine o_T (y_move rfl) rfl ?_
  refine o_T (y_move rfl) rfl ?_
  refine o_T (y_move rfl) rfl ?_
  refine o_call en_92 rfl (t92b _ _ _ _ _ _ c3 _ W.h hb.ok true hl) (s_skip (s_skip (s_take (s_take s_nil)))) rfl ?_
  rintro v S' ⟨rfl, rfl⟩
  refine o_L (y_assign rfl) rfl rfl ?_
  refine o_nil0 rfl ?_
  refine c_seq ?_
  refine c_seq ?_
  refine c_region ?_
  refine o_T (y_move rfl) rfl ?_
  refine o_nil1 40 rfl rfl ?_
  refine c_condT rfl ?_
  refine c_region ?_
  refine o_L (y_assign rfl) rfl rfl ?_
  refine o_nil0 rfl ?_
  refine c_seq ?_
  refine c_region ?_
  refine o_lbs0 (R := intR) sz_46 rfl (fun vk0 gk0 hk0 => ?_)
  refine o_L (y_assign rfl) rfl rfl ?_
  refine o_nil0 rfl ?_
  refine c_seq ?_
  refine c_seq ?_
  refine c_front (s_get (ks (ks (ks (ks (ks (ks (ks (ks (ks k0))))))))) (s_get k0 (s_get k0 (s_get k0 (s_get k0 (s_get k0 (s_get k0 (s_get k0 (s_get k0 (s_get k0 (s_get k0 (s_get k0 (s_get k0 (s_get k0 s_nil)))))))))))))) ?_
  refine c_opn hpm ?_
  refine c_region ?_
  refine o_L (y_assign rfl) rfl rfl ?_
  refine o_nil0 rfl ?_
  refine c_block ?_
  refine c_loopG (ι := Nat × Value × List Chunk) (fun i_ => [(13, i_.2.1), (14, .int .i64 (i_.1 : Int))]) (fun i_ => [i_.2.2]) (fun i_ => i_.1 ≤ (x.seen c).length ∧ LstN 3 1 intR i_.2.1 (((x.seen c).take i_.1).filter (kidP (x.H c) sd)) i_.2.2 []) (fun i_ => (x.seen c).length - i_.1) (0, vk0, gk0) (by exact ⟨Nat.zero_le _, .of hk0⟩) ⟨rfl, by first | rfl | exact gteI rfl (by omega), trivial⟩ (s_get (ks (ks k0)) (s_get k0 (s_get k0 (s_get k0 (s_get k0 (s_get k0 (s_get k0 (s_get k0 (s_get k0 (s_get k0 (s_get k0 (s_get k0 (s_get k0 (s_get k0 (s_get k0 s_nil))))))))))))))) ?_
  rintro ⟨k, vk, gk⟩ ⟨f1, f2⟩
  try dsimp only [List.cons_append, List.nil_append] at *
  have hkl : (((x.seen c).take k).filter (kidP (x.H c) sd)).length ≤ k := Nat.le_trans (List.length_filter_le _ _) (by rw [List.length_take]; omega)
  refine c_seq ?_
  refine c_seq ?_
  refine c_region ?_
  refine o_T (y_move rfl) rfl ?_
  refine o_T (y_move rfl) rfl ?_
  refine o_T (y_move rfl) rfl ?_
  refine o_T (y_nilck rfl) rfl ?_
  refine o_T (y_fa fl_53_8 rfl) rfl ?_
  refine o_T (y_ia ar_47 rfl rfl (by omega) (by omega)) rfl ?_
  refine o_ld one_46 rfl (ms (ms (ms (ms m0)))) ((Wd.g_seen c (by omega) (by omega)).trans (congrArg some hsv)) rfl ?_
  refine o_T (y_len Tryz.underlying46 rfl) rfl ?_
  refine o_T (y_lss rfl rfl) rfl ?_
  refine o_T (y_move rfl) rfl ?_
  refine o_split 59 rfl (fun h675 => ?_) (fun h675 => ?_)
  · try simp only [decide_eq_true_eq, decide_eq_false_iff_not, Bool.not_eq_true', Bool.not_eq_false', Int.not_lt, Int.not_le, Decidable.not_not, beq_iff_eq, bne_iff_ne, ne_eq, beq_eq_false_iff_ne, WA.wd] at h675
    refine o_take rfl rfl rfl ?_
    refine o_T (y_move rfl) rfl ?_
    refine o_take rfl rfl rfl ?_
    refine o_T (y_eql rfl rfl) rfl ?_
    refine o_T (y_pickT rfl rfl) rfl ?_
    refine o_T (y_move rfl) rfl ?_
    refine o_split 63 rfl (fun h675_1 => ?_) (fun h675_1 => ?_)
    · try simp only [decide_eq_true_eq, decide_eq_false_iff_not, Bool.not_eq_true', Bool.not_eq_false', Int.not_lt, Int.not_le, Decidable.not_not, beq_iff_eq, bne_iff_ne, ne_eq, beq_eq_false_iff_ne, WA.wd] at h675_1
      refine o_take rfl rfl rfl ?_
      refine o_T (y_move rfl) rfl ?_
      refine o_take rfl rfl rfl ?_
      refine o_T (y_not rfl) rfl ?_
      refine o_T (y_pickT rfl rfl) rfl ?_
      refine o_nil1 66 rfl rfl ?_
      refine c_condT rfl ?_
      refine c_skip ?_
      refine c_seq ?_
      refine c_block ?_
      refine c_seq ?_
      obtain ⟨bs, hsv2, hgc⟩ := hin.pos (by omega)
      subst hgc
      refine c_draw #[true, true, true, true, true, true, true, true, true, true, true, true, true, true, true, true, true, true, true, true, false, true] rfl (n := 22) rfl ?_
      refine d_T 0 rfl (by kernel_rfl) rfl (y_move rfl) rfl ?_
      refine d_T 1 rfl (by kernel_rfl) rfl (y_move rfl) rfl ?_
      refine d_T 2 rfl (by kernel_rfl) rfl (y_nilck rfl) rfl ?_
      refine d_T 3 rfl (by kernel_rfl) rfl (y_fa fl_53_0 rfl) rfl ?_
      refine d_T 4 rfl (by kernel_rfl) rfl (y_ia ar_34 rfl rfl (by omega) (by omega)) rfl ?_
      refine d_ld 5 rfl (by kernel_rfl) one_33 rfl (fun x hx => hx) (ms (ms (ms (ms m0)))) (Wd.g_h c (by omega) (by omega)) rfl ?_
      refine d_T 6 rfl (by kernel_rfl) rfl (y_move rfl) rfl ?_
      refine d_T 7 rfl (by kernel_rfl) rfl (y_move rfl) rfl ?_
      refine d_T 8 rfl (by kernel_rfl) rfl (y_nilck rfl) rfl ?_
      refine d_T 9 rfl (by kernel_rfl) rfl (y_fa fl_53_8 rfl) rfl ?_
      refine d_T 10 rfl (by kernel_rfl) rfl (y_ia ar_47 rfl rfl (by omega) (by omega)) rfl ?_
      refine d_ld 11 rfl (by kernel_rfl) one_46 rfl (fun x hx => hx) (ms (ms (ms (ms m0)))) ((Wd.g_seen c (by omega) (by omega)).trans (congrArg some hsv2)) rfl ?_
      refine d_T 12 rfl (by kernel_rfl) rfl (y_move rfl) rfl ?_
      refine d_T 13 rfl (by kernel_rfl) rfl (y_is sl_46 rfl rfl (by omega) (by omega)) rfl ?_
      refine d_ld 14 rfl (by kernel_rfl) one_3 rfl (fun x hx => hx) (ms m0) (iV_get k (by omega) (by omega)) rfl ?_
      refine d_hard2A 19 15 (l := [15, 19]) rfl rfl (by kernel_rfl) (by first | exact .inl rfl | exact .inr rfl) ze_69 rfl rfl (fun b_2 => ?_) ?_
      · skip
        refine d_hard 15 rfl (by kernel_rfl) ?_
        refine o_call en_32 rfl (i32 W.h c3 (hb.ok _ c3).1 _ ((hb.ok _ c3).2 _)) (s_skip (s_skip (s_skip (s_skip (s_skip (s_skip (s_take s_nil))))))) rfl ?_
        rintro v S' ⟨pc_2, gc_2, rfl, hi_2, rfl⟩
        refine o_front (s_get k0 (s_get (ks k0) (s_get (ks k0) (s_get (ks k0) (s_get (ks k0) (s_get (ks k0) (s_get (ks k0) (s_get k0 (s_get k0 (s_get k0 (s_get k0 (s_get k0 (s_get k0 (s_get k0 (s_get k0 (s_get k0 (s_get k0 s_nil))))))))))))))))) ?_
        refine o_stop (fun _ => (fun x hx => (ms (ms hx)))) ?_
        refine d_T 16 rfl (by kernel_rfl) rfl (y_move rfl) rfl ?_
        refine d_T 17 rfl (by kernel_rfl) rfl (y_extract rfl rfl) rfl ?_
        refine d_T 18 rfl (by kernel_rfl) rfl (y_extract rfl rfl) rfl ?_
        refine d_hard 20 rfl (by kernel_rfl) ?_
        refine o_sta ag_69 rfl rfl (si_plain hi_2) rfl (rs r0) (setAll_full _ _ rfl) (of_ble rfl) ?_
        refine o_stop (fun h => nomatch h) ?_
        refine d_L 21 rfl (by kernel_rfl) rfl (y_assign rfl) rfl rfl ?_
        refine d_nil0 (by kernel_rfl) rfl ?_
        refine c_seq ?_
        refine c_region ?_
        refine o_T (y_move rfl) rfl ?_
        refine o_T (y_eql rfl rfl) rfl ?_
        refine o_T (y_move rfl) rfl ?_
        refine o_split 90 rfl (fun h677 => ?_) (fun h677 => ?_)
        · try simp only [decide_eq_true_eq, decide_eq_false_iff_not, Bool.not_eq_true', Bool.not_eq_false', Int.not_lt, Int.not_le, Decidable.not_not, beq_iff_eq, bne_iff_ne, ne_eq, beq_eq_false_iff_ne, WA.wd] at h677
          refine o_take rfl rfl rfl ?_
          refine o_T (y_fa fl_69_0 rfl) rfl ?_
          refine o_take rfl rfl rfl ?_
          refine o_T (y_fa fl_66_6 rfl) rfl ?_
          refine o_take rfl rfl rfl ?_
          refine o_ld one_3 rfl (ms m0) Si.g6 rfl ?_
          refine o_take rfl rfl rfl ?_
          refine o_T (y_move rfl) rfl ?_
          refine o_take rfl rfl rfl ?_
          refine o_T (y_eql rfl rfl) rfl ?_
          refine o_T (y_pickT rfl rfl) rfl ?_
          refine o_nil1 96 rfl rfl ?_
          refine c_cond rfl (fun h677_1 => ?_) (fun h677_1 => ?_)
          · try simp only [decide_eq_true_eq, decide_eq_false_iff_not, Bool.not_eq_true', Bool.not_eq_false', Int.not_lt, Int.not_le, Decidable.not_not, beq_iff_eq, bne_iff_ne, ne_eq, beq_eq_false_iff_ne, WA.wd] at h677_1
            refine c_region ?_
            refine o_T (y_move rfl) rfl ?_
            refine o_T (y_move rfl) rfl ?_
            refine o_T (y_move rfl) rfl ?_
            refine o_T (y_nilck rfl) rfl ?_
            refine o_T (y_fa fl_53_8 rfl) rfl ?_
            refine o_T (y_ia ar_47 rfl rfl (by omega) (by omega)) rfl ?_
            refine o_ld one_46 rfl (ms (ms (ms (ms (ms (ms m0)))))) ((Wd.g_seen c (by omega) (by omega)).trans (congrArg some hsv2)) rfl ?_
            refine o_T (y_move rfl) rfl ?_
            refine o_T (y_is sl_46 rfl rfl (by omega) (by omega)) rfl ?_
            refine o_ld one_3 rfl (ms (ms (ms m0))) (iV_get k (by omega) (by omega)) rfl ?_
            refine o_bs1 sz_46 rfl rfl rfl rfl rfl rfl (fun b_3 => ?_)
            refine o_lapp0 (R := intR) (u := ((x.seen c).getD k 0)) sz_46 rfl rfl rfl f2 rfl rfl ⟨rfl, rfl⟩ (sel0 (s_get (ks (ks (ks k0))) (s_get k0 s_nil))) (by omega) (by omega) rfl (fun v_9 gv_9 hl_9 => ?_)
            refine o_dropnil ?_
            refine o_L (y_assign rfl) rfl rfl ?_
            refine o_nil0 rfl ?_
            refine c_region ?_
            refine o_T (y_move rfl) rfl ?_
            refine o_T (y_add rfl rfl (w64 (by omega))) rfl ?_
            refine o_L (y_assign rfl) rfl rfl ?_
            refine o_nil0 rfl ?_
            refine ⟨(k + 1, _, gv_9), ⟨⟨by omega, by rw [kid_step (by omega), if_pos (by unfold kidP; rw [Bool.and_eq_true, decide_eq_true_eq, decide_eq_true_eq]; exact ⟨by assumption, by assumption⟩)]; exact .of hl_9⟩, by dsimp only; omega⟩, ⟨rfl, gteI rfl (by dsimp only; omega), trivial⟩, ⟨rfl, rfl⟩, _, ((s_take (s_skip (s_skip (s_take (s_take (s_take (s_take (s_take (s_take (s_take (s_take (s_take (s_take (s_take (s_take (s_take (s_take s_nil))))))))))))))))))⟩
          · try simp only [decide_eq_true_eq, decide_eq_false_iff_not, Bool.not_eq_true', Bool.not_eq_false', Int.not_lt, Int.not_le, Decidable.not_not, beq_iff_eq, bne_iff_ne, ne_eq, beq_eq_false_iff_ne, WA.wd] at h677_1
            refine c_skip ?_
            refine c_region ?_
            refine o_T (y_move rfl) rfl ?_
            refine o_T (y_add rfl rfl (w64 (by omega))) rfl ?_
            refine o_L (y_assign rfl) rfl rfl ?_
            refine o_nil0 rfl ?_
            refine ⟨(k + 1, vk, gk), ⟨⟨by omega, by rw [kid_step (by omega), if_neg (by unfold kidP; rw [Bool.and_eq_true, decide_eq_true_eq, decide_eq_true_eq]; first | exact fun z => absurd z.1 (by assumption) | exact fun z => absurd z.2 (by assumption)), List.append_nil]; exact f2⟩, by dsimp only; omega⟩, ⟨rfl, gteI rfl (by dsimp only; omega), trivial⟩, ⟨rfl, rfl⟩, _, ((s_skip (s_skip (s_take (s_take (s_take (s_take (s_take (s_take (s_take (s_take (s_take (s_take (s_take (s_take (s_take (s_take (s_take s_nil))))))))))))))))))⟩
        · try simp only [decide_eq_true_eq, decide_eq_false_iff_not, Bool.not_eq_true', Bool.not_eq_false', Int.not_lt, Int.not_le, Decidable.not_not, beq_iff_eq, bne_iff_ne, ne_eq, beq_eq_false_iff_ne, WA.wd] at h677
          refine o_pass rfl rfl rfl rfl rfl ?_
          refine o_pass rfl rfl rfl rfl rfl ?_
          refine o_pass rfl rfl rfl rfl rfl ?_
          refine o_pass rfl rfl rfl rfl rfl ?_
          refine o_pass rfl rfl rfl rfl rfl ?_
          refine o_T (y_pickF rfl rfl) rfl ?_
          refine o_nil1 96 rfl rfl ?_
          refine c_condF rfl ?_
          refine c_skip ?_
          refine c_region ?_
          refine o_T (y_move rfl) rfl ?_
          refine o_T (y_add rfl rfl (w64 (by omega))) rfl ?_
          refine o_L (y_assign rfl) rfl rfl ?_
          refine o_nil0 rfl ?_
          refine ⟨(k + 1, vk, gk), ⟨⟨by omega, by rw [kid_step (by omega), if_neg (by unfold kidP; rw [Bool.and_eq_true, decide_eq_true_eq, decide_eq_true_eq]; first | exact fun z => absurd z.1 (by assumption) | exact fun z => absurd z.2 (by assumption)), List.append_nil]; exact f2⟩, by dsimp only; omega⟩, ⟨rfl, gteI rfl (by dsimp only; omega), trivial⟩, ⟨rfl, rfl⟩, _, ((s_skip (s_skip (s_take (s_take (s_take (s_take (s_take (s_take (s_take (s_take (s_take (s_take (s_take (s_take (s_take (s_take (s_take s_nil))))))))))))))))))⟩
      · skip
        refine o_call en_32 rfl (i32 W.h c3 (hb.ok _ c3).1 _ ((hb.ok _ c3).2 _)) (s_skip (s_skip (s_skip (s_skip (s_skip (s_take s_nil)))))) rfl ?_
        rintro v S' ⟨pc_3, gc_3, rfl, hi_3, rfl⟩
        refine o_front (s_get k0 (s_get (ks k0) (s_get (ks k0) (s_get (ks k0) (s_get (ks k0) (s_get (ks k0) (s_get k0 (s_get k0 (s_get k0 (s_get k0 (s_get k0 (s_get k0 (s_get k0 (s_get k0 (s_get k0 (s_get k0 s_nil)))))))))))))))) ?_
        refine o_stop (fun _ => (fun x hx => (ms hx))) ?_
        refine d_T 16 rfl (by kernel_rfl) rfl (y_move rfl) rfl ?_
        refine d_T 17 rfl (by kernel_rfl) rfl (y_extract rfl rfl) rfl ?_
        refine d_T 18 rfl (by kernel_rfl) rfl (y_extract rfl rfl) rfl ?_
        refine d_hardA 19 rfl (by kernel_rfl) ze_69 rfl rfl (fun b_4 => ?_)
        refine d_hard 20 rfl (by kernel_rfl) ?_
        refine o_sta ag_69 rfl rfl (si_plain hi_3) rfl r0 (setAll_full _ _ rfl) (of_ble rfl) ?_
        refine o_stop (fun h => nomatch h) ?_
        refine d_L 21 rfl (by kernel_rfl) rfl (y_assign rfl) rfl rfl ?_
        refine d_nil0 (by kernel_rfl) rfl ?_
        refine c_seq ?_
        refine c_region ?_
        refine o_T (y_move rfl) rfl ?_
        refine o_T (y_eql rfl rfl) rfl ?_
        refine o_T (y_move rfl) rfl ?_
        refine o_split 90 rfl (fun h677 => ?_) (fun h677 => ?_)
        · try simp only [decide_eq_true_eq, decide_eq_false_iff_not, Bool.not_eq_true', Bool.not_eq_false', Int.not_lt, Int.not_le, Decidable.not_not, beq_iff_eq, bne_iff_ne, ne_eq, beq_eq_false_iff_ne, WA.wd] at h677
          refine o_take rfl rfl rfl ?_
          refine o_T (y_fa fl_69_0 rfl) rfl ?_
          refine o_take rfl rfl rfl ?_
          refine o_T (y_fa fl_66_6 rfl) rfl ?_
          refine o_take rfl rfl rfl ?_
          refine o_ld one_3 rfl m0 Si.g6 rfl ?_
          refine o_take rfl rfl rfl ?_
          refine o_T (y_move rfl) rfl ?_
          refine o_take rfl rfl rfl ?_
          refine o_T (y_eql rfl rfl) rfl ?_
          refine o_T (y_pickT rfl rfl) rfl ?_
          refine o_nil1 96 rfl rfl ?_
          refine c_cond rfl (fun h677_1 => ?_) (fun h677_1 => ?_)
          · try simp only [decide_eq_true_eq, decide_eq_false_iff_not, Bool.not_eq_true', Bool.not_eq_false', Int.not_lt, Int.not_le, Decidable.not_not, beq_iff_eq, bne_iff_ne, ne_eq, beq_eq_false_iff_ne, WA.wd] at h677_1
            refine c_region ?_
            refine o_T (y_move rfl) rfl ?_
            refine o_T (y_move rfl) rfl ?_
            refine o_T (y_move rfl) rfl ?_
            refine o_T (y_nilck rfl) rfl ?_
            refine o_T (y_fa fl_53_8 rfl) rfl ?_
            refine o_T (y_ia ar_47 rfl rfl (by omega) (by omega)) rfl ?_
            refine o_ld one_46 rfl (ms (ms (ms (ms (ms (ms m0)))))) ((Wd.g_seen c (by omega) (by omega)).trans (congrArg some hsv2)) rfl ?_
            refine o_T (y_move rfl) rfl ?_
            refine o_T (y_is sl_46 rfl rfl (by omega) (by omega)) rfl ?_
            refine o_ld one_3 rfl (ms (ms (ms m0))) (iV_get k (by omega) (by omega)) rfl ?_
            refine o_bs1 sz_46 rfl rfl rfl rfl rfl rfl (fun b_5 => ?_)
            refine o_lapp0 (R := intR) (u := ((x.seen c).getD k 0)) sz_46 rfl rfl rfl f2 rfl rfl ⟨rfl, rfl⟩ (sel0 (s_get (ks (ks (ks k0))) (s_get k0 s_nil))) (by omega) (by omega) rfl (fun v_9 gv_9 hl_9 => ?_)
            refine o_dropnil ?_
            refine o_L (y_assign rfl) rfl rfl ?_
            refine o_nil0 rfl ?_
            refine c_region ?_
            refine o_T (y_move rfl) rfl ?_
            refine o_T (y_add rfl rfl (w64 (by omega))) rfl ?_
            refine o_L (y_assign rfl) rfl rfl ?_
            refine o_nil0 rfl ?_
            refine ⟨(k + 1, _, gv_9), ⟨⟨by omega, by rw [kid_step (by omega), if_pos (by unfold kidP; rw [Bool.and_eq_true, decide_eq_true_eq, decide_eq_true_eq]; exact ⟨by assumption, by assumption⟩)]; exact .of hl_9⟩, by dsimp only; omega⟩, ⟨rfl, gteI rfl (by dsimp only; omega), trivial⟩, ⟨rfl, rfl⟩, _, ((s_take (s_skip (s_skip (s_take (s_take (s_take (s_take (s_take (s_take (s_take (s_take (s_take (s_take (s_take (s_take (s_take (s_take s_nil))))))))))))))))))⟩
          · try simp only [decide_eq_true_eq, decide_eq_false_iff_not, Bool.not_eq_true', Bool.not_eq_false', Int.not_lt, Int.not_le, Decidable.not_not, beq_iff_eq, bne_iff_ne, ne_eq, beq_eq_false_iff_ne, WA.wd] at h677_1
            refine c_skip ?_
            refine c_region ?_
            refine o_T (y_move rfl) rfl ?_
            refine o_T (y_add rfl rfl (w64 (by omega))) rfl ?_
            refine o_L (y_assign rfl) rfl rfl ?_
            refine o_nil0 rfl ?_
            refine ⟨(k + 1, vk, gk), ⟨⟨by omega, by rw [kid_step (by omega), if_neg (by unfold kidP; rw [Bool.and_eq_true, decide_eq_true_eq, decide_eq_true_eq]; first | exact fun z => absurd z.1 (by assumption) | exact fun z => absurd z.2 (by assumption)), List.append_nil]; exact f2⟩, by dsimp only; omega⟩, ⟨rfl, gteI rfl (by dsimp only; omega), trivial⟩, ⟨rfl, rfl⟩, _, ((s_skip (s_skip (s_take (s_take (s_take (s_take (s_take (s_take (s_take (s_take (s_take (s_take (s_take (s_take (s_take (s_take (s_take s_nil))))))))))))))))))⟩
        · try simp only [decide_eq_true_eq, decide_eq_false_iff_not, Bool.not_eq_true', Bool.not_eq_false', Int.not_lt, Int.not_le, Decidable.not_not, beq_iff_eq, bne_iff_ne, ne_eq, beq_eq_false_iff_ne, WA.wd] at h677
          refine o_pass rfl rfl rfl rfl rfl ?_
          refine o_pass rfl rfl rfl rfl rfl ?_
          refine o_pass rfl rfl rfl rfl rfl ?_
          refine o_pass rfl rfl rfl rfl rfl ?_
          refine o_pass rfl rfl rfl rfl rfl ?_
          refine o_T (y_pickF rfl rfl) rfl ?_
          refine o_nil1 96 rfl rfl ?_
          refine c_condF rfl ?_
          refine c_skip ?_
          refine c_region ?_
          refine o_T (y_move rfl) rfl ?_
          refine o_T (y_add rfl rfl (w64 (by omega))) rfl ?_
          refine o_L (y_assign rfl) rfl rfl ?_
          refine o_nil0 rfl ?_
          refine ⟨(k + 1, vk, gk), ⟨⟨by omega, by rw [kid_step (by omega), if_neg (by unfold kidP; rw [Bool.and_eq_true, decide_eq_true_eq, decide_eq_true_eq]; first | exact fun z => absurd z.1 (by assumption) | exact fun z => absurd z.2 (by assumption)), List.append_nil]; exact f2⟩, by dsimp only; omega⟩, ⟨rfl, gteI rfl (by dsimp only; omega), trivial⟩, ⟨rfl, rfl⟩, _, ((s_skip (s_skip (s_take (s_take (s_take (s_take (s_take (s_take (s_take (s_take (s_take (s_take (s_take (s_take (s_take (s_take (s_take s_nil))))))))))))))))))⟩
    · try simp only [decide_eq_true_eq, decide_eq_false_iff_not, Bool.not_eq_true', Bool.not_eq_false', Int.not_lt, Int.not_le, Decidable.not_not, beq_iff_eq, bne_iff_ne, ne_eq, beq_eq_false_iff_ne, WA.wd] at h675_1
      exact absurd trivial h675_1
  · try simp only [decide_eq_true_eq, decide_eq_false_iff_not, Bool.not_eq_true', Bool.not_eq_false', Int.not_lt, Int.not_le, Decidable.not_not, beq_iff_eq, bne_iff_ne, ne_eq, beq_eq_false_iff_ne, WA.wd] at h675
    refine o_pass rfl rfl rfl rfl rfl ?_
    refine o_pass rfl rfl rfl rfl rfl ?_
    refine o_T (y_pickF rfl rfl) rfl ?_
    refine o_T (y_move rfl) rfl ?_
    refine o_pass rfl rfl rfl rfl rfl ?_
    refine o_pass rfl rfl rfl rfl rfl ?_
    refine o_T (y_pickF rfl rfl) rfl ?_
    refine o_nil1 66 rfl rfl ?_
    refine c_condF rfl ?_
    refine c_exit ?_
    refine c_seq ?_
    refine c_front (s_get (ks k0) (s_get (ks k0) (s_get k0 (s_get k0 (s_get k0 (s_get k0 (s_get k0 (s_get k0 (s_get k0 (s_get k0 (s_get k0 (s_get k0 (s_get k0 (s_get k0 (s_get k0 s_nil))))))))))))))) ?_
    refine c_sht hpm ?_
    obtain rfl : k = (x.seen c).length := by omega
    rw [List.take_length] at f2
    have hkb := lstN_bnd f2
    obtain ⟨pk2, ck2, hk2s⟩ := f2.slice
    subst hk2s
    refine c_region ?_
    refine o_L (y_assign rfl) rfl rfl ?_
    refine o_L (y_assign rfl) rfl rfl ?_
    refine o_nil0 rfl ?_
    refine c_seq ?_
    refine c_region ?_
    refine o_L (y_assign rfl) rfl rfl ?_
    refine o_L (y_assign rfl) rfl rfl ?_
    refine o_nil0 rfl ?_
    refine c_seq ?_
    refine c_seq ?_
    refine c_region ?_
    refine o_T (y_move rfl) rfl ?_
    refine o_nil1 109 rfl rfl ?_
    refine c_condT rfl ?_
    refine c_region ?_
    refine o_T (y_move rfl) rfl ?_
    refine o_T (y_move rfl) rfl ?_
    refine o_T (y_nilck rfl) rfl ?_
    refine o_T (y_fa fl_53_0 rfl) rfl ?_
    refine o_T (y_ia ar_34 rfl rfl (by omega) (by omega)) rfl ?_
    refine o_ld one_33 rfl (ms (ms (ms m0))) (Wd.g_h c (by omega) (by omega)) rfl ?_
    refine o_T (y_move rfl) rfl ?_
    refine o_call en_103 rfl (j103 W.h c3 (hb.ok _ c3).1 (by omega) sd hsh hs1) (s_skip (s_skip (s_skip (s_skip (s_take s_nil))))) rfl ?_
    rintro v S' ⟨v_1, gv_1, gd_1, gx_1, rfl, hF_1, hx_1, rfl⟩
    refine o_T (y_move rfl) rfl ?_
    refine o_T (y_extract rfl rfl) rfl ?_
    refine o_T (y_extract rfl rfl) rfl ?_
    refine o_L (y_assign rfl) rfl rfl ?_
    refine o_L (y_assign rfl) rfl rfl ?_
    refine o_nil0 rfl ?_
    refine c_seq ?_
    refine c_seq ?_
    refine c_region ?_
    refine o_T (y_move rfl) rfl ?_
    refine o_T (y_nilck rfl) rfl ?_
    refine o_T (y_fa fl_53_3 rfl) rfl ?_
    refine o_ld one_4 rfl (ms (ms (ms (ms (ms (ms m0)))))) Wd.g27 rfl ?_
    refine o_nil1 135 rfl rfl ?_
    refine c_front (s_get (ks (ks (ks (ks (ks (ks k0)))))) (s_get (ks (ks (ks (ks (ks (ks (ks (ks k0)))))))) (s_get (ks (ks (ks (ks (ks (ks (ks (ks (ks (ks (ks (ks (ks k0))))))))))))) (s_get (ks (ks (ks (ks (ks (ks (ks (ks (ks (ks (ks (ks k0)))))))))))) (s_get k0 (s_get k0 (s_get k0 (s_get k0 (s_get k0 (s_get k0 (s_get k0 (s_get k0 (s_get k0 (s_get k0 (s_get k0 (s_get k0 s_nil)))))))))))))))) ?_
    refine c_joinD 4 (ι := Value × Value × List Chunk × List Chunk × List Chunk × Value × Int) (fun i => [(18, i.2.2.2.2.2.1), (20, .int .i64 i.2.2.2.2.2.2)]) (fun i => [[(A.b, .cells (A.wd q x { V with mine := i.1, outs := i.2.1 }).enc 53 (0, 0))], i.2.2.1, i.2.2.2.1, i.2.2.2.2.1]) (fun i => (q = true → HsG (upA x.H c ((x.H c).abortK sd)) A.qv A.qb i.2.2.1) ∧ PM (m + 24) i.1 i.2.2.2.1 ∧ PO (m + 1) i.2.1 i.2.2.2.2.1) (fun _ _ h => h) ?_ ?_
    · skip
      refine c_cond rfl (fun h688 => ?_) (fun h688 => ?_)
      · try simp only [decide_eq_true_eq, decide_eq_false_iff_not, Bool.not_eq_true', Bool.not_eq_false', Int.not_lt, Int.not_le, Decidable.not_not, beq_iff_eq, bne_iff_ne, ne_eq, beq_eq_false_iff_ne, WA.wd] at h688
        refine c_seq ?_
        refine c_seq ?_
        refine c_region ?_
        refine o_T (y_move rfl) rfl ?_
        refine o_nil1 136 rfl rfl ?_
        refine c_condT rfl ?_
        refine c_region ?_
        refine o_T (y_move rfl) rfl ?_
        refine o_T (y_move rfl) rfl ?_
        refine o_T (y_nilck rfl) rfl ?_
        refine o_T (y_fa fl_53_2 rfl) rfl ?_
        refine o_T (y_ia ar_34 rfl rfl (by omega) (by omega)) rfl ?_
        refine o_ld one_33 rfl m0 (Wd.g_q c (by omega) (by omega)) rfl ?_
        refine o_T (y_move rfl) rfl ?_
        refine o_call en_103 rfl (j103 (W.q h688) c3 (hb.ok _ c3).1 (by omega) sd hsh hs1) (s_skip (s_take s_nil)) rfl ?_
        rintro v S' ⟨v_2, gv_2, gd_2, gx_2, rfl, hF_2, hx_2, rfl⟩
        refine o_T (y_move rfl) rfl ?_
        refine o_T (y_extract rfl rfl) rfl ?_
        refine o_T (y_extract rfl rfl) rfl ?_
        refine o_L (y_assign rfl) rfl rfl ?_
        refine o_L (y_assign rfl) rfl rfl ?_
        refine o_nil0 rfl ?_
        refine c_seq ?_
        refine c_seq ?_
        refine c_region ?_
        refine o_T (y_move rfl) rfl ?_
        refine o_T (y_move rfl) rfl ?_
        refine o_T (y_neq rfl rfl) rfl ?_
        refine o_T (y_move rfl) rfl ?_
        refine o_split 162 rfl (fun h694 => ?_) (fun h694 => ?_)
        · try simp only [decide_eq_true_eq, decide_eq_false_iff_not, Bool.not_eq_true', Bool.not_eq_false', Int.not_lt, Int.not_le, Decidable.not_not, beq_iff_eq, bne_iff_ne, ne_eq, beq_eq_false_iff_ne, WA.wd] at h694
          first | exact absurd trivial h694 | exact absurd rfl h694 | (simp at h694; done)
        · try simp only [decide_eq_true_eq, decide_eq_false_iff_not, Bool.not_eq_true', Bool.not_eq_false', Int.not_lt, Int.not_le, Decidable.not_not, beq_iff_eq, bne_iff_ne, ne_eq, beq_eq_false_iff_ne, WA.wd] at h694
          refine o_take rfl rfl rfl ?_
          refine o_T (y_move rfl) rfl ?_
          refine o_take rfl rfl rfl ?_
          refine o_T (y_move rfl) rfl ?_
          refine o_take rfl rfl rfl ?_
          refine o_callrv en_81 rfl (t81 _ _ _ _ _ _ _ _ hF_1 hF_2) (s_get (ks (ks (ks (ks (ks (ks k0)))))) (s_get (ks (ks (ks (ks (ks (ks k0)))))) (s_get k0 (s_get k0 s_nil)))) rfl ?_
          refine o_take rfl rfl rfl ?_
          refine o_T (y_not rfl) rfl ?_
          refine o_T (y_pickF rfl rfl) rfl ?_
          refine o_nil1 167 rfl rfl ?_
          refine c_cond rfl (fun h694_1 => ?_) (fun h694_1 => ?_)
          · try simp only [decide_eq_true_eq, decide_eq_false_iff_not, Bool.not_eq_true', Bool.not_eq_false', Int.not_lt, Int.not_le, Decidable.not_not, beq_iff_eq, bne_iff_ne, ne_eq, beq_eq_false_iff_ne, WA.wd] at h694_1
            first | exact absurd trivial h694_1 | exact absurd rfl h694_1 | (simp at h694_1; done)
          · try simp only [decide_eq_true_eq, decide_eq_false_iff_not, Bool.not_eq_true', Bool.not_eq_false', Int.not_lt, Int.not_le, Decidable.not_not, beq_iff_eq, bne_iff_ne, ne_eq, beq_eq_false_iff_ne, WA.wd] at h694_1
            refine c_skip ?_
            refine c_region ?_
            refine o_T (y_move rfl) rfl ?_
            refine o_T (y_move rfl) rfl ?_
            refine o_call en_82 rfl (t82 A q x V W.m W.o (by omega) (by omega) hF_2) (s_get (ks (ks (ks k0))) (s_get (ks (ks (ks k0))) (s_get (ks (ks (ks k0))) (s_get k0 (s_get k0 s_nil))))) rfl ?_
            rintro v S' ⟨vm_1, vo_1, gm_1, go_1, rfl, hm_1, ho_1, rfl⟩
            refine o_nil0 rfl ?_
            refine ⟨(vm_1, vo_1, _, _, _, _, _), ⟨fun _ => hx_2, hm_1.mono (by omega), ho_1.mono (by omega)⟩, ⟨rfl, rfl, trivial⟩, ⟨rfl, rfl⟩, _, ((s_get k0 (s_get (ks (ks k0)) (s_get k0 (s_get k0 (s_get k0 (s_get k0 (s_get k0 (s_get k0 (s_get k0 (s_get k0 (s_get k0 (s_get k0 (s_get k0 (s_get k0 (s_get k0 (s_get k0 s_nil)))))))))))))))))⟩
      · try simp only [decide_eq_true_eq, decide_eq_false_iff_not, Bool.not_eq_true', Bool.not_eq_false', Int.not_lt, Int.not_le, Decidable.not_not, beq_iff_eq, bne_iff_ne, ne_eq, beq_eq_false_iff_ne, WA.wd] at h688
        refine c_skip ?_
        refine ⟨(V.mine, V.outs, _, _, _, _, _), ⟨fun z => absurd (z.symm.trans h688) (fun y => nomatch y), W.m.mono (by omega), W.o.mono (by omega)⟩, ⟨rfl, rfl, trivial⟩, ⟨rfl, rfl⟩, _, ((s_take (s_take (s_take (s_take (s_take (s_take (s_take (s_take (s_take (s_take (s_take (s_take (s_take (s_take (s_take (s_take s_nil)))))))))))))))))⟩
    · rintro ⟨vm2, vo2, gq2, gm2, go2, v18, v20⟩ ⟨hq2, hm2, ho2⟩
      try dsimp only at hq2
      refine c_seq ?_
      refine c_seq ?_
      refine c_region ?_
      refine o_T (y_move rfl) rfl ?_
      refine o_T (y_move rfl) rfl ?_
      refine o_T (y_neq rfl rfl) rfl ?_
      refine o_nil1 173 rfl rfl ?_
      refine c_cond rfl (fun h699 => ?_) (fun h699 => ?_)
      · try simp only [decide_eq_true_eq, decide_eq_false_iff_not, Bool.not_eq_true', Bool.not_eq_false', Int.not_lt, Int.not_le, Decidable.not_not, beq_iff_eq, bne_iff_ne, ne_eq, beq_eq_false_iff_ne, WA.wd] at h699
        exact absurd hE h699
      · try simp only [decide_eq_true_eq, decide_eq_false_iff_not, Bool.not_eq_true', Bool.not_eq_false', Int.not_lt, Int.not_le, Decidable.not_not, beq_iff_eq, bne_iff_ne, ne_eq, beq_eq_false_iff_ne, WA.wd] at h699
        refine c_skip ?_
        refine c_seq ?_
        refine c_seq ?_
        refine c_region ?_
        refine o_T (y_move rfl) rfl ?_
        refine o_T (y_neq rfl rfl) rfl ?_
        refine o_nil1 175 rfl rfl ?_
        refine c_cond rfl (fun h702 => ?_) (fun h702 => ?_)
        · try simp only [decide_eq_true_eq, decide_eq_false_iff_not, Bool.not_eq_true', Bool.not_eq_false', Int.not_lt, Int.not_le, Decidable.not_not, beq_iff_eq, bne_iff_ne, ne_eq, beq_eq_false_iff_ne, WA.wd] at h702
          exact absurd hE h702
        · try simp only [decide_eq_true_eq, decide_eq_false_iff_not, Bool.not_eq_true', Bool.not_eq_false', Int.not_lt, Int.not_le, Decidable.not_not, beq_iff_eq, bne_iff_ne, ne_eq, beq_eq_false_iff_ne, WA.wd] at h702
          refine c_skip ?_
          refine c_seq ?_
          refine c_seq ?_
          refine c_region ?_
          refine o_T (y_move rfl) rfl ?_
          refine o_T (y_move rfl) rfl ?_
          refine o_pass rfl rfl rfl rfl rfl ?_
          refine o_pass rfl rfl rfl rfl rfl ?_
          refine o_T (y_pickF rfl rfl) rfl ?_
          refine o_nil1 183 rfl rfl ?_
          refine c_condF rfl ?_
          refine c_skip ?_
          refine c_seq ?_
          refine c_seq ?_
          refine c_region ?_
          refine o_T (y_move rfl) rfl ?_
          refine o_nil1 198 rfl rfl ?_
          refine c_condT rfl ?_
          refine c_seq ?_
          refine c_region ?_
          refine o_T (y_move rfl) rfl ?_
          refine o_T (y_move rfl) rfl ?_
          refine o_T (y_nilck rfl) rfl ?_
          refine o_T (y_fa fl_53_0 rfl) rfl ?_
          refine o_T (y_ia ar_34 rfl rfl (by omega) (by omega)) rfl ?_
          refine o_ld one_33 rfl m0 (Wd.g_h c (by omega) (by omega)) rfl ?_
          refine o_T (y_move rfl) rfl ?_
          refine o_call en_32 rfl (i32 hx_1 c3 (ok2 _ c3).1 _ ((ok2 _ c3).2 _)) (s_skip (s_skip (s_skip (s_skip (s_skip (s_skip (s_take s_nil))))))) rfl ?_
          rintro v S' ⟨pc_4, gc_4, rfl, hi_4, rfl⟩
          refine o_T (y_move rfl) rfl ?_
          refine o_T (y_extract rfl rfl) rfl ?_
          refine o_T (y_extract rfl rfl) rfl ?_
          refine o_alloc ze_69 rfl rfl (fun b_6 => ?_)
          refine o_sta ag_69 rfl rfl (si_plain hi_4) rfl r0 (setAll_full _ _ rfl) (of_ble rfl) ?_
          refine o_L (y_assign rfl) rfl rfl ?_
          refine o_nil0 rfl ?_
          refine c_seq ?_
          refine c_region ?_
          refine o_T (y_move rfl) rfl ?_
          refine o_T (y_neq rfl rfl) rfl ?_
          refine o_nil1 211 rfl rfl ?_
          refine c_cond rfl (fun h713 => ?_) (fun h713 => ?_)
          · try simp only [decide_eq_true_eq, decide_eq_false_iff_not, Bool.not_eq_true', Bool.not_eq_false', Int.not_lt, Int.not_le, Decidable.not_not, beq_iff_eq, bne_iff_ne, ne_eq, beq_eq_false_iff_ne, WA.wd] at h713
            exact absurd (err21 hg) h713
          · try simp only [decide_eq_true_eq, decide_eq_false_iff_not, Bool.not_eq_true', Bool.not_eq_false', Int.not_lt, Int.not_le, Decidable.not_not, beq_iff_eq, bne_iff_ne, ne_eq, beq_eq_false_iff_ne, WA.wd] at h713
            refine c_skip ?_
            refine c_seq ?_
            refine c_seq ?_
            refine c_region ?_
            refine o_T (y_move rfl) rfl ?_
            refine o_T (y_move rfl) rfl ?_
            refine o_pass rfl rfl rfl rfl rfl ?_
            refine o_T (y_pickF rfl rfl) rfl ?_
            refine o_nil1 215 rfl rfl ?_
            refine c_condF rfl ?_
            refine c_skip ?_
            refine c_seq ?_
            refine c_seq ?_
            refine c_region ?_
            refine o_L (y_assign rfl) rfl rfl ?_
            refine o_nil0 rfl ?_
            refine c_block ?_
            refine c_loopG (ι := Nat) (fun i => [(26, .int .i64 (i : Int))]) (fun i => []) (fun i => i ≤ ((x.seen c).filter (kidP (x.H c) sd)).length) (fun i => ((x.seen c).filter (kidP (x.H c) sd)).length - i) 0 (by omega) ⟨by first | rfl | exact gteI rfl (by omega), trivial⟩ (s_take (s_take (s_take (s_take (s_take (s_take (s_take (s_take (s_take (s_take (s_take (s_take (s_take (s_take (s_take (s_take (s_take (s_take s_nil)))))))))))))))))) ?_
            rintro k2 hI
            try dsimp only at hI
            refine c_seq ?_
            refine c_seq ?_
            refine c_region ?_
            refine o_T (y_move rfl) rfl ?_
            refine o_T (y_move rfl) rfl ?_
            refine o_T (y_len Tryz.underlying46 rfl) rfl ?_
            refine o_T (y_lss rfl rfl) rfl ?_
            refine o_nil1 248 rfl rfl ?_
            refine c_cond rfl (fun h723 => ?_) (fun h723 => ?_)
            · try simp only [decide_eq_true_eq, decide_eq_false_iff_not, Bool.not_eq_true', Bool.not_eq_false', Int.not_lt, Int.not_le, Decidable.not_not, beq_iff_eq, bne_iff_ne, ne_eq, beq_eq_false_iff_ne, WA.wd] at h723
              refine c_skip ?_
              refine c_seq ?_
              refine c_block ?_
              refine c_seq ?_
              have hk2 : k2 < ((x.seen c).filter (kidP (x.H c) sd)).length := by omega
              obtain ⟨bwk, cpk, curk, hvk, hgk, hOk⟩ := (f2.lst (by omega)).open
              injection hvk with e1 e2 e3
              subst e1 e3 hgk
              refine c_draw #[true, true, true, true, true, true, true, true, true, true, true, true, true, true, true, false, true] rfl (n := 17) rfl ?_
              refine d_T 0 rfl (by kernel_rfl) rfl (y_move rfl) rfl ?_
              refine d_T 1 rfl (by kernel_rfl) rfl (y_move rfl) rfl ?_
              refine d_T 2 rfl (by kernel_rfl) rfl (y_nilck rfl) rfl ?_
              refine d_T 3 rfl (by kernel_rfl) rfl (y_fa fl_53_0 rfl) rfl ?_
              refine d_T 4 rfl (by kernel_rfl) rfl (y_ia ar_34 rfl rfl (by omega) (by omega)) rfl ?_
              refine d_ld 5 rfl (by kernel_rfl) one_33 rfl (fun x hx => hx) (ms (ms (ms m0))) (Wd.g_h c (by omega) (by omega)) rfl ?_
              refine d_T 6 rfl (by kernel_rfl) rfl (y_move rfl) rfl ?_
              refine d_T 7 rfl (by kernel_rfl) rfl (y_move rfl) rfl ?_
              refine d_T 8 rfl (by kernel_rfl) rfl (y_is sl_46 rfl rfl (by omega) (by omega)) rfl ?_
              refine d_ld 9 rfl (by kernel_rfl) one_3 rfl (fun x hx => hx) (ms (ms (ms (ms (ms (ms (ms (ms (ms (ms m0)))))))))) (intR_get hOk k2 (by omega) (by omega)) rfl ?_
              refine d_hard2A 14 10 (l := [10, 14]) rfl rfl (by kernel_rfl) (by first | exact .inl rfl | exact .inr rfl) ze_69 rfl rfl (fun b_7 => ?_) ?_
              · skip
                refine d_hard 10 rfl (by kernel_rfl) ?_
                refine o_call en_32 rfl (i32 hx_1 c3 (ok2 _ c3).1 _ ((ok2 _ c3).2 _)) (s_skip (s_skip (s_skip (s_take s_nil)))) rfl ?_
                rintro v S' ⟨pc_5, gc_5, rfl, hi_5, rfl⟩
                refine o_front (s_get k0 (s_get (ks k0) (s_get (ks k0) (s_get (ks k0) (s_get k0 (s_get k0 (s_get k0 (s_get k0 (s_get k0 (s_get k0 (s_get k0 (s_get k0 (s_get k0 (s_get k0 (s_get k0 (s_get k0 (s_get k0 (s_get k0 (s_get k0 (s_get k0 s_nil)))))))))))))))))))) ?_
                refine o_stop (fun _ => (fun x hx => (ms (ms hx)))) ?_
                refine d_T 11 rfl (by kernel_rfl) rfl (y_move rfl) rfl ?_
                refine d_T 12 rfl (by kernel_rfl) rfl (y_extract rfl rfl) rfl ?_
                refine d_T 13 rfl (by kernel_rfl) rfl (y_extract rfl rfl) rfl ?_
                refine d_hard 15 rfl (by kernel_rfl) ?_
                refine o_sta ag_69 rfl rfl (si_plain hi_5) rfl (rs r0) (setAll_full _ _ rfl) (of_ble rfl) ?_
                refine o_stop (fun h => nomatch h) ?_
                refine d_L 16 rfl (by kernel_rfl) rfl (y_assign rfl) rfl rfl ?_
                refine d_nil0 (by kernel_rfl) rfl ?_
                refine c_seq ?_
                have hmk := List.mem_filter.1 (getD_mem hk2)
                have hmp := hmk.2
                unfold kidP at hmp
                rw [Bool.and_eq_true, decide_eq_true_eq, decide_eq_true_eq] at hmp
                obtain ⟨hq1, hq2_, hq3, hq4⟩ := hk _ hmk.1 hmp.1 hmp.2
                obtain ⟨bi_1, hpcbi_1, hgcbi_1⟩ := InfG.ok hi_5 hq1
                subst hpcbi_1 hgcbi_1
                refine c_region ?_
                refine o_T (y_move rfl) rfl ?_
                refine o_T (y_neq rfl rfl) rfl ?_
                refine o_T (y_move rfl) rfl ?_
                refine o_split 267 rfl (fun h725 => ?_) (fun h725 => ?_)
                · try simp only [decide_eq_true_eq, decide_eq_false_iff_not, Bool.not_eq_true', Bool.not_eq_false', Int.not_lt, Int.not_le, Decidable.not_not, beq_iff_eq, bne_iff_ne, ne_eq, beq_eq_false_iff_ne, WA.wd] at h725
                  first | exact absurd hq1 h725 | exact absurd hq2_ h725 | exact absurd hq3 h725 | exact absurd h725 hq4
                · try simp only [decide_eq_true_eq, decide_eq_false_iff_not, Bool.not_eq_true', Bool.not_eq_false', Int.not_lt, Int.not_le, Decidable.not_not, beq_iff_eq, bne_iff_ne, ne_eq, beq_eq_false_iff_ne, WA.wd] at h725
                  refine o_take rfl rfl rfl ?_
                  refine o_T (y_fa fl_69_0 rfl) rfl ?_
                  refine o_take rfl rfl rfl ?_
                  refine o_T (y_fa fl_66_6 rfl) rfl ?_
                  refine o_take rfl rfl rfl ?_
                  refine o_ld one_3 rfl (ms m0) Si.g6 rfl ?_
                  refine o_take rfl rfl rfl ?_
                  refine o_T (y_neq rfl rfl) rfl ?_
                  refine o_T (y_pickF rfl rfl) rfl ?_
                  refine o_T (y_move rfl) rfl ?_
                  refine o_split 273 rfl (fun h725_1 => ?_) (fun h725_1 => ?_)
                  · try simp only [decide_eq_true_eq, decide_eq_false_iff_not, Bool.not_eq_true', Bool.not_eq_false', Int.not_lt, Int.not_le, Decidable.not_not, beq_iff_eq, bne_iff_ne, ne_eq, beq_eq_false_iff_ne, WA.wd] at h725_1
                    first | exact absurd hq1 h725_1 | exact absurd hq2_ h725_1 | exact absurd hq3 h725_1 | exact absurd h725_1 hq4
                  · try simp only [decide_eq_true_eq, decide_eq_false_iff_not, Bool.not_eq_true', Bool.not_eq_false', Int.not_lt, Int.not_le, Decidable.not_not, beq_iff_eq, bne_iff_ne, ne_eq, beq_eq_false_iff_ne, WA.wd] at h725_1
                    refine o_take rfl rfl rfl ?_
                    refine o_T (y_fa fl_69_1 rfl) rfl ?_
                    refine o_take rfl rfl rfl ?_
                    refine o_ld one_67 rfl (ms m0) Si.g8 rfl ?_
                    refine o_take rfl rfl rfl ?_
                    refine o_T (y_nilck rfl) rfl ?_
                    refine o_take rfl rfl rfl ?_
                    refine o_T (y_fa fl_95_0 rfl) rfl ?_
                    refine o_take rfl rfl rfl ?_
                    refine o_ld one_3 rfl m0 Ci.g0 rfl ?_
                    refine o_take rfl rfl rfl ?_
                    refine o_T (y_neq rfl rfl) rfl ?_
                    refine o_T (y_pickF rfl rfl) rfl ?_
                    refine o_T (y_move rfl) rfl ?_
                    refine o_split 281 rfl (fun h725_2 => ?_) (fun h725_2 => ?_)
                    · try simp only [decide_eq_true_eq, decide_eq_false_iff_not, Bool.not_eq_true', Bool.not_eq_false', Int.not_lt, Int.not_le, Decidable.not_not, beq_iff_eq, bne_iff_ne, ne_eq, beq_eq_false_iff_ne, WA.wd] at h725_2
                      first | exact absurd hq1 h725_2 | exact absurd hq2_ h725_2 | exact absurd hq3 h725_2 | exact absurd h725_2 hq4
                    · try simp only [decide_eq_true_eq, decide_eq_false_iff_not, Bool.not_eq_true', Bool.not_eq_false', Int.not_lt, Int.not_le, Decidable.not_not, beq_iff_eq, bne_iff_ne, ne_eq, beq_eq_false_iff_ne, WA.wd] at h725_2
                      refine o_take rfl rfl rfl ?_
                      refine o_T (y_fa fl_69_1 rfl) rfl ?_
                      refine o_take rfl rfl rfl ?_
                      refine o_ld one_67 rfl (ms m0) Si.g8 rfl ?_
                      refine o_take rfl rfl rfl ?_
                      refine o_T (y_nilck rfl) rfl ?_
                      refine o_take rfl rfl rfl ?_
                      refine o_T (y_fa fl_95_1 rfl) rfl ?_
                      refine o_take rfl rfl rfl ?_
                      refine o_ld one_70 rfl m0 Ci.g1 rfl ?_
                      refine o_take rfl rfl rfl ?_
                      refine o_T (y_eql rfl rfl) rfl ?_
                      refine o_T (y_pickF rfl rfl) rfl ?_
                      refine o_nil1 288 rfl rfl ?_
                      refine c_cond rfl (fun h725_3 => ?_) (fun h725_3 => ?_)
                      · try simp only [decide_eq_true_eq, decide_eq_false_iff_not, Bool.not_eq_true', Bool.not_eq_false', Int.not_lt, Int.not_le, Decidable.not_not, beq_iff_eq, bne_iff_ne, ne_eq, beq_eq_false_iff_ne, WA.wd] at h725_3
                        first | exact absurd hq1 h725_3 | exact absurd hq2_ h725_3 | exact absurd hq3 h725_3 | exact absurd h725_3 hq4
                      · try simp only [decide_eq_true_eq, decide_eq_false_iff_not, Bool.not_eq_true', Bool.not_eq_false', Int.not_lt, Int.not_le, Decidable.not_not, beq_iff_eq, bne_iff_ne, ne_eq, beq_eq_false_iff_ne, WA.wd] at h725_3
                        refine c_skip ?_
                        refine c_region ?_
                        refine o_T (y_move rfl) rfl ?_
                        refine o_T (y_add rfl rfl (w64 (by omega))) rfl ?_
                        refine o_L (y_assign rfl) rfl rfl ?_
                        refine o_nil0 rfl ?_
                        refine ⟨(k2 + 1), ⟨by omega, by first | omega | (dsimp only; omega)⟩, ⟨by first | rfl | exact gteI rfl (by omega), trivial⟩, ⟨rfl, rfl⟩, _, ((s_skip (s_skip (s_take (s_take (s_take (s_take (s_take (s_take (s_take (s_take (s_take (s_take (s_take (s_take (s_take (s_take (s_take (s_take (s_take (s_take s_nil)))))))))))))))))))))⟩
              · skip
                refine o_call en_32 rfl (i32 hx_1 c3 (ok2 _ c3).1 _ ((ok2 _ c3).2 _)) (s_skip (s_skip (s_take s_nil))) rfl ?_
                rintro v S' ⟨pc_6, gc_6, rfl, hi_6, rfl⟩
                refine o_front (s_get k0 (s_get (ks k0) (s_get (ks k0) (s_get k0 (s_get k0 (s_get k0 (s_get k0 (s_get k0 (s_get k0 (s_get k0 (s_get k0 (s_get k0 (s_get k0 (s_get k0 (s_get k0 (s_get k0 (s_get k0 (s_get k0 (s_get k0 s_nil))))))))))))))))))) ?_
                refine o_stop (fun _ => (fun x hx => (ms hx))) ?_
                refine d_T 11 rfl (by kernel_rfl) rfl (y_move rfl) rfl ?_
                refine d_T 12 rfl (by kernel_rfl) rfl (y_extract rfl rfl) rfl ?_
                refine d_T 13 rfl (by kernel_rfl) rfl (y_extract rfl rfl) rfl ?_
                refine d_hardA 14 rfl (by kernel_rfl) ze_69 rfl rfl (fun b_8 => ?_)
                refine d_hard 15 rfl (by kernel_rfl) ?_
                refine o_sta ag_69 rfl rfl (si_plain hi_6) rfl r0 (setAll_full _ _ rfl) (of_ble rfl) ?_
                refine o_stop (fun h => nomatch h) ?_
                refine d_L 16 rfl (by kernel_rfl) rfl (y_assign rfl) rfl rfl ?_
                refine d_nil0 (by kernel_rfl) rfl ?_
                refine c_seq ?_
                have hmk := List.mem_filter.1 (getD_mem hk2)
                have hmp := hmk.2
                unfold kidP at hmp
                rw [Bool.and_eq_true, decide_eq_true_eq, decide_eq_true_eq] at hmp
                obtain ⟨hq1, hq2_, hq3, hq4⟩ := hk _ hmk.1 hmp.1 hmp.2
                obtain ⟨bi_2, hpcbi_2, hgcbi_2⟩ := InfG.ok hi_6 hq1
                subst hpcbi_2 hgcbi_2
                refine c_region ?_
                refine o_T (y_move rfl) rfl ?_
                refine o_T (y_neq rfl rfl) rfl ?_
                refine o_T (y_move rfl) rfl ?_
                refine o_split 267 rfl (fun h725 => ?_) (fun h725 => ?_)
                · try simp only [decide_eq_true_eq, decide_eq_false_iff_not, Bool.not_eq_true', Bool.not_eq_false', Int.not_lt, Int.not_le, Decidable.not_not, beq_iff_eq, bne_iff_ne, ne_eq, beq_eq_false_iff_ne, WA.wd] at h725
                  first | exact absurd hq1 h725 | exact absurd hq2_ h725 | exact absurd hq3 h725 | exact absurd h725 hq4
                · try simp only [decide_eq_true_eq, decide_eq_false_iff_not, Bool.not_eq_true', Bool.not_eq_false', Int.not_lt, Int.not_le, Decidable.not_not, beq_iff_eq, bne_iff_ne, ne_eq, beq_eq_false_iff_ne, WA.wd] at h725
                  refine o_take rfl rfl rfl ?_
                  refine o_T (y_fa fl_69_0 rfl) rfl ?_
                  refine o_take rfl rfl rfl ?_
                  refine o_T (y_fa fl_66_6 rfl) rfl ?_
                  refine o_take rfl rfl rfl ?_
                  refine o_ld one_3 rfl m0 Si.g6 rfl ?_
                  refine o_take rfl rfl rfl ?_
                  refine o_T (y_neq rfl rfl) rfl ?_
                  refine o_T (y_pickF rfl rfl) rfl ?_
                  refine o_T (y_move rfl) rfl ?_
                  refine o_split 273 rfl (fun h725_1 => ?_) (fun h725_1 => ?_)
                  · try simp only [decide_eq_true_eq, decide_eq_false_iff_not, Bool.not_eq_true', Bool.not_eq_false', Int.not_lt, Int.not_le, Decidable.not_not, beq_iff_eq, bne_iff_ne, ne_eq, beq_eq_false_iff_ne, WA.wd] at h725_1
                    first | exact absurd hq1 h725_1 | exact absurd hq2_ h725_1 | exact absurd hq3 h725_1 | exact absurd h725_1 hq4
                  · try simp only [decide_eq_true_eq, decide_eq_false_iff_not, Bool.not_eq_true', Bool.not_eq_false', Int.not_lt, Int.not_le, Decidable.not_not, beq_iff_eq, bne_iff_ne, ne_eq, beq_eq_false_iff_ne, WA.wd] at h725_1
                    refine o_take rfl rfl rfl ?_
                    refine o_T (y_fa fl_69_1 rfl) rfl ?_
                    refine o_take rfl rfl rfl ?_
                    refine o_ld one_67 rfl m0 Si.g8 rfl ?_
                    refine o_take rfl rfl rfl ?_
                    refine o_T (y_nilck rfl) rfl ?_
                    refine o_take rfl rfl rfl ?_
                    refine o_T (y_fa fl_95_0 rfl) rfl ?_
                    refine o_take rfl rfl rfl ?_
                    refine o_ld one_3 rfl (ms m0) Ci.g0 rfl ?_
                    refine o_take rfl rfl rfl ?_
                    refine o_T (y_neq rfl rfl) rfl ?_
                    refine o_T (y_pickF rfl rfl) rfl ?_
                    refine o_T (y_move rfl) rfl ?_
                    refine o_split 281 rfl (fun h725_2 => ?_) (fun h725_2 => ?_)
                    · try simp only [decide_eq_true_eq, decide_eq_false_iff_not, Bool.not_eq_true', Bool.not_eq_false', Int.not_lt, Int.not_le, Decidable.not_not, beq_iff_eq, bne_iff_ne, ne_eq, beq_eq_false_iff_ne, WA.wd] at h725_2
                      first | exact absurd hq1 h725_2 | exact absurd hq2_ h725_2 | exact absurd hq3 h725_2 | exact absurd h725_2 hq4
                    · try simp only [decide_eq_true_eq, decide_eq_false_iff_not, Bool.not_eq_true', Bool.not_eq_false', Int.not_lt, Int.not_le, Decidable.not_not, beq_iff_eq, bne_iff_ne, ne_eq, beq_eq_false_iff_ne, WA.wd] at h725_2
                      refine o_take rfl rfl rfl ?_
                      refine o_T (y_fa fl_69_1 rfl) rfl ?_
                      refine o_take rfl rfl rfl ?_
                      refine o_ld one_67 rfl m0 Si.g8 rfl ?_
                      refine o_take rfl rfl rfl ?_
                      refine o_T (y_nilck rfl) rfl ?_
                      refine o_take rfl rfl rfl ?_
                      refine o_T (y_fa fl_95_1 rfl) rfl ?_
                      refine o_take rfl rfl rfl ?_
                      refine o_ld one_70 rfl (ms m0) Ci.g1 rfl ?_
                      refine o_take rfl rfl rfl ?_
                      refine o_T (y_eql rfl rfl) rfl ?_
                      refine o_T (y_pickF rfl rfl) rfl ?_
                      refine o_nil1 288 rfl rfl ?_
                      refine c_cond rfl (fun h725_3 => ?_) (fun h725_3 => ?_)
                      · try simp only [decide_eq_true_eq, decide_eq_false_iff_not, Bool.not_eq_true', Bool.not_eq_false', Int.not_lt, Int.not_le, Decidable.not_not, beq_iff_eq, bne_iff_ne, ne_eq, beq_eq_false_iff_ne, WA.wd] at h725_3
                        first | exact absurd hq1 h725_3 | exact absurd hq2_ h725_3 | exact absurd hq3 h725_3 | exact absurd h725_3 hq4
                      · try simp only [decide_eq_true_eq, decide_eq_false_iff_not, Bool.not_eq_true', Bool.not_eq_false', Int.not_lt, Int.not_le, Decidable.not_not, beq_iff_eq, bne_iff_ne, ne_eq, beq_eq_false_iff_ne, WA.wd] at h725_3
                        refine c_skip ?_
                        refine c_region ?_
                        refine o_T (y_move rfl) rfl ?_
                        refine o_T (y_add rfl rfl (w64 (by omega))) rfl ?_
                        refine o_L (y_assign rfl) rfl rfl ?_
                        refine o_nil0 rfl ?_
                        refine ⟨(k2 + 1), ⟨by omega, by first | omega | (dsimp only; omega)⟩, ⟨by first | rfl | exact gteI rfl (by omega), trivial⟩, ⟨rfl, rfl⟩, _, ((s_skip (s_skip (s_take (s_take (s_take (s_take (s_take (s_take (s_take (s_take (s_take (s_take (s_take (s_take (s_take (s_take (s_take (s_take (s_take (s_take s_nil)))))))))))))))))))))⟩
            · try simp only [decide_eq_true_eq, decide_eq_false_iff_not, Bool.not_eq_true', Bool.not_eq_false', Int.not_lt, Int.not_le, Decidable.not_not, beq_iff_eq, bne_iff_ne, ne_eq, beq_eq_false_iff_ne, WA.wd] at h723
              refine c_exit ?_
              refine c_seq ?_
              refine c_region ?_
              refine o_T (y_move rfl) rfl ?_
              refine o_T (y_move rfl) rfl ?_
              refine o_T (y_move rfl) rfl ?_
              refine o_call en_83 rfl (t83 A q { x with H := (upA x.H c ((x.H c).abortK sd)) } { V with mine := vm2, outs := vo2 } c c3 _ _ _ _ _ _ _ _ _ hF_1 (by omega) W.w hz.wl hm2 ho2 (by omega) (by omega) (by have := hz.out c c3; dsimp only; omega) (by have := hz.spilt; dsimp only; omega)) (s_get (ks (ks (ks k0))) (s_get (ks (ks (ks (ks (ks (ks (ks (ks (ks (ks (ks (ks (ks k0))))))))))))) (s_get (ks (ks (ks (ks k0)))) (s_get (ks (ks (ks (ks k0)))) (s_get (ks (ks (ks (ks k0)))) (s_get (ks (ks (ks (ks k0)))) s_nil)))))) rfl ?_
              rintro v S' ⟨vm_2, vo_2, gw_1, gm_2, go_2, rfl, hw_1, hm_2, ho_2, rfl⟩
              refine o_nil0 rfl ?_
              refine c_seq ?_
              refine c_region ?_
              refine o_L (y_assign rfl) rfl rfl ?_
              refine o_nil0 rfl ?_
              refine c_ret ?_
              refine fun aX wX heX hsX => ret1 Tryz.results49 heX rfl (s_get k0 (s_get (ks (ks (ks (ks (ks k0))))) (s_get (ks (ks (ks (ks (ks k0))))) (s_get k0 (s_get (ks (ks (ks (ks (ks (ks (ks (ks (ks k0))))))))) (s_get (ks (ks (ks (ks k0)))) (s_get (ks (ks (ks (ks (ks (ks (ks (ks k0)))))))) (s_get (ks (ks (ks (ks (ks (ks (ks (ks k0)))))))) (s_get (ks k0) (s_get k0 s_nil)))))))))) ?_
              exact ⟨rfl, _, hY1, { V with mine := vm_2, outs := vo_2 }, _, _, _, _, _, _, _, _, _, ⟨hx_1, hq2, hw_1, W.n, W.s, W.r, W.i.mono (by omega), ho_2.mono (by omega), hm_2.mono (by omega)⟩, rfl, rfl⟩

/-- (*e2e/towerlaw.World).End -/
theorem t49lc (A : WA) (q : Bool) (x : Wrld) (V : WV) (m : Nat) (gh gq gw gn gs gr gi go gm : List Chunk) (W : WG A q x V m gh gq gw gn gs gr gi go gm) (hm : m ≤ 2700000000000) (hz : Szs x) (hb : HBnd x) (c : Nat) (c3 : c < 3) (sd : Int) (Y : Wrld → Prop) (ho : (x.H c).oursB sd = false) (hl : (x.H c).lisB sd = true) (hsh : (x.H c).lisB sd = true → (x.H c).ShutOk sd) (hs1 : (x.H c).oursB sd = true → 0 ≤ ((x.H c).ent sd).slot ∧ ((x.H c).ent sd).slot < 4) (hs7 : (((x.H c).closeG sd)).length ≤ 24) (ok2 : ∀ i, i < 3 → ((upA x.H c ((x.H c).closeK sd)) i).Ok ∧ InfoOk ((upA x.H c ((x.H c).closeK sd)) i)) (hE : ((x.H c).closeE sd) = 0) (hF0 : ¬ ((x.H c).closeE sd) = 0 → ((x.H c).closeG sd) = [] ∧ ((x.H c).closeK sd) = x.H c) (hY1 : Y (({ x with H := (upA x.H c ((x.H c).closeK sd)) } : Wrld).put c ((x.H c).closeG sd))) (hg : ((upA x.H c ((x.H c).closeK sd)) c).err sd ≠ 0) (hk : ∀ s, s ∈ x.seen c → (x.H c).err s = 0 → ((x.H c).ent s).parent = sd → ((upA x.H c ((x.H c).closeK sd)) c).err s = 0 ∧ (((upA x.H c ((x.H c).closeK sd)) c).ent s).parent = 0 ∧ (((upA x.H c ((x.H c).closeK sd)) c).infoC s).state = 4 ∧ (((upA x.H c ((x.H c).closeK sd)) c).infoC s).why ≠ 0) : Trip Tryz.prog 49 #[.pointer (some ⟨A.b, 0, none⟩), .int .i64 (c : Int), .int .i64 sd, .bool false] [[(A.b, .cells (A.wd q x V).enc 53 (0, 0))], gh, gq, gw, gn, gs, gr, gi, go, gm] (fun u S' => u = .bool true ∧ ∃ y, Y y ∧ WPost A q y V.cm (m + 60) S') := by
  have hlb := hb.b c c3
  obtain ⟨gc, grest, hin, hpm, hbk⟩ := W.s.at c3
  obtain ⟨pse, hsv⟩ := hin.slice
  have hsl := hin.1
  refine fn_entry (args := [.pointer (some ⟨A.b, 0, none⟩), .int .i64 (c : Int), .int .i64 sd, .bool false]) Tryz.func49 rfl Tryz.ntmps49 rfl (fun w0 => ?_)
  refine c_seq ?_
  refine c_region ?_
  refine o_L (y_assign rfl) rfl rfl ?_
  refine o_nil0 rfl ?_
  refine c_seq ?_
  refine c_region ?_
  refine o_T (y_move rfl) rfl ?_
  refine o_T (y_move rfl) rfl ?_
  refine o_T (y_move rfl) rfl ?_
  refine o_call en_55 rfl (t55b _ _ _ _ _ _ c3 _ W.h hb.ok false ho) (s_take (s_take s_nil)) rfl ?_
  rintro v S' ⟨pc_1, gc_1, rfl, hi_1, rfl⟩
  refine o_T (y_move rfl) rfl ?_
  refine o_T (y_extract rfl rfl) rfl ?_
  refine o_T (y_extract rfl rfl) rfl ?_
  refine o_alloc ze_69 rfl rfl (fun b_1 => ?_)
  refine o_sta ag_69 rfl rfl (si_plain hi_1) rfl r0 (setAll_full _ _ rfl) (of_ble rfl) ?_
  refine o_L (y_assign rfl) rfl rfl ?_
  refine o_nil0 rfl ?_
  refine c_seq ?_
  refine c_region ?_
  refine o_L (y_assign rfl) rfl rfl ?_
  refine o_nil0 rfl ?_
  refine c_seq ?_
  refine c_region ?_
  refine o_T (y_move rfl) rfl ?_
  refine o_T (y_move rfl) rfl ?_
  refine o_T (y_move rfl) rfl ?_
  refine o_call en_92 rfl (t92b _ _ _ _ _ _ c3 _ W.h hb.ok true hl) (s_skip (s_skip (s_take (s_take s_nil)))) rfl ?_
  rintro v S' ⟨rfl, rfl⟩
  refine o_L (y_assign rfl) rfl rfl ?_
  refine o_nil0 rfl ?_
  refine c_seq ?_
  refine c_seq ?_
  refine c_region ?_
  refine o_T (y_move rfl) rfl ?_
  refine o_nil1 40 rfl rfl ?_
  refine c_condT rfl ?_
  refine c_region ?_
  refine o_L (y_assign rfl) rfl rfl ?_
  refine o_nil0 rfl ?_
  refine c_seq ?_
  refine c_region ?_
  refine o_lbs0 (R := intR) sz_46 rfl (fun vk0 gk0 hk0 => ?_)
  refine o_L (y_assign rfl) rfl rfl ?_
  refine o_nil0 rfl ?_
  refine c_seq ?_
  refine c_seq ?_
  refine c_front (s_get (ks (ks (ks (ks (ks (ks (ks (ks (ks k0))))))))) (s_get k0 (s_get k0 (s_get k0 (s_get k0 (s_get k0 (s_get k0 (s_get k0 (s_get k0 (s_get k0 (s_get k0 (s_get k0 (s_get k0 (s_get k0 s_nil)))))))))))))) ?_
  refine c_opn hpm ?_
  refine c_region ?_
  refine o_L (y_assign rfl) rfl rfl ?_
  refine o_nil0 rfl ?_
  refine c_block ?_
  refine c_loopG (ι := Nat × Value × List Chunk) (fun i_ => [(13, i_.2.1), (14, .int .i64 (i_.1 : Int))]) (fun i_ => [i_.2.2]) (fun i_ => i_.1 ≤ (x.seen c).length ∧ LstN 3 1 intR i_.2.1 (((x.seen c).take i_.1).filter (kidP (x.H c) sd)) i_.2.2 []) (fun i_ => (x.seen c).length - i_.1) (0, vk0, gk0) (by exact ⟨Nat.zero_le _, .of hk0⟩) ⟨rfl, by first | rfl | exact gteI rfl (by omega), trivial⟩ (s_get (ks (ks k0)) (s_get k0 (s_get k0 (s_get k0 (s_get k0 (s_get k0 (s_get k0 (s_get k0 (s_get k0 (s_get k0 (s_get k0 (s_get k0 (s_get k0 (s_get k0 (s_get k0 s_nil))))))))))))))) ?_
  rintro ⟨k, vk, gk⟩ ⟨f1, f2⟩
  try dsimp only [List.cons_append, List.nil_append] at *
  have hkl : (((x.seen c).take k).filter (kidP (x.H c) sd)).length ≤ k := Nat.le_trans (List.length_filter_le _ _) (by rw [List.length_take]; omega)
  refine c_seq ?_
  refine c_seq ?_
  refine c_region ?_
  refine o_T (y_move rfl) rfl ?_
  refine o_T (y_move rfl) rfl ?_
  refine o_T (y_move rfl) rfl ?_
  refine o_T (y_nilck rfl) rfl ?_
  refine o_T (y_fa fl_53_8 rfl) rfl ?_
  refine o_T (y_ia ar_47 rfl rfl (by omega) (by omega)) rfl ?_
  refine o_ld one_46 rfl (ms (ms (ms (ms m0)))) ((Wd.g_seen c (by omega) (by omega)).trans (congrArg some hsv)) rfl ?_
  refine o_T (y_len Tryz.underlying46 rfl) rfl ?_
  refine o_T (y_lss rfl rfl) rfl ?_
  refine o_T (y_move rfl) rfl ?_
  refine o_split 59 rfl (fun h675 => ?_) (fun h675 => ?_)
  · try simp only [decide_eq_true_eq, decide_eq_false_iff_not, Bool.not_eq_true', Bool.not_eq_false', Int.not_lt, Int.not_le, Decidable.not_not, beq_iff_eq, bne_iff_ne, ne_eq, beq_eq_false_iff_ne, WA.wd] at h675
    refine o_take rfl rfl rfl ?_
    refine o_T (y_move rfl) rfl ?_
    refine o_take rfl rfl rfl ?_
    refine o_T (y_eql rfl rfl) rfl ?_
    refine o_T (y_pickT rfl rfl) rfl ?_
    refine o_T (y_move rfl) rfl ?_
    refine o_split 63 rfl (fun h675_1 => ?_) (fun h675_1 => ?_)
    · try simp only [decide_eq_true_eq, decide_eq_false_iff_not, Bool.not_eq_true', Bool.not_eq_false', Int.not_lt, Int.not_le, Decidable.not_not, beq_iff_eq, bne_iff_ne, ne_eq, beq_eq_false_iff_ne, WA.wd] at h675_1
      refine o_take rfl rfl rfl ?_
      refine o_T (y_move rfl) rfl ?_
      refine o_take rfl rfl rfl ?_
      refine o_T (y_not rfl) rfl ?_
      refine o_T (y_pickT rfl rfl) rfl ?_
      refine o_nil1 66 rfl rfl ?_
      refine c_condT rfl ?_
      refine c_skip ?_
      refine c_seq ?_
      refine c_block ?_
      refine c_seq ?_
      obtain ⟨bs, hsv2, hgc⟩ := hin.pos (by omega)
      subst hgc
      refine c_draw #[true, true, true, true, true, true, true, true, true, true, true, true, true, true, true, true, true, true, true, true, false, true] rfl (n := 22) rfl ?_
      refine d_T 0 rfl (by kernel_rfl) rfl (y_move rfl) rfl ?_
      refine d_T 1 rfl (by kernel_rfl) rfl (y_move rfl) rfl ?_
      refine d_T 2 rfl (by kernel_rfl) rfl (y_nilck rfl) rfl ?_
      refine d_T 3 rfl (by kernel_rfl) rfl (y_fa fl_53_0 rfl) rfl ?_
      refine d_T 4 rfl (by kernel_rfl) rfl (y_ia ar_34 rfl rfl (by omega) (by omega)) rfl ?_
      refine d_ld 5 rfl (by kernel_rfl) one_33 rfl (fun x hx => hx) (ms (ms (ms (ms m0)))) (Wd.g_h c (by omega) (by omega)) rfl ?_
      refine d_T 6 rfl (by kernel_rfl) rfl (y_move rfl) rfl ?_
      refine d_T 7 rfl (by kernel_rfl) rfl (y_move rfl) rfl ?_
      refine d_T 8 rfl (by kernel_rfl) rfl (y_nilck rfl) rfl ?_
      refine d_T 9 rfl (by kernel_rfl) rfl (y_fa fl_53_8 rfl) rfl ?_
      refine d_T 10 rfl (by kernel_rfl) rfl (y_ia ar_47 rfl rfl (by omega) (by omega)) rfl ?_
      refine d_ld 11 rfl (by kernel_rfl) one_46 rfl (fun x hx => hx) (ms (ms (ms (ms m0)))) ((Wd.g_seen c (by omega) (by omega)).trans (congrArg some hsv2)) rfl ?_
      refine d_T 12 rfl (by kernel_rfl) rfl (y_move rfl) rfl ?_
      refine d_T 13 rfl (by kernel_rfl) rfl (y_is sl_46 rfl rfl (by omega) (by omega)) rfl ?_
      refine d_ld 14 rfl (by kernel_rfl) one_3 rfl (fun x hx => hx) (ms m0) (iV_get k (by omega) (by omega)) rfl ?_
      refine d_hard2A 19 15 (l := [15, 19]) rfl rfl (by kernel_rfl) (by first | exact .inl rfl | exact .inr rfl) ze_69 rfl rfl (fun b_2 => ?_) ?_
      · skip
        refine d_hard 15 rfl (by kernel_rfl) ?_
        refine o_call en_32 rfl (i32 W.h c3 (hb.ok _ c3).1 _ ((hb.ok _ c3).2 _)) (s_skip (s_skip (s_skip (s_skip (s_skip (s_skip (s_take s_nil))))))) rfl ?_
        rintro v S' ⟨pc_2, gc_2, rfl, hi_2, rfl⟩
        refine o_front (s_get k0 (s_get (ks k0) (s_get (ks k0) (s_get (ks k0) (s_get (ks k0) (s_get (ks k0) (s_get (ks k0) (s_get k0 (s_get k0 (s_get k0 (s_get k0 (s_get k0 (s_get k0 (s_get k0 (s_get k0 (s_get k0 (s_get k0 s_nil))))))))))))))))) ?_
        refine o_stop (fun _ => (fun x hx => (ms (ms hx)))) ?_
        refine d_T 16 rfl (by kernel_rfl) rfl (y_move rfl) rfl ?_
        refine d_T 17 rfl (by kernel_rfl) rfl (y_extract rfl rfl) rfl ?_
        refine d_T 18 rfl (by kernel_rfl) rfl (y_extract rfl rfl) rfl ?_
        refine d_hard 20 rfl (by kernel_rfl) ?_
        refine o_sta ag_69 rfl rfl (si_plain hi_2) rfl (rs r0) (setAll_full _ _ rfl) (of_ble rfl) ?_
        refine o_stop (fun h => nomatch h) ?_
        refine d_L 21 rfl (by kernel_rfl) rfl (y_assign rfl) rfl rfl ?_
        refine d_nil0 (by kernel_rfl) rfl ?_
        refine c_seq ?_
        refine c_region ?_
        refine o_T (y_move rfl) rfl ?_
        refine o_T (y_eql rfl rfl) rfl ?_
        refine o_T (y_move rfl) rfl ?_
        refine o_split 90 rfl (fun h677 => ?_) (fun h677 => ?_)
        · try simp only [decide_eq_true_eq, decide_eq_false_iff_not, Bool.not_eq_true', Bool.not_eq_false', Int.not_lt, Int.not_le, Decidable.not_not, beq_iff_eq, bne_iff_ne, ne_eq, beq_eq_false_iff_ne, WA.wd] at h677
          refine o_take rfl rfl rfl ?_
          refine o_T (y_fa fl_69_0 rfl) rfl ?_
          refine o_take rfl rfl rfl ?_
          refine o_T (y_fa fl_66_6 rfl) rfl ?_
          refine o_take rfl rfl rfl ?_
          refine o_ld one_3 rfl (ms m0) Si.g6 rfl ?_
          refine o_take rfl rfl rfl ?_
          refine o_T (y_move rfl) rfl ?_
          refine o_take rfl rfl rfl ?_
          refine o_T (y_eql rfl rfl) rfl ?_
          refine o_T (y_pickT rfl rfl) rfl ?_
          refine o_nil1 96 rfl rfl ?_
          refine c_cond rfl (fun h677_1 => ?_) (fun h677_1 => ?_)
          · try simp only [decide_eq_true_eq, decide_eq_false_iff_not, Bool.not_eq_true', Bool.not_eq_false', Int.not_lt, Int.not_le, Decidable.not_not, beq_iff_eq, bne_iff_ne, ne_eq, beq_eq_false_iff_ne, WA.wd] at h677_1
            refine c_region ?_
            refine o_T (y_move rfl) rfl ?_
            refine o_T (y_move rfl) rfl ?_
            refine o_T (y_move rfl) rfl ?_
            refine o_T (y_nilck rfl) rfl ?_
            refine o_T (y_fa fl_53_8 rfl) rfl ?_
            refine o_T (y_ia ar_47 rfl rfl (by omega) (by omega)) rfl ?_
            refine o_ld one_46 rfl (ms (ms (ms (ms (ms (ms m0)))))) ((Wd.g_seen c (by omega) (by omega)).trans (congrArg some hsv2)) rfl ?_
            refine o_T (y_move rfl) rfl ?_
            refine o_T (y_is sl_46 rfl rfl (by omega) (by omega)) rfl ?_
            refine o_ld one_3 rfl (ms (ms (ms m0))) (iV_get k (by omega) (by omega)) rfl ?_
            refine o_bs1 sz_46 rfl rfl rfl rfl rfl rfl (fun b_3 => ?_)
            refine o_lapp0 (R := intR) (u := ((x.seen c).getD k 0)) sz_46 rfl rfl rfl f2 rfl rfl ⟨rfl, rfl⟩ (sel0 (s_get (ks (ks (ks k0))) (s_get k0 s_nil))) (by omega) (by omega) rfl (fun v_9 gv_9 hl_9 => ?_)
            refine o_dropnil ?_
            refine o_L (y_assign rfl) rfl rfl ?_
            refine o_nil0 rfl ?_
            refine c_region ?_
            refine o_T (y_move rfl) rfl ?_
            refine o_T (y_add rfl rfl (w64 (by omega))) rfl ?_
            refine o_L (y_assign rfl) rfl rfl ?_
            refine o_nil0 rfl ?_
            refine ⟨(k + 1, _, gv_9), ⟨⟨by omega, by rw [kid_step (by omega), if_pos (by unfold kidP; rw [Bool.and_eq_true, decide_eq_true_eq, decide_eq_true_eq]; exact ⟨by assumption, by assumption⟩)]; exact .of hl_9⟩, by dsimp only; omega⟩, ⟨rfl, gteI rfl (by dsimp only; omega), trivial⟩, ⟨rfl, rfl⟩, _, ((s_take (s_skip (s_skip (s_take (s_take (s_take (s_take (s_take (s_take (s_take (s_take (s_take (s_take (s_take (s_take (s_take (s_take s_nil))))))))))))))))))⟩
          · try simp only [decide_eq_true_eq, decide_eq_false_iff_not, Bool.not_eq_true', Bool.not_eq_false', Int.not_lt, Int.not_le, Decidable.not_not, beq_iff_eq, bne_iff_ne, ne_eq, beq_eq_false_iff_ne, WA.wd] at h677_1
            refine c_skip ?_
            refine c_region ?_
            refine o_T (y_move rfl) rfl ?_
            refine o_T (y_add rfl rfl (w64 (by omega))) rfl ?_
            refine o_L (y_assign rfl) rfl rfl ?_
            refine o_nil0 rfl ?_
            refine ⟨(k + 1, vk, gk), ⟨⟨by omega, by rw [kid_step (by omega), if_neg (by unfold kidP; rw [Bool.and_eq_true, decide_eq_true_eq, decide_eq_true_eq]; first | exact fun z => absurd z.1 (by assumption) | exact fun z => absurd z.2 (by assumption)), List.append_nil]; exact f2⟩, by dsimp only; omega⟩, ⟨rfl, gteI rfl (by dsimp only; omega), trivial⟩, ⟨rfl, rfl⟩, _, ((s_skip (s_skip (s_take (s_take (s_take (s_take (s_take (s_take (s_take (s_take (s_take (s_take (s_take (s_take (s_take (s_take (s_take s_nil))))))))))))))))))⟩
        · try simp only [decide_eq_true_eq, decide_eq_false_iff_not, Bool.not_eq_true', Bool.not_eq_false', Int.not_lt, Int.not_le, Decidable.not_not, beq_iff_eq, bne_iff_ne, ne_eq, beq_eq_false_iff_ne, WA.wd] at h677
          refine o_pass rfl rfl rfl rfl rfl ?_
          refine o_pass rfl rfl rfl rfl rfl ?_
          refine o_pass rfl rfl rfl rfl rfl ?_
          refine o_pass rfl rfl rfl rfl rfl ?_
          refine o_pass rfl rfl rfl rfl rfl ?_
          refine o_T (y_pickF rfl rfl) rfl ?_
          refine o_nil1 96 rfl rfl ?_
          refine c_condF rfl ?_
          refine c_skip ?_
          refine c_region ?_
          refine o_T (y_move rfl) rfl ?_
          refine o_T (y_add rfl rfl (w64 (by omega))) rfl ?_
          refine o_L (y_assign rfl) rfl rfl ?_
          refine o_nil0 rfl ?_
          refine ⟨(k + 1, vk, gk), ⟨⟨by omega, by rw [kid_step (by omega), if_neg (by unfold kidP; rw [Bool.and_eq_true, decide_eq_true_eq, decide_eq_true_eq]; first | exact fun z => absurd z.1 (by assumption) | exact fun z => absurd z.2 (by assumption)), List.append_nil]; exact f2⟩, by dsimp only; omega⟩, ⟨rfl, gteI rfl (by dsimp only; omega), trivial⟩, ⟨rfl, rfl⟩, _, ((s_skip (s_skip (s_take (s_take (s_take (s_take (s_take (s_take (s_take (s_take (s_take (s_take (s_take (s_take (s_take (s_take (s_take s_nil))))))))))))))))))⟩
      · skip
        refine o_call en_32 rfl (i32 W.h c3 (hb.ok _ c3).1 _ ((hb.ok _ c3).2 _)) (s_skip (s_skip (s_skip (s_skip (s_skip (s_take s_nil)))))) rfl ?_
        rintro v S' ⟨pc_3, gc_3, rfl, hi_3, rfl⟩
        refine o_front (s_get k0 (s_get (ks k0) (s_get (ks k0) (s_get (ks k0) (s_get (ks k0) (s_get (ks k0) (s_get k0 (s_get k0 (s_get k0 (s_get k0 (s_get k0 (s_get k0 (s_get k0 (s_get k0 (s_get k0 (s_get k0 s_nil)))))))))))))))) ?_
        refine o_stop (fun _ => (fun x hx => (ms hx))) ?_
        refine d_T 16 rfl (by kernel_rfl) rfl (y_move rfl) rfl ?_
        refine d_T 17 rfl (by kernel_rfl) rfl (y_extract rfl rfl) rfl ?_
        refine d_T 18 rfl (by kernel_rfl) rfl (y_extract rfl rfl) rfl ?_
        refine d_hardA 19 rfl (by kernel_rfl) ze_69 rfl rfl (fun b_4 => ?_)
        refine d_hard 20 rfl (by kernel_rfl) ?_
        refine o_sta ag_69 rfl rfl (si_plain hi_3) rfl r0 (setAll_full _ _ rfl) (of_ble rfl) ?_
        refine o_stop (fun h => nomatch h) ?_
        refine d_L 21 rfl (by kernel_rfl) rfl (y_assign rfl) rfl rfl ?_
        refine d_nil0 (by kernel_rfl) rfl ?_
        refine c_seq ?_
        refine c_region ?_
        refine o_T (y_move rfl) rfl ?_
        refine o_T (y_eql rfl rfl) rfl ?_
        refine o_T (y_move rfl) rfl ?_
        refine o_split 90 rfl (fun h677 => ?_) (fun h677 => ?_)
        · try simp only [decide_eq_true_eq, decide_eq_false_iff_not, Bool.not_eq_true', Bool.not_eq_false', Int.not_lt, Int.not_le, Decidable.not_not, beq_iff_eq, bne_iff_ne, ne_eq, beq_eq_false_iff_ne, WA.wd] at h677
          refine o_take rfl rfl rfl ?_
          refine o_T (y_fa fl_69_0 rfl) rfl ?_
          refine o_take rfl rfl rfl ?_
          refine o_T (y_fa fl_66_6 rfl) rfl ?_
          refine o_take rfl rfl rfl ?_
          refine o_ld one_3 rfl m0 Si.g6 rfl ?_
          refine o_take rfl rfl rfl ?_
          refine o_T (y_move rfl) rfl ?_
          refine o_take rfl rfl rfl ?_
          refine o_T (y_eql rfl rfl) rfl ?_
          refine o_T (y_pickT rfl rfl) rfl ?_
          refine o_nil1 96 rfl rfl ?_
          refine c_cond rfl (fun h677_1 => ?_) (fun h677_1 => ?_)
          · try simp only [decide_eq_true_eq, decide_eq_false_iff_not, Bool.not_eq_true', Bool.not_eq_false', Int.not_lt, Int.not_le, Decidable.not_not, beq_iff_eq, bne_iff_ne, ne_eq, beq_eq_false_iff_ne, WA.wd] at h677_1
            refine c_region ?_
            refine o_T (y_move rfl) rfl ?_
            refine o_T (y_move rfl) rfl ?_
            refine o_T (y_move rfl) rfl ?_
            refine o_T (y_nilck rfl) rfl ?_
            refine o_T (y_fa fl_53_8 rfl) rfl ?_
            refine o_T (y_ia ar_47 rfl rfl (by omega) (by omega)) rfl ?_
            refine o_ld one_46 rfl (ms (ms (ms (ms (ms (ms m0)))))) ((Wd.g_seen c (by omega) (by omega)).trans (congrArg some hsv2)) rfl ?_
            refine o_T (y_move rfl) rfl ?_
            refine o_T (y_is sl_46 rfl rfl (by omega) (by omega)) rfl ?_
            refine o_ld one_3 rfl (ms (ms (ms m0))) (iV_get k (by omega) (by omega)) rfl ?_
            refine o_bs1 sz_46 rfl rfl rfl rfl rfl rfl (fun b_5 => ?_)
            refine o_lapp0 (R := intR) (u := ((x.seen c).getD k 0)) sz_46 rfl rfl rfl f2 rfl rfl ⟨rfl, rfl⟩ (sel0 (s_get (ks (ks (ks k0))) (s_get k0 s_nil))) (by omega) (by omega) rfl (fun v_9 gv_9 hl_9 => ?_)
            refine o_dropnil ?_
            refine o_L (y_assign rfl) rfl rfl ?_
            refine o_nil0 rfl ?_
            refine c_region ?_
            refine o_T (y_move rfl) rfl ?_
            refine o_T (y_add rfl rfl (w64 (by omega))) rfl ?_
            refine o_L (y_assign rfl) rfl rfl ?_
            refine o_nil0 rfl ?_
            refine ⟨(k + 1, _, gv_9), ⟨⟨by omega, by rw [kid_step (by omega), if_pos (by unfold kidP; rw [Bool.and_eq_true, decide_eq_true_eq, decide_eq_true_eq]; exact ⟨by assumption, by assumption⟩)]; exact .of hl_9⟩, by dsimp only; omega⟩, ⟨rfl, gteI rfl (by dsimp only; omega), trivial⟩, ⟨rfl, rfl⟩, _, ((s_take (s_skip (s_skip (s_take (s_take (s_take (s_take (s_take (s_take (s_take (s_take (s_take (s_take (s_take (s_take (s_take (s_take s_nil))))))))))))))))))⟩
          · try simp only [decide_eq_true_eq, decide_eq_false_iff_not, Bool.not_eq_true', Bool.not_eq_false', Int.not_lt, Int.not_le, Decidable.not_not, beq_iff_eq, bne_iff_ne, ne_eq, beq_eq_false_iff_ne, WA.wd] at h677_1
            refine c_skip ?_
            refine c_region ?_
            refine o_T (y_move rfl) rfl ?_
            refine o_T (y_add rfl rfl (w64 (by omega))) rfl ?_
            refine o_L (y_assign rfl) rfl rfl ?_
            refine o_nil0 rfl ?_
            refine ⟨(k + 1, vk, gk), ⟨⟨by omega, by rw [kid_step (by omega), if_neg (by unfold kidP; rw [Bool.and_eq_true, decide_eq_true_eq, decide_eq_true_eq]; first | exact fun z => absurd z.1 (by assumption) | exact fun z => absurd z.2 (by assumption)), List.append_nil]; exact f2⟩, by dsimp only; omega⟩, ⟨rfl, gteI rfl (by dsimp only; omega), trivial⟩, ⟨rfl, rfl⟩, _, ((s_skip (s_skip (s_take (s_take (s_take (s_take (s_take (s_take (s_take (s_take (s_take (s_take (s_take (s_take (s_take (s_take (s_take s_nil))))))))))))))))))⟩
        · try simp only [decide_eq_true_eq, decide_eq_false_iff_not, Bool.not_eq_true', Bool.not_eq_false', Int.not_lt, Int.not_le, Decidable.not_not, beq_iff_eq, bne_iff_ne, ne_eq, beq_eq_false_iff_ne, WA.wd] at h677
          refine o_pass rfl rfl rfl rfl rfl ?_
          refine o_pass rfl rfl rfl rfl rfl ?_
          refine o_pass rfl rfl rfl rfl rfl ?_
          refine o_pass rfl rfl rfl rfl rfl ?_
          refine o_pass rfl rfl rfl rfl rfl ?_
          refine o_T (y_pickF rfl rfl) rfl ?_
          refine o_nil1 96 rfl rfl ?_
          refine c_condF rfl ?_
          refine c_skip ?_
          refine c_region ?_
          refine o_T (y_move rfl) rfl ?_
          refine o_T (y_add rfl rfl (w64 (by omega))) rfl ?_
          refine o_L (y_assign rfl) rfl rfl ?_
          refine o_nil0 rfl ?_
          refine ⟨(k + 1, vk, gk), ⟨⟨by omega, by rw [kid_step (by omega), if_neg (by unfold kidP; rw [Bool.and_eq_true, decide_eq_true_eq, decide_eq_true_eq]; first | exact fun z => absurd z.1 (by assumption) | exact fun z => absurd z.2 (by assumption)), List.append_nil]; exact f2⟩, by dsimp only; omega⟩, ⟨rfl, gteI rfl (by dsimp only; omega), trivial⟩, ⟨rfl, rfl⟩, _, ((s_skip (s_skip (s_take (s_take (s_take (s_take (s_take (s_take (s_take (s_take (s_take (s_take (s_take (s_take (s_take (s_take (s_take s_nil))))))))))))))))))⟩
    · try simp only [decide_eq_true_eq, decide_eq_false_iff_not, Bool.not_eq_true', Bool.not_eq_false', Int.not_lt, Int.not_le, Decidable.not_not, beq_iff_eq, bne_iff_ne, ne_eq, beq_eq_false_iff_ne, WA.wd] at h675_1
      exact absurd trivial h675_1
  · try simp only [decide_eq_true_eq, decide_eq_false_iff_not, Bool.not_eq_true', Bool.not_eq_false', Int.not_lt, Int.not_le, Decidable.not_not, beq_iff_eq, bne_iff_ne, ne_eq, beq_eq_false_iff_ne, WA.wd] at h675
    refine o_pass rfl rfl rfl rfl rfl ?_
    refine o_pass rfl rfl rfl rfl rfl ?_
    refine o_T (y_pickF rfl rfl) rfl ?_
    refine o_T (y_move rfl) rfl ?_
    refine o_pass rfl rfl rfl rfl rfl ?_
    refine o_pass rfl rfl rfl rfl rfl ?_
    refine o_T (y_pickF rfl rfl) rfl ?_
    refine o_nil1 66 rfl rfl ?_
    refine c_condF rfl ?_
    refine c_exit ?_
    refine c_seq ?_
    refine c_front (s_get (ks k0) (s_get (ks k0) (s_get k0 (s_get k0 (s_get k0 (s_get k0 (s_get k0 (s_get k0 (s_get k0 (s_get k0 (s_get k0 (s_get k0 (s_get k0 (s_get k0 (s_get k0 s_nil))))))))))))))) ?_
    refine c_sht hpm ?_
    obtain rfl : k = (x.seen c).length := by omega
    rw [List.take_length] at f2
    have hkb := lstN_bnd f2
    obtain ⟨pk2, ck2, hk2s⟩ := f2.slice
    subst hk2s
    refine c_region ?_
    refine o_L (y_assign rfl) rfl rfl ?_
    refine o_L (y_assign rfl) rfl rfl ?_
    refine o_nil0 rfl ?_
    refine c_seq ?_
    refine c_region ?_
    refine o_L (y_assign rfl) rfl rfl ?_
    refine o_L (y_assign rfl) rfl rfl ?_
    refine o_nil0 rfl ?_
    refine c_seq ?_
    refine c_seq ?_
    refine c_region ?_
    refine o_T (y_move rfl) rfl ?_
    refine o_nil1 109 rfl rfl ?_
    refine c_condF rfl ?_
    refine c_region ?_
    refine o_T (y_move rfl) rfl ?_
    refine o_T (y_move rfl) rfl ?_
    refine o_T (y_nilck rfl) rfl ?_
    refine o_T (y_fa fl_53_0 rfl) rfl ?_
    refine o_T (y_ia ar_34 rfl rfl (by omega) (by omega)) rfl ?_
    refine o_ld one_33 rfl (ms (ms (ms m0))) (Wd.g_h c (by omega) (by omega)) rfl ?_
    refine o_T (y_move rfl) rfl ?_
    refine o_call en_104 rfl (j104 W.h c3 (hb.ok _ c3).1 (by omega) sd hsh hs1) (s_skip (s_skip (s_skip (s_skip (s_take s_nil))))) rfl ?_
    rintro v S' ⟨v_1, gv_1, gd_1, gx_1, rfl, hF_1, hx_1, rfl⟩
    refine o_T (y_move rfl) rfl ?_
    refine o_T (y_extract rfl rfl) rfl ?_
    refine o_T (y_extract rfl rfl) rfl ?_
    refine o_L (y_assign rfl) rfl rfl ?_
    refine o_L (y_assign rfl) rfl rfl ?_
    refine o_nil0 rfl ?_
    refine c_seq ?_
    refine c_seq ?_
    refine c_region ?_
    refine o_T (y_move rfl) rfl ?_
    refine o_T (y_nilck rfl) rfl ?_
    refine o_T (y_fa fl_53_3 rfl) rfl ?_
    refine o_ld one_4 rfl (ms (ms (ms (ms (ms (ms m0)))))) Wd.g27 rfl ?_
    refine o_nil1 135 rfl rfl ?_
    refine c_front (s_get (ks (ks (ks (ks (ks (ks k0)))))) (s_get (ks (ks (ks (ks (ks (ks (ks (ks k0)))))))) (s_get (ks (ks (ks (ks (ks (ks (ks (ks (ks (ks (ks (ks (ks k0))))))))))))) (s_get (ks (ks (ks (ks (ks (ks (ks (ks (ks (ks (ks (ks k0)))))))))))) (s_get k0 (s_get k0 (s_get k0 (s_get k0 (s_get k0 (s_get k0 (s_get k0 (s_get k0 (s_get k0 (s_get k0 (s_get k0 (s_get k0 s_nil)))))))))))))))) ?_
    refine c_joinD 4 (ι := Value × Value × List Chunk × List Chunk × List Chunk × Value × Int) (fun i => [(18, i.2.2.2.2.2.1), (20, .int .i64 i.2.2.2.2.2.2)]) (fun i => [[(A.b, .cells (A.wd q x { V with mine := i.1, outs := i.2.1 }).enc 53 (0, 0))], i.2.2.1, i.2.2.2.1, i.2.2.2.2.1]) (fun i => (q = true → HsG (upA x.H c ((x.H c).closeK sd)) A.qv A.qb i.2.2.1) ∧ PM (m + 24) i.1 i.2.2.2.1 ∧ PO (m + 1) i.2.1 i.2.2.2.2.1) (fun _ _ h => h) ?_ ?_
    · skip
      refine c_cond rfl (fun h688 => ?_) (fun h688 => ?_)
      · try simp only [decide_eq_true_eq, decide_eq_false_iff_not, Bool.not_eq_true', Bool.not_eq_false', Int.not_lt, Int.not_le, Decidable.not_not, beq_iff_eq, bne_iff_ne, ne_eq, beq_eq_false_iff_ne, WA.wd] at h688
        refine c_seq ?_
        refine c_seq ?_
        refine c_region ?_
        refine o_T (y_move rfl) rfl ?_
        refine o_nil1 136 rfl rfl ?_
        refine c_condF rfl ?_
        refine c_region ?_
        refine o_T (y_move rfl) rfl ?_
        refine o_T (y_move rfl) rfl ?_
        refine o_T (y_nilck rfl) rfl ?_
        refine o_T (y_fa fl_53_2 rfl) rfl ?_
        refine o_T (y_ia ar_34 rfl rfl (by omega) (by omega)) rfl ?_
        refine o_ld one_33 rfl m0 (Wd.g_q c (by omega) (by omega)) rfl ?_
        refine o_T (y_move rfl) rfl ?_
        refine o_call en_104 rfl (j104 (W.q h688) c3 (hb.ok _ c3).1 (by omega) sd hsh hs1) (s_skip (s_take s_nil)) rfl ?_
        rintro v S' ⟨v_2, gv_2, gd_2, gx_2, rfl, hF_2, hx_2, rfl⟩
        refine o_T (y_move rfl) rfl ?_
        refine o_T (y_extract rfl rfl) rfl ?_
        refine o_T (y_extract rfl rfl) rfl ?_
        refine o_L (y_assign rfl) rfl rfl ?_
        refine o_L (y_assign rfl) rfl rfl ?_
        refine o_nil0 rfl ?_
        refine c_seq ?_
        refine c_seq ?_
        refine c_region ?_
        refine o_T (y_move rfl) rfl ?_
        refine o_T (y_move rfl) rfl ?_
        refine o_T (y_neq rfl rfl) rfl ?_
        refine o_T (y_move rfl) rfl ?_
        refine o_split 162 rfl (fun h694 => ?_) (fun h694 => ?_)
        · try simp only [decide_eq_true_eq, decide_eq_false_iff_not, Bool.not_eq_true', Bool.not_eq_false', Int.not_lt, Int.not_le, Decidable.not_not, beq_iff_eq, bne_iff_ne, ne_eq, beq_eq_false_iff_ne, WA.wd] at h694
          first | exact absurd trivial h694 | exact absurd rfl h694 | (simp at h694; done)
        · try simp only [decide_eq_true_eq, decide_eq_false_iff_not, Bool.not_eq_true', Bool.not_eq_false', Int.not_lt, Int.not_le, Decidable.not_not, beq_iff_eq, bne_iff_ne, ne_eq, beq_eq_false_iff_ne, WA.wd] at h694
          refine o_take rfl rfl rfl ?_
          refine o_T (y_move rfl) rfl ?_
          refine o_take rfl rfl rfl ?_
          refine o_T (y_move rfl) rfl ?_
          refine o_take rfl rfl rfl ?_
          refine o_callrv en_81 rfl (t81 _ _ _ _ _ _ _ _ hF_1 hF_2) (s_get (ks (ks (ks (ks (ks (ks k0)))))) (s_get (ks (ks (ks (ks (ks (ks k0)))))) (s_get k0 (s_get k0 s_nil)))) rfl ?_
          refine o_take rfl rfl rfl ?_
          refine o_T (y_not rfl) rfl ?_
          refine o_T (y_pickF rfl rfl) rfl ?_
          refine o_nil1 167 rfl rfl ?_
          refine c_cond rfl (fun h694_1 => ?_) (fun h694_1 => ?_)
          · try simp only [decide_eq_true_eq, decide_eq_false_iff_not, Bool.not_eq_true', Bool.not_eq_false', Int.not_lt, Int.not_le, Decidable.not_not, beq_iff_eq, bne_iff_ne, ne_eq, beq_eq_false_iff_ne, WA.wd] at h694_1
            first | exact absurd trivial h694_1 | exact absurd rfl h694_1 | (simp at h694_1; done)
          · try simp only [decide_eq_true_eq, decide_eq_false_iff_not, Bool.not_eq_true', Bool.not_eq_false', Int.not_lt, Int.not_le, Decidable.not_not, beq_iff_eq, bne_iff_ne, ne_eq, beq_eq_false_iff_ne, WA.wd] at h694_1
            refine c_skip ?_
            refine c_region ?_
            refine o_T (y_move rfl) rfl ?_
            refine o_T (y_move rfl) rfl ?_
            refine o_call en_82 rfl (t82 A q x V W.m W.o (by omega) (by omega) hF_2) (s_get (ks (ks (ks k0))) (s_get (ks (ks (ks k0))) (s_get (ks (ks (ks k0))) (s_get k0 (s_get k0 s_nil))))) rfl ?_
            rintro v S' ⟨vm_1, vo_1, gm_1, go_1, rfl, hm_1, ho_1, rfl⟩
            refine o_nil0 rfl ?_
            refine ⟨(vm_1, vo_1, _, _, _, _, _), ⟨fun _ => hx_2, hm_1.mono (by omega), ho_1.mono (by omega)⟩, ⟨rfl, rfl, trivial⟩, ⟨rfl, rfl⟩, _, ((s_get k0 (s_get (ks (ks k0)) (s_get k0 (s_get k0 (s_get k0 (s_get k0 (s_get k0 (s_get k0 (s_get k0 (s_get k0 (s_get k0 (s_get k0 (s_get k0 (s_get k0 (s_get k0 (s_get k0 s_nil)))))))))))))))))⟩
      · try simp only [decide_eq_true_eq, decide_eq_false_iff_not, Bool.not_eq_true', Bool.not_eq_false', Int.not_lt, Int.not_le, Decidable.not_not, beq_iff_eq, bne_iff_ne, ne_eq, beq_eq_false_iff_ne, WA.wd] at h688
        refine c_skip ?_
        refine ⟨(V.mine, V.outs, _, _, _, _, _), ⟨fun z => absurd (z.symm.trans h688) (fun y => nomatch y), W.m.mono (by omega), W.o.mono (by omega)⟩, ⟨rfl, rfl, trivial⟩, ⟨rfl, rfl⟩, _, ((s_take (s_take (s_take (s_take (s_take (s_take (s_take (s_take (s_take (s_take (s_take (s_take (s_take (s_take (s_take (s_take s_nil)))))))))))))))))⟩
    · rintro ⟨vm2, vo2, gq2, gm2, go2, v18, v20⟩ ⟨hq2, hm2, ho2⟩
      try dsimp only at hq2
      refine c_seq ?_
      refine c_seq ?_
      refine c_region ?_
      refine o_T (y_move rfl) rfl ?_
      refine o_T (y_move rfl) rfl ?_
      refine o_T (y_neq rfl rfl) rfl ?_
      refine o_nil1 173 rfl rfl ?_
      refine c_cond rfl (fun h699 => ?_) (fun h699 => ?_)
      · try simp only [decide_eq_true_eq, decide_eq_false_iff_not, Bool.not_eq_true', Bool.not_eq_false', Int.not_lt, Int.not_le, Decidable.not_not, beq_iff_eq, bne_iff_ne, ne_eq, beq_eq_false_iff_ne, WA.wd] at h699
        exact absurd hE h699
      · try simp only [decide_eq_true_eq, decide_eq_false_iff_not, Bool.not_eq_true', Bool.not_eq_false', Int.not_lt, Int.not_le, Decidable.not_not, beq_iff_eq, bne_iff_ne, ne_eq, beq_eq_false_iff_ne, WA.wd] at h699
        refine c_skip ?_
        refine c_seq ?_
        refine c_seq ?_
        refine c_region ?_
        refine o_T (y_move rfl) rfl ?_
        refine o_T (y_neq rfl rfl) rfl ?_
        refine o_nil1 175 rfl rfl ?_
        refine c_cond rfl (fun h702 => ?_) (fun h702 => ?_)
        · try simp only [decide_eq_true_eq, decide_eq_false_iff_not, Bool.not_eq_true', Bool.not_eq_false', Int.not_lt, Int.not_le, Decidable.not_not, beq_iff_eq, bne_iff_ne, ne_eq, beq_eq_false_iff_ne, WA.wd] at h702
          exact absurd hE h702
        · try simp only [decide_eq_true_eq, decide_eq_false_iff_not, Bool.not_eq_true', Bool.not_eq_false', Int.not_lt, Int.not_le, Decidable.not_not, beq_iff_eq, bne_iff_ne, ne_eq, beq_eq_false_iff_ne, WA.wd] at h702
          refine c_skip ?_
          refine c_seq ?_
          refine c_seq ?_
          refine c_region ?_
          refine o_T (y_move rfl) rfl ?_
          refine o_T (y_move rfl) rfl ?_
          refine o_pass rfl rfl rfl rfl rfl ?_
          refine o_pass rfl rfl rfl rfl rfl ?_
          refine o_T (y_pickF rfl rfl) rfl ?_
          refine o_nil1 183 rfl rfl ?_
          refine c_condF rfl ?_
          refine c_skip ?_
          refine c_seq ?_
          refine c_seq ?_
          refine c_region ?_
          refine o_T (y_move rfl) rfl ?_
          refine o_nil1 198 rfl rfl ?_
          refine c_condT rfl ?_
          refine c_seq ?_
          refine c_region ?_
          refine o_T (y_move rfl) rfl ?_
          refine o_T (y_move rfl) rfl ?_
          refine o_T (y_nilck rfl) rfl ?_
          refine o_T (y_fa fl_53_0 rfl) rfl ?_
          refine o_T (y_ia ar_34 rfl rfl (by omega) (by omega)) rfl ?_
          refine o_ld one_33 rfl m0 (Wd.g_h c (by omega) (by omega)) rfl ?_
          refine o_T (y_move rfl) rfl ?_
          refine o_call en_32 rfl (i32 hx_1 c3 (ok2 _ c3).1 _ ((ok2 _ c3).2 _)) (s_skip (s_skip (s_skip (s_skip (s_skip (s_skip (s_take s_nil))))))) rfl ?_
          rintro v S' ⟨pc_4, gc_4, rfl, hi_4, rfl⟩
          refine o_T (y_move rfl) rfl ?_
          refine o_T (y_extract rfl rfl) rfl ?_
          refine o_T (y_extract rfl rfl) rfl ?_
          refine o_alloc ze_69 rfl rfl (fun b_6 => ?_)
          refine o_sta ag_69 rfl rfl (si_plain hi_4) rfl r0 (setAll_full _ _ rfl) (of_ble rfl) ?_
          refine o_L (y_assign rfl) rfl rfl ?_
          refine o_nil0 rfl ?_
          refine c_seq ?_
          refine c_region ?_
          refine o_T (y_move rfl) rfl ?_
          refine o_T (y_neq rfl rfl) rfl ?_
          refine o_nil1 211 rfl rfl ?_
          refine c_cond rfl (fun h713 => ?_) (fun h713 => ?_)
          · try simp only [decide_eq_true_eq, decide_eq_false_iff_not, Bool.not_eq_true', Bool.not_eq_false', Int.not_lt, Int.not_le, Decidable.not_not, beq_iff_eq, bne_iff_ne, ne_eq, beq_eq_false_iff_ne, WA.wd] at h713
            exact absurd (err21 hg) h713
          · try simp only [decide_eq_true_eq, decide_eq_false_iff_not, Bool.not_eq_true', Bool.not_eq_false', Int.not_lt, Int.not_le, Decidable.not_not, beq_iff_eq, bne_iff_ne, ne_eq, beq_eq_false_iff_ne, WA.wd] at h713
            refine c_skip ?_
            refine c_seq ?_
            refine c_seq ?_
            refine c_region ?_
            refine o_T (y_move rfl) rfl ?_
            refine o_T (y_move rfl) rfl ?_
            refine o_pass rfl rfl rfl rfl rfl ?_
            refine o_T (y_pickF rfl rfl) rfl ?_
            refine o_nil1 215 rfl rfl ?_
            refine c_condF rfl ?_
            refine c_skip ?_
            refine c_seq ?_
            refine c_seq ?_
            refine c_region ?_
            refine o_L (y_assign rfl) rfl rfl ?_
            refine o_nil0 rfl ?_
            refine c_block ?_
            refine c_loopG (ι := Nat) (fun i => [(26, .int .i64 (i : Int))]) (fun i => []) (fun i => i ≤ ((x.seen c).filter (kidP (x.H c) sd)).length) (fun i => ((x.seen c).filter (kidP (x.H c) sd)).length - i) 0 (by omega) ⟨by first | rfl | exact gteI rfl (by omega), trivial⟩ (s_take (s_take (s_take (s_take (s_take (s_take (s_take (s_take (s_take (s_take (s_take (s_take (s_take (s_take (s_take (s_take (s_take (s_take s_nil)))))))))))))))))) ?_
            rintro k2 hI
            try dsimp only at hI
            refine c_seq ?_
            refine c_seq ?_
            refine c_region ?_
            refine o_T (y_move rfl) rfl ?_
            refine o_T (y_move rfl) rfl ?_
            refine o_T (y_len Tryz.underlying46 rfl) rfl ?_
            refine o_T (y_lss rfl rfl) rfl ?_
            refine o_nil1 248 rfl rfl ?_
            refine c_cond rfl (fun h723 => ?_) (fun h723 => ?_)
            · try simp only [decide_eq_true_eq, decide_eq_false_iff_not, Bool.not_eq_true', Bool.not_eq_false', Int.not_lt, Int.not_le, Decidable.not_not, beq_iff_eq, bne_iff_ne, ne_eq, beq_eq_false_iff_ne, WA.wd] at h723
              refine c_skip ?_
              refine c_seq ?_
              refine c_block ?_
              refine c_seq ?_
              have hk2 : k2 < ((x.seen c).filter (kidP (x.H c) sd)).length := by omega
              obtain ⟨bwk, cpk, curk, hvk, hgk, hOk⟩ := (f2.lst (by omega)).open
              injection hvk with e1 e2 e3
              subst e1 e3 hgk
              refine c_draw #[true, true, true, true, true, true, true, true, true, true, true, true, true, true, true, false, true] rfl (n := 17) rfl ?_
              refine d_T 0 rfl (by kernel_rfl) rfl (y_move rfl) rfl ?_
              refine d_T 1 rfl (by kernel_rfl) rfl (y_move rfl) rfl ?_
              refine d_T 2 rfl (by kernel_rfl) rfl (y_nilck rfl) rfl ?_
              refine d_T 3 rfl (by kernel_rfl) rfl (y_fa fl_53_0 rfl) rfl ?_
              refine d_T 4 rfl (by kernel_rfl) rfl (y_ia ar_34 rfl rfl (by omega) (by omega)) rfl ?_
              refine d_ld 5 rfl (by kernel_rfl) one_33 rfl (fun x hx => hx) (ms (ms (ms m0))) (Wd.g_h c (by omega) (by omega)) rfl ?_
              refine d_T 6 rfl (by kernel_rfl) rfl (y_move rfl) rfl ?_
              refine d_T 7 rfl (by kernel_rfl) rfl (y_move rfl) rfl ?_
              refine d_T 8 rfl (by kernel_rfl) rfl (y_is sl_46 rfl rfl (by omega) (by omega)) rfl ?_
              refine d_ld 9 rfl (by kernel_rfl) one_3 rfl (fun x hx => hx) (ms (ms (ms (ms (ms (ms (ms (ms (ms (ms m0)))))))))) (intR_get hOk k2 (by omega) (by omega)) rfl ?_
              refine d_hard2A 14 10 (l := [10, 14]) rfl rfl (by kernel_rfl) (by first | exact .inl rfl | exact .inr rfl) ze_69 rfl rfl (fun b_7 => ?_) ?_
              · skip
                refine d_hard 10 rfl (by kernel_rfl) ?_
                refine o_call en_32 rfl (i32 hx_1 c3 (ok2 _ c3).1 _ ((ok2 _ c3).2 _)) (s_skip (s_skip (s_skip (s_take s_nil)))) rfl ?_
                rintro v S' ⟨pc_5, gc_5, rfl, hi_5, rfl⟩
                refine o_front (s_get k0 (s_get (ks k0) (s_get (ks k0) (s_get (ks k0) (s_get k0 (s_get k0 (s_get k0 (s_get k0 (s_get k0 (s_get k0 (s_get k0 (s_get k0 (s_get k0 (s_get k0 (s_get k0 (s_get k0 (s_get k0 (s_get k0 (s_get k0 (s_get k0 s_nil)))))))))))))))))))) ?_
                refine o_stop (fun _ => (fun x hx => (ms (ms hx)))) ?_
                refine d_T 11 rfl (by kernel_rfl) rfl (y_move rfl) rfl ?_
                refine d_T 12 rfl (by kernel_rfl) rfl (y_extract rfl rfl) rfl ?_
                refine d_T 13 rfl (by kernel_rfl) rfl (y_extract rfl rfl) rfl ?_
                refine d_hard 15 rfl (by kernel_rfl) ?_
                refine o_sta ag_69 rfl rfl (si_plain hi_5) rfl (rs r0) (setAll_full _ _ rfl) (of_ble rfl) ?_
                refine o_stop (fun h => nomatch h) ?_
                refine d_L 16 rfl (by kernel_rfl) rfl (y_assign rfl) rfl rfl ?_
                refine d_nil0 (by kernel_rfl) rfl ?_
                refine c_seq ?_
                have hmk := List.mem_filter.1 (getD_mem hk2)
                have hmp := hmk.2
                unfold kidP at hmp
                rw [Bool.and_eq_true, decide_eq_true_eq, decide_eq_true_eq] at hmp
                obtain ⟨hq1, hq2_, hq3, hq4⟩ := hk _ hmk.1 hmp.1 hmp.2
                obtain ⟨bi_1, hpcbi_1, hgcbi_1⟩ := InfG.ok hi_5 hq1
                subst hpcbi_1 hgcbi_1
                refine c_region ?_
                refine o_T (y_move rfl) rfl ?_
                refine o_T (y_neq rfl rfl) rfl ?_
                refine o_T (y_move rfl) rfl ?_
                refine o_split 267 rfl (fun h725 => ?_) (fun h725 => ?_)
                · try simp only [decide_eq_true_eq, decide_eq_false_iff_not, Bool.not_eq_true', Bool.not_eq_false', Int.not_lt, Int.not_le, Decidable.not_not, beq_iff_eq, bne_iff_ne, ne_eq, beq_eq_false_iff_ne, WA.wd] at h725
                  first | exact absurd hq1 h725 | exact absurd hq2_ h725 | exact absurd hq3 h725 | exact absurd h725 hq4
                · try simp only [decide_eq_true_eq, decide_eq_false_iff_not, Bool.not_eq_true', Bool.not_eq_false', Int.not_lt, Int.not_le, Decidable.not_not, beq_iff_eq, bne_iff_ne, ne_eq, beq_eq_false_iff_ne, WA.wd] at h725
                  refine o_take rfl rfl rfl ?_
                  refine o_T (y_fa fl_69_0 rfl) rfl ?_
                  refine o_take rfl rfl rfl ?_
                  refine o_T (y_fa fl_66_6 rfl) rfl ?_
                  refine o_take rfl rfl rfl ?_
                  refine o_ld one_3 rfl (ms m0) Si.g6 rfl ?_
                  refine o_take rfl rfl rfl ?_
                  refine o_T (y_neq rfl rfl) rfl ?_
                  refine o_T (y_pickF rfl rfl) rfl ?_
                  refine o_T (y_move rfl) rfl ?_
                  refine o_split 273 rfl (fun h725_1 => ?_) (fun h725_1 => ?_)
                  · try simp only [decide_eq_true_eq, decide_eq_false_iff_not, Bool.not_eq_true', Bool.not_eq_false', Int.not_lt, Int.not_le, Decidable.not_not, beq_iff_eq, bne_iff_ne, ne_eq, beq_eq_false_iff_ne, WA.wd] at h725_1
                    first | exact absurd hq1 h725_1 | exact absurd hq2_ h725_1 | exact absurd hq3 h725_1 | exact absurd h725_1 hq4
                  · try simp only [decide_eq_true_eq, decide_eq_false_iff_not, Bool.not_eq_true', Bool.not_eq_false', Int.not_lt, Int.not_le, Decidable.not_not, beq_iff_eq, bne_iff_ne, ne_eq, beq_eq_false_iff_ne, WA.wd] at h725_1
                    refine o_take rfl rfl rfl ?_
                    refine o_T (y_fa fl_69_1 rfl) rfl ?_
                    refine o_take rfl rfl rfl ?_
                    refine o_ld one_67 rfl (ms m0) Si.g8 rfl ?_
                    refine o_take rfl rfl rfl ?_
                    refine o_T (y_nilck rfl) rfl ?_
                    refine o_take rfl rfl rfl ?_
                    refine o_T (y_fa fl_95_0 rfl) rfl ?_
                    refine o_take rfl rfl rfl ?_
                    refine o_ld one_3 rfl m0 Ci.g0 rfl ?_
                    refine o_take rfl rfl rfl ?_
                    refine o_T (y_neq rfl rfl) rfl ?_
                    refine o_T (y_pickF rfl rfl) rfl ?_
                    refine o_T (y_move rfl) rfl ?_
                    refine o_split 281 rfl (fun h725_2 => ?_) (fun h725_2 => ?_)
                    · try simp only [decide_eq_true_eq, decide_eq_false_iff_not, Bool.not_eq_true', Bool.not_eq_false', Int.not_lt, Int.not_le, Decidable.not_not, beq_iff_eq, bne_iff_ne, ne_eq, beq_eq_false_iff_ne, WA.wd] at h725_2
                      first | exact absurd hq1 h725_2 | exact absurd hq2_ h725_2 | exact absurd hq3 h725_2 | exact absurd h725_2 hq4
                    · try simp only [decide_eq_true_eq, decide_eq_false_iff_not, Bool.not_eq_true', Bool.not_eq_false', Int.not_lt, Int.not_le, Decidable.not_not, beq_iff_eq, bne_iff_ne, ne_eq, beq_eq_false_iff_ne, WA.wd] at h725_2
                      refine o_take rfl rfl rfl ?_
                      refine o_T (y_fa fl_69_1 rfl) rfl ?_
                      refine o_take rfl rfl rfl ?_
                      refine o_ld one_67 rfl (ms m0) Si.g8 rfl ?_
                      refine o_take rfl rfl rfl ?_
                      refine o_T (y_nilck rfl) rfl ?_
                      refine o_take rfl rfl rfl ?_
                      refine o_T (y_fa fl_95_1 rfl) rfl ?_
                      refine o_take rfl rfl rfl ?_
                      refine o_ld one_70 rfl m0 Ci.g1 rfl ?_
                      refine o_take rfl rfl rfl ?_
                      refine o_T (y_eql rfl rfl) rfl ?_
                      refine o_T (y_pickF rfl rfl) rfl ?_
                      refine o_nil1 288 rfl rfl ?_
                      refine c_cond rfl (fun h725_3 => ?_) (fun h725_3 => ?_)
                      · try simp only [decide_eq_true_eq, decide_eq_false_iff_not, Bool.not_eq_true', Bool.not_eq_false', Int.not_lt, Int.not_le, Decidable.not_not, beq_iff_eq, bne_iff_ne, ne_eq, beq_eq_false_iff_ne, WA.wd] at h725_3
                        first | exact absurd hq1 h725_3 | exact absurd hq2_ h725_3 | exact absurd hq3 h725_3 | exact absurd h725_3 hq4
                      · try simp only [decide_eq_true_eq, decide_eq_false_iff_not, Bool.not_eq_true', Bool.not_eq_false', Int.not_lt, Int.not_le, Decidable.not_not, beq_iff_eq, bne_iff_ne, ne_eq, beq_eq_false_iff_ne, WA.wd] at h725_3
                        refine c_skip ?_
                        refine c_region ?_
                        refine o_T (y_move rfl) rfl ?_
                        refine o_T (y_add rfl rfl (w64 (by omega))) rfl ?_
                        refine o_L (y_assign rfl) rfl rfl ?_
                        refine o_nil0 rfl ?_
                        refine ⟨(k2 + 1), ⟨by omega, by first | omega | (dsimp only; omega)⟩, ⟨by first | rfl | exact gteI rfl (by omega), trivial⟩, ⟨rfl, rfl⟩, _, ((s_skip (s_skip (s_take (s_take (s_take (s_take (s_take (s_take (s_take (s_take (s_take (s_take (s_take (s_take (s_take (s_take (s_take (s_take (s_take (s_take s_nil)))))))))))))))))))))⟩
              · skip
                refine o_call en_32 rfl (i32 hx_1 c3 (ok2 _ c3).1 _ ((ok2 _ c3).2 _)) (s_skip (s_skip (s_take s_nil))) rfl ?_
                rintro v S' ⟨pc_6, gc_6, rfl, hi_6, rfl⟩
                refine o_front (s_get k0 (s_get (ks k0) (s_get (ks k0) (s_get k0 (s_get k0 (s_get k0 (s_get k0 (s_get k0 (s_get k0 (s_get k0 (s_get k0 (s_get k0 (s_get k0 (s_get k0 (s_get k0 (s_get k0 (s_get k0 (s_get k0 (s_get k0 s_nil))))))))))))))))))) ?_
                refine o_stop (fun _ => (fun x hx => (ms hx))) ?_
                refine d_T 11 rfl (by kernel_rfl) rfl (y_move rfl) rfl ?_
                refine d_T 12 rfl (by kernel_rfl) rfl (y_extract rfl rfl) rfl ?_
                refine d_T 13 rfl (by kernel_rfl) rfl (y_extract rfl rfl) rfl ?_
                refine d_hardA 14 rfl (by kernel_rfl) ze_69 rfl rfl (fun b_8 => ?_)
                refine d_hard 15 rfl (by kernel_rfl) ?_
                refine o_sta ag_69 rfl rfl (si_plain hi_6) rfl r0 (setAll_full _ _ rfl) (of_ble rfl) ?_
                refine o_stop (fun h => nomatch h) ?_
                refine d_L 16 rfl (by kernel_rfl) rfl (y_assign rfl) rfl rfl ?_
                refine d_nil0 (by kernel_rfl) rfl ?_
                refine c_seq ?_
                have hmk := List.mem_filter.1 (getD_mem hk2)
                have hmp := hmk.2
                unfold kidP at hmp
                rw [Bool.and_eq_true, decide_eq_true_eq, decide_eq_true_eq] at hmp
                obtain ⟨hq1, hq2_, hq3, hq4⟩ := hk _ hmk.1 hmp.1 hmp.2
                obtain ⟨bi_2, hpcbi_2, hgcbi_2⟩ := InfG.ok hi_6 hq1
                subst hpcbi_2 hgcbi_2
                refine c_region ?_
                refine o_T (y_move rfl) rfl ?_
                refine o_T (y_neq rfl rfl) rfl ?_
                refine o_T (y_move rfl) rfl ?_
                refine o_split 267 rfl (fun h725 => ?_) (fun h725 => ?_)
                · try simp only [decide_eq_true_eq, decide_eq_false_iff_not, Bool.not_eq_true', Bool.not_eq_false', Int.not_lt, Int.not_le, Decidable.not_not, beq_iff_eq, bne_iff_ne, ne_eq, beq_eq_false_iff_ne, WA.wd] at h725
                  first | exact absurd hq1 h725 | exact absurd hq2_ h725 | exact absurd hq3 h725 | exact absurd h725 hq4
                · try simp only [decide_eq_true_eq, decide_eq_false_iff_not, Bool.not_eq_true', Bool.not_eq_false', Int.not_lt, Int.not_le, Decidable.not_not, beq_iff_eq, bne_iff_ne, ne_eq, beq_eq_false_iff_ne, WA.wd] at h725
                  refine o_take rfl rfl rfl ?_
                  refine o_T (y_fa fl_69_0 rfl) rfl ?_
                  refine o_take rfl rfl rfl ?_
                  refine o_T (y_fa fl_66_6 rfl) rfl ?_
                  refine o_take rfl rfl rfl ?_
                  refine o_ld one_3 rfl m0 Si.g6 rfl ?_
                  refine o_take rfl rfl rfl ?_
                  refine o_T (y_neq rfl rfl) rfl ?_
                  refine o_T (y_pickF rfl rfl) rfl ?_
                  refine o_T (y_move rfl) rfl ?_
                  refine o_split 273 rfl (fun h725_1 => ?_) (fun h725_1 => ?_)
                  · try simp only [decide_eq_true_eq, decide_eq_false_iff_not, Bool.not_eq_true', Bool.not_eq_false', Int.not_lt, Int.not_le, Decidable.not_not, beq_iff_eq, bne_iff_ne, ne_eq, beq_eq_false_iff_ne, WA.wd] at h725_1
                    first | exact absurd hq1 h725_1 | exact absurd hq2_ h725_1 | exact absurd hq3 h725_1 | exact absurd h725_1 hq4
                  · try simp only [decide_eq_true_eq, decide_eq_false_iff_not, Bool.not_eq_true', Bool.not_eq_false', Int.not_lt, Int.not_le, Decidable.not_not, beq_iff_eq, bne_iff_ne, ne_eq, beq_eq_false_iff_ne, WA.wd] at h725_1
                    refine o_take rfl rfl rfl ?_
                    refine o_T (y_fa fl_69_1 rfl) rfl ?_
                    refine o_take rfl rfl rfl ?_
                    refine o_ld one_67 rfl m0 Si.g8 rfl ?_
                    refine o_take rfl rfl rfl ?_
                    refine o_T (y_nilck rfl) rfl ?_
                    refine o_take rfl rfl rfl ?_
                    refine o_T (y_fa fl_95_0 rfl) rfl ?_
                    refine o_take rfl rfl rfl ?_
                    refine o_ld one_3 rfl (ms m0) Ci.g0 rfl ?_
                    refine o_take rfl rfl rfl ?_
                    refine o_T (y_neq rfl rfl) rfl ?_
                    refine o_T (y_pickF rfl rfl) rfl ?_
                    refine o_T (y_move rfl) rfl ?_
                    refine o_split 281 rfl (fun h725_2 => ?_) (fun h725_2 => ?_)
                    · try simp only [decide_eq_true_eq, decide_eq_false_iff_not, Bool.not_eq_true', Bool.not_eq_false', Int.not_lt, Int.not_le, Decidable.not_not, beq_iff_eq, bne_iff_ne, ne_eq, beq_eq_false_iff_ne, WA.wd] at h725_2
                      first | exact absurd hq1 h725_2 | exact absurd hq2_ h725_2 | exact absurd hq3 h725_2 | exact absurd h725_2 hq4
                    · try simp only [decide_eq_true_eq, decide_eq_false_iff_not, Bool.not_eq_true', Bool.not_eq_false', Int.not_lt, Int.not_le, Decidable.not_not, beq_iff_eq, bne_iff_ne, ne_eq, beq_eq_false_iff_ne, WA.wd] at h725_2
                      refine o_take rfl rfl rfl ?_
                      refine o_T (y_fa fl_69_1 rfl) rfl ?_
                      refine o_take rfl rfl rfl ?_
                      refine o_ld one_67 rfl m0 Si.g8 rfl ?_
                      refine o_take rfl rfl rfl ?_
                      refine o_T (y_nilck rfl) rfl ?_
                      refine o_take rfl rfl rfl ?_
                      refine o_T (y_fa fl_95_1 rfl) rfl ?_
                      refine o_take rfl rfl rfl ?_
                      refine o_ld one_70 rfl (ms m0) Ci.g1 rfl ?_
                      refine o_take rfl rfl rfl ?_
                      refine o_T (y_eql rfl rfl) rfl ?_
                      refine o_T (y_pickF rfl rfl) rfl ?_
                      refine o_nil1 288 rfl rfl ?_
                      refine c_cond rfl (fun h725_3 => ?_) (fun h725_3 => ?_)
                      · try simp only [decide_eq_true_eq, decide_eq_false_iff_not, Bool.not_eq_true', Bool.not_eq_false', Int.not_lt, Int.not_le, Decidable.not_not, beq_iff_eq, bne_iff_ne, ne_eq, beq_eq_false_iff_ne, WA.wd] at h725_3
                        first | exact absurd hq1 h725_3 | exact absurd hq2_ h725_3 | exact absurd hq3 h725_3 | exact absurd h725_3 hq4
                      · try simp only [decide_eq_true_eq, decide_eq_false_iff_not, Bool.not_eq_true', Bool.not_eq_false', Int.not_lt, Int.not_le, Decidable.not_not, beq_iff_eq, bne_iff_ne, ne_eq, beq_eq_false_iff_ne, WA.wd] at h725_3
                        refine c_skip ?_
                        refine c_region ?_
                        refine o_T (y_move rfl) rfl ?_
                        refine o_T (y_add rfl rfl (w64 (by omega))) rfl ?_
                        refine o_L (y_assign rfl) rfl rfl ?_
                        refine o_nil0 rfl ?_
                        refine ⟨(k2 + 1), ⟨by omega, by first | omega | (dsimp only; omega)⟩, ⟨by first | rfl | exact gteI rfl (by omega), trivial⟩, ⟨rfl, rfl⟩, _, ((s_skip (s_skip (s_take (s_take (s_take (s_take (s_take (s_take (s_take (s_take (s_take (s_take (s_take (s_take (s_take (s_take (s_take (s_take (s_take (s_take s_nil)))))))))))))))))))))⟩
            · try simp only [decide_eq_true_eq, decide_eq_false_iff_not, Bool.not_eq_true', Bool.not_eq_false', Int.not_lt, Int.not_le, Decidable.not_not, beq_iff_eq, bne_iff_ne, ne_eq, beq_eq_false_iff_ne, WA.wd] at h723
              refine c_exit ?_
              refine c_seq ?_
              refine c_region ?_
              refine o_T (y_move rfl) rfl ?_
              refine o_T (y_move rfl) rfl ?_
              refine o_T (y_move rfl) rfl ?_
              refine o_call en_83 rfl (t83 A q { x with H := (upA x.H c ((x.H c).closeK sd)) } { V with mine := vm2, outs := vo2 } c c3 _ _ _ _ _ _ _ _ _ hF_1 (by omega) W.w hz.wl hm2 ho2 (by omega) (by omega) (by have := hz.out c c3; dsimp only; omega) (by have := hz.spilt; dsimp only; omega)) (s_get (ks (ks (ks k0))) (s_get (ks (ks (ks (ks (ks (ks (ks (ks (ks (ks (ks (ks (ks k0))))))))))))) (s_get (ks (ks (ks (ks k0)))) (s_get (ks (ks (ks (ks k0)))) (s_get (ks (ks (ks (ks k0)))) (s_get (ks (ks (ks (ks k0)))) s_nil)))))) rfl ?_
              rintro v S' ⟨vm_2, vo_2, gw_1, gm_2, go_2, rfl, hw_1, hm_2, ho_2, rfl⟩
              refine o_nil0 rfl ?_
              refine c_seq ?_
              refine c_region ?_
              refine o_L (y_assign rfl) rfl rfl ?_
              refine o_nil0 rfl ?_
              refine c_ret ?_
              refine fun aX wX heX hsX => ret1 Tryz.results49 heX rfl (s_get k0 (s_get (ks (ks (ks (ks (ks k0))))) (s_get (ks (ks (ks (ks (ks k0))))) (s_get k0 (s_get (ks (ks (ks (ks (ks (ks (ks (ks (ks k0))))))))) (s_get (ks (ks (ks (ks k0)))) (s_get (ks (ks (ks (ks (ks (ks (ks (ks k0)))))))) (s_get (ks (ks (ks (ks (ks (ks (ks (ks k0)))))))) (s_get (ks k0) (s_get k0 s_nil)))))))))) ?_
              exact ⟨rfl, _, hY1, { V with mine := vm_2, outs := vo_2 }, _, _, _, _, _, _, _, _, _, ⟨hx_1, hq2, hw_1, W.n, W.s, W.r, W.i.mono (by omega), ho_2.mono (by omega), hm_2.mono (by omega)⟩, rfl, rfl⟩

end Go.Proofs.Qxb6500351aGreat
