/- MADE BY PROGRAM (tools350/mir.py): mirror and walk. -/
import Derived.Test.Qxb6500350aGreatF2
import Derived.Test.Qxb6500350aGreatT287
import Derived.Test.Qxb6500350aGreatT288
set_option linter.unusedVariables false
set_option linter.unusedSimpArgs false
set_option maxRecDepth 20000
set_option maxHeartbeats 4000000
namespace Go.Proofs.Qxb6500350aGreat
open Go.Eng

/- (*tree.Trees).WriteTree -/
def m248_w1 (n : Nat) (t : Trees) (s : Store) (d : Dev) (list : (List Entry)) (mm : Nat) : Int → Option (Flow (Int × Int × Trees × Store × Dev) (Int)) := it1 (fun lp1 c2 =>
cond (decide (c2 < (list.length : Int))) (
Option.bind (ixL list c2) fun x1 =>
cond ((decide (x1.id < 1)) || (decide ((48 : Int) < x1.id))) (
Option.bind (some (0, 6, t, s, d)) fun q1 => some (.ret q1)) (
Option.bind (ckA x1.id 49) fun _ =>
cond (decide (¬ ((t.kind x1.id) = 1))) (
Option.bind (some (0, 6, t, s, d)) fun q2 => some (.ret q2)) (
lp1 (wi (c2 + 1))))) (
some (.nx c2))) mm
def m248 (n : Nat) (t : Trees) (s : Store) (d : Dev) (list : (List Entry)) : Option (Int × Int × Trees × Store × Dev) :=
ob1 (m287 n list) fun c1 =>
cond (decide (¬ (c1 = 0))) (
some (0, c1, t, s, d)) (
flow (m248_w1 n t s d list n 0) some (un1 fun c3 =>
ob5 (m288 n t s d list 0 (list.length : Int) 0) fun c4 c5 z2 z3 z4 =>
some (c4, c5, z2, z3, z4)))
theorem t248 {n : Nat} {C : List Chunk} {rc1 : Int} {rc2 : Int} {rz1 : Trees} {rz2 : Store} {rz3 : Dev} {b1 : Nat} {t : Trees} {b2 : Nat} {s : Store} {b3 : Nat} {d : Dev} {v1 : Value} {g1 : List Chunk} {v2 : Value} {g2 : List Chunk} {v3 : Value} {g3 : List Chunk} {v4 : Value} {g4 : List Chunk} {v5 : Value} {list : (List Entry)} (ho1 : Own rByte v1 d.blk g1) (ho2 : Own rByte v2 d.base g2) (ho3 : Own rInt v3 d.at_ g3) (ho4 : Own rByte v4 d.data g4) (hr1 : Rd rEntry C v5 list)  (hm : m248 n t s d list = some (rc1, rc2, rz1, rz2, rz3)) : Trip Tryz.prog 248 #[.pointer (some ⟨b1, 0, none⟩), v5] ([[(b1, .cells (Trees.enc (.pointer (some ⟨b2, 0, none⟩)) t).toArray 169 (0, 0))], [(b2, .cells (Store.enc (.pointer (some ⟨b3, 0, none⟩)) s).toArray 126 (0, 0))], [(b3, .cells (Dev.enc (v1) (v2) (v3) (v4) d).toArray 85 (0, 0))], g1, g2, g3, g4] ++ [C]) (fun u S' => ∃ (ev1 : Value), ∃ (eg1 : List Chunk), ∃ (ev2 : Value), ∃ (eg2 : List Chunk), ∃ (ev3 : Value), ∃ (eg3 : List Chunk), ∃ (ev4 : Value), ∃ (eg4 : List Chunk), .tuple #[.int .i64 rc1, .int .i64 rc2] = u ∧ S' = [[(b1, .cells (Trees.enc (.pointer (some ⟨b2, 0, none⟩)) rz1).toArray 169 (0, 0))], [(b2, .cells (Store.enc (.pointer (some ⟨b3, 0, none⟩)) rz2).toArray 126 (0, 0))], [(b3, .cells (Dev.enc (ev1) (ev2) (ev3) (ev4) rz3).toArray 85 (0, 0))], eg1, eg2, eg3, eg4] ++ [C] ∧ Own rByte ev1 rz3.blk eg1 ∧ Own rByte ev2 rz3.base eg2 ∧ Own rInt ev3 rz3.at_ eg3 ∧ Own rByte ev4 rz3.data eg4) := by
  refine fn_entry (args := [.pointer (some ⟨b1, 0, none⟩), v5]) Tryz.func248 rfl Tryz.ntmps248 rfl (fun w0 => ?_)
  refine c_seq ?_
  refine c_region ?_
  refine o_L (y_assign rfl) rfl rfl ?_
  refine o_L (y_assign rfl) rfl rfl ?_
  refine o_nil0 rfl ?_
  refine c_seq ?_
  refine c_region ?_
  refine o_T (y_move rfl) rfl ?_
  obtain ⟨c1, hx1, hm⟩ := bd1 hm
  refine o_callC en_287 rfl s_nil (t287 (hr1.mono (fun _ hz => (ms (ms (ms (ms (ms (ms (ms (mg hz)))))))))) hx1) rfl (fun u1 S1 hR1 => ?_)
  obtain ⟨rfl, rfl⟩ := hR1
  refine o_rest ?_
  refine o_L (y_assign rfl) rfl rfl ?_
  refine o_nil0 rfl ?_
  refine c_seq ?_
  refine c_seq ?_
  refine c_region ?_
  refine o_T (y_move rfl) rfl ?_
  refine o_T (y_neq rfl rfl) rfl ?_
  refine o_nil1 12 rfl rfl ?_
  refine c_cond rfl (fun h1 => ?_) (fun h1 => ?_)
  · have hm := cd_t h1 hm
    refine c_seq ?_
    refine c_region ?_
    refine o_T (y_move rfl) rfl ?_
    refine o_L (y_assign rfl) rfl rfl ?_
    refine o_L (y_assign rfl) rfl rfl ?_
    refine o_nil0 rfl ?_
    refine c_ret ?_
    obtain ⟨rfl, rfl, rfl, rfl, rfl⟩ := pr5 hm
    refine fun aX wX heX hsX => ret2 Tryz.results248 heX rfl rfl (s_take (s_take (s_take (s_take (s_take (s_take (s_take (s_take s_nil)))))))) ?_
    exact ⟨v1, _, v2, _, v3, _, v4, _, rfl, rfl, ho1, ho2, ho3, ho4⟩
  · have hm := cd_f h1 hm
    refine c_skip ?_
    refine c_seq ?_
    refine c_seq ?_
    refine c_region ?_
    refine o_L (y_assign rfl) rfl rfl ?_
    refine o_nil0 rfl ?_
    obtain ⟨f1, F1, hF1, hj1, hF2⟩ := fl2 hm
    refine c_joinP (n := 0) (fun sh G => ∃ (c3 : Int), sh = [(7, .int .i64 c3)] ∧ G = [] ∧ F1 c3 = some (rc1, rc2, rz1, rz2, rz3)) (s_take (s_take (s_take (s_take (s_take (s_take (s_take (s_take s_nil)))))))) .z (fun _ _ h => h) ?_ ?_
    · skip
      refine c_block ?_
      refine c_loopP (n := 0) (fun mm sh G => ∃ (c2 : Int), sh = [(7, .int .i64 c2)] ∧ G = [] ∧ m248_w1 n t s d list mm c2 = some f1) n (s_take (s_take (s_take (s_take (s_take (s_take (s_take (s_take s_nil)))))))) .z ⟨_, _, ⟨_, rfl, rfl, hj1⟩, ⟨rfl, trivial⟩, _, (s_take (s_take (s_take (s_take (s_take (s_take (s_take (s_take s_nil))))))))⟩ ?_
      rintro mm sh G ⟨c2, rfl, rfl, hm⟩
      obtain ⟨mm1, rfl, hm⟩ := it1_s hm
      refine c_seq ?_
      refine c_seq ?_
      refine c_region ?_
      refine o_T (y_move rfl) rfl ?_
      refine o_T (y_move rfl) rfl ?_
      refine o_T (y_lenR hr1 Tryz.underlying277 rfl) rfl ?_
      refine o_T (y_lss rfl rfl) rfl ?_
      refine o_nil1 17 rfl rfl ?_
      refine c_cond rfl (fun h2 => ?_) (fun h2 => ?_)
      · have hm := cd_t h2 hm
        refine c_skip ?_
        refine c_seq ?_
        refine c_block ?_
        refine c_seq ?_
        refine c_region ?_
        refine o_T (y_move rfl) rfl ?_
        refine o_T (y_move rfl) rfl ?_
        obtain ⟨x1, hx2, hm⟩ := bd hm
        obtain ⟨b4, w1, cs1, y1, z1, vs1, hc1, ha1, hr2, hy1⟩ := hr1.ix hx2
        obtain rfl : vs1 = Entry.enc x1 := hr2
        refine o_T (hy1 sl_277 rfl rfl rfl) rfl ?_
        refine o_T (y_fa fl_279_1 rfl) rfl ?_
        refine o_ld one_3 rfl (ms (ms (ms (ms (ms (ms (ms (mg hc1)))))))) (At.getA (ha1.comp Entry.a_id)) rfl ?_
        refine o_L (y_assign rfl) rfl rfl ?_
        refine o_nil0 rfl ?_
        refine c_seq ?_
        refine c_seq ?_
        refine c_joinP (n := 0) (fun sh G => sh = [(30, .bool ((decide (x1.id < 1)) || (decide ((48 : Int) < x1.id))))] ∧ G = []) Sel.all' .z (fun _ _ h => h) ?_ ?_
        · skip
          refine c_region ?_
          refine o_T (y_move rfl) rfl ?_
          refine o_T (y_lss rfl rfl) rfl ?_
          refine o_T (y_move rfl) rfl ?_
          refine o_split 27 rfl (fun h3 => ?_) (fun h3 => ?_)
          · skip
            refine o_pass rfl rfl rfl rfl rfl ?_
            refine o_pass rfl rfl rfl rfl rfl ?_
            refine o_T (y_pickT rfl rfl) rfl ?_
            refine o_nil1 30 rfl rfl ?_
            refine ⟨_, _, ⟨rfl, rfl⟩, ⟨by first | rfl | exact gtb rfl (by simp only [h3, Bool.true_and, Bool.false_and, Bool.true_or, Bool.false_or, Bool.and_true, Bool.and_false, Bool.or_true, Bool.or_false, Bool.not_true, Bool.not_false]), trivial⟩, ⟨rfl, rfl⟩, _, (s_take (s_take (s_take (s_take (s_take (s_take (s_take (s_take s_nil))))))))⟩
          · skip
            refine o_take rfl rfl rfl ?_
            refine o_T (y_move rfl) rfl ?_
            refine o_take rfl rfl rfl ?_
            refine o_T (y_gtr rfl rfl) rfl ?_
            refine o_T (y_pickF rfl rfl) rfl ?_
            refine o_nil1 30 rfl rfl ?_
            refine ⟨_, _, ⟨rfl, rfl⟩, ⟨by first | rfl | exact gtb rfl (by simp only [h3, Bool.true_and, Bool.false_and, Bool.true_or, Bool.false_or, Bool.and_true, Bool.and_false, Bool.or_true, Bool.or_false, Bool.not_true, Bool.not_false]), trivial⟩, ⟨rfl, rfl⟩, _, (s_take (s_take (s_take (s_take (s_take (s_take (s_take (s_take s_nil))))))))⟩
        · rintro sh G ⟨rfl, rfl⟩
          refine c_cond rfl (fun h4 => ?_) (fun h4 => ?_)
          · have hm := cd_t h4 hm
            refine c_seq ?_
            refine c_region ?_
            refine o_L (y_assign rfl) rfl rfl ?_
            refine o_L (y_assign rfl) rfl rfl ?_
            refine o_nil0 rfl ?_
            refine c_ret ?_
            obtain ⟨q1, hq1, hm⟩ := bd hm
            have hm := fl_ret hm hF2
            have hm := hq1.trans hm
            obtain ⟨rfl, rfl, rfl, rfl, rfl⟩ := pr5 hm
            refine fun aX wX heX hsX => ret2 Tryz.results248 heX rfl rfl (s_take (s_take (s_take (s_take (s_take (s_take (s_take (s_take s_nil)))))))) ?_
            exact ⟨v1, _, v2, _, v3, _, v4, _, rfl, rfl, ho1, ho2, ho3, ho4⟩
          · have hm := cd_f h4 hm
            refine c_skip ?_
            refine c_seq ?_
            refine c_region ?_
            refine o_T (y_move rfl) rfl ?_
            refine o_T (y_move rfl) rfl ?_
            refine o_T (y_nilck rfl) rfl ?_
            refine o_T (y_fa fl_169_1 rfl) rfl ?_
            obtain ⟨_, hx3, hm⟩ := bd hm
            have hx3 := ckA_some hx3
            refine o_T (y_ia ar_167 rfl rfl hx3.1 hx3.2) rfl ?_
            refine o_ld one_3 rfl m0 (At.got ((At.refl.comp Trees.a_kind).comp (encN_a encI_len _ _ hx3.1 _ hx3.2))) rfl ?_
            refine o_T (y_neq rfl rfl) rfl ?_
            refine o_nil1 37 rfl rfl ?_
            refine c_cond rfl (fun h5 => ?_) (fun h5 => ?_)
            · have hm := cd_t h5 hm
              refine c_seq ?_
              refine c_region ?_
              refine o_L (y_assign rfl) rfl rfl ?_
              refine o_L (y_assign rfl) rfl rfl ?_
              refine o_nil0 rfl ?_
              refine c_ret ?_
              obtain ⟨q2, hq2, hm⟩ := bd hm
              have hm := fl_ret hm hF2
              have hm := hq2.trans hm
              obtain ⟨rfl, rfl, rfl, rfl, rfl⟩ := pr5 hm
              refine fun aX wX heX hsX => ret2 Tryz.results248 heX rfl rfl (s_take (s_take (s_take (s_take (s_take (s_take (s_take (s_take s_nil)))))))) ?_
              exact ⟨v1, _, v2, _, v3, _, v4, _, rfl, rfl, ho1, ho2, ho3, ho4⟩
            · have hm := cd_f h5 hm
              refine c_skip ?_
              refine c_region ?_
              refine o_T (y_move rfl) rfl ?_
              refine o_T (y_add rfl rfl rfl) rfl ?_
              refine o_L (y_assign rfl) rfl rfl ?_
              refine o_nil0 rfl ?_
              exact ⟨mm1, Nat.lt_succ_self _, _, _, ⟨_, rfl, rfl, hm⟩, ⟨rfl, trivial⟩, ⟨rfl, rfl⟩, _, (s_take (s_take (s_take (s_take (s_take (s_take (s_take (s_take s_nil))))))))⟩
      · have hm := cd_f h2 hm
        refine c_exit ?_
        have hm := fl_nx hm hF2
        exact ⟨_, _, ⟨_, rfl, rfl, hm⟩, ⟨rfl, trivial⟩, ⟨rfl, rfl⟩, _, (s_take (s_take (s_take (s_take (s_take (s_take (s_take (s_take s_nil))))))))⟩
    · rintro sh G ⟨c3, rfl, rfl, hm⟩
      subst hF1
      refine c_seq ?_
      refine c_region ?_
      refine o_T (y_move rfl) rfl ?_
      refine o_T (y_move rfl) rfl ?_
      refine o_T (y_move rfl) rfl ?_
      refine o_T (y_lenR hr1 Tryz.underlying277 rfl) rfl ?_
      obtain ⟨c4, c5, z2, z3, z4, hx4, hm⟩ := bd5 hm
      refine o_callC en_288 rfl (s_take (s_take (s_take (s_take (s_take (s_take (s_take s_nil))))))) (t288 ho1 ho2 ho3 ho4 (hr1.mono (fun _ hz => (mg hz))) hx4) rfl (fun u2 S2 hR2 => ?_)
      obtain ⟨v6, g5, v7, g6, v8, g7, v9, g8, rfl, rfl, ho5, ho6, ho7, ho8⟩ := hR2
      refine o_rest ?_
      refine o_T (y_extract rfl rfl) rfl ?_
      refine o_T (y_extract rfl rfl) rfl ?_
      refine o_L (y_assign rfl) rfl rfl ?_
      refine o_L (y_assign rfl) rfl rfl ?_
      refine o_nil0 rfl ?_
      refine c_ret ?_
      obtain ⟨rfl, rfl, rfl, rfl, rfl⟩ := pr5 hm
      refine fun aX wX heX hsX => ret2 Tryz.results248 heX rfl rfl (s_take (s_take (s_take (s_take (s_take (s_take (s_take (s_take s_nil)))))))) ?_
      exact ⟨v6, _, v7, _, v8, _, v9, _, rfl, rfl, ho5, ho6, ho7, ho8⟩
end Go.Proofs.Qxb6500350aGreat
