/- MADE BY PROGRAM (tools350/mir.py): mirror and walk. -/
import Derived.Test.Qxb6500350aGreatF2
import Derived.Test.Qxb6500350aGreatT163
import Derived.Test.Qxb6500350aGreatT295
import Derived.Test.Qxb6500350aGreatT243
set_option linter.unusedVariables false
set_option linter.unusedSimpArgs false
set_option maxRecDepth 20000
set_option maxHeartbeats 4000000
namespace Go.Proofs.Qxb6500350aGreat
open Go.Eng

/- (*objects.Store).bytesOf -/
def m260_w2 (n : Nat) (l4 : List UInt8) (c7 : Int) (mm : Nat) : Int → Int → (List UInt8) → Option (Int × Int × (List UInt8)) := it3 (fun lp2 c8 c9 l5 =>
cond ((decide (c9 < c7)) && (decide (c8 < (l5.length : Int)))) (
Option.bind (ixL l4 (wi (4 + c9))) fun x1 =>
Option.bind (ckA c8 (l5.length : Int)) fun _ =>
Option.bind (stL l5 c8 x1) fun l7 =>
lp2 (wi (c8 + 1)) (wi (c9 + 1)) l7) (
some (c8, c9, l5))) mm
def m260_w1 (n : Nat) (s : Store) (d : Dev) (mm : Nat) : Int → Int → Int → (List UInt8) → Option (Int × Int × Int × (List UInt8)) := it4 (fun lp1 c1 c2 c3 l2 =>
cond ((decide (c3 < 3)) && (decide (¬ (c2 = 0)))) (
ob1 (m163 n s d c2) fun l4 =>
ob1 (m295 n l4) fun c7 =>
ob3 (m260_w2 n l4 c7 n c1 0 l2) fun c10 c11 l6 =>
ob1 (m243 n l4) fun c12 =>
lp1 c10 c12 (wi (c3 + 1)) l6) (
some (c1, c2, c3, l2))) mm
def m260 (n : Nat) (s : Store) (d : Dev) (id : Int) : Option ((List UInt8)) :=
Option.bind (ckA id 49) fun _ =>
Option.bind (mkL ((s.tab id).size) ((s.tab id).size) (0 : UInt8)) fun l1 =>
Option.bind (ckA id 49) fun _ =>
ob4 (m260_w1 n s d n 0 ((s.tab id).first) 0 l1) fun c4 c5 c6 l3 =>
some l3
theorem t260 {n : Nat} {C : List Chunk} {rl1 : List UInt8} {b1 : Nat} {s : Store} {b2 : Nat} {d : Dev} {v1 : Value} {g1 : List Chunk} {v2 : Value} {g2 : List Chunk} {v3 : Value} {g3 : List Chunk} {v4 : Value} {g4 : List Chunk} {id : Int} (ho1 : Own rByte v1 d.blk g1) (ho2 : Own rByte v2 d.base g2) (ho3 : Own rInt v3 d.at_ g3) (ho4 : Own rByte v4 d.data g4)  (hm : m260 n s d id = some rl1) : Trip Tryz.prog 260 #[.pointer (some ⟨b1, 0, none⟩), .int .i64 id] ([[(b1, .cells (Store.enc (.pointer (some ⟨b2, 0, none⟩)) s).toArray 126 (0, 0))], [(b2, .cells (Dev.enc (v1) (v2) (v3) (v4) d).toArray 85 (0, 0))], g1, g2, g3, g4] ++ [C]) (fun u S' => ∃ (ev1 : Value), ∃ (eg1 : List Chunk), ev1 = u ∧ S' = [[(b1, .cells (Store.enc (.pointer (some ⟨b2, 0, none⟩)) s).toArray 126 (0, 0))], [(b2, .cells (Dev.enc (v1) (v2) (v3) (v4) d).toArray 85 (0, 0))], g1, g2, g3, g4, eg1] ++ [C] ∧ Own rByte ev1 rl1 eg1) := by
  refine fn_entry (args := [.pointer (some ⟨b1, 0, none⟩), .int .i64 id]) Tryz.func260 rfl Tryz.ntmps260 rfl (fun w0 => ?_)
  refine c_seq ?_
  refine c_region ?_
  have ho5 : Own rByte (.slice none 0 0) [] [] := Own.nil
  refine o_emp ?_
  refine o_L (y_assign rfl) rfl rfl ?_
  refine o_nil0 rfl ?_
  refine c_seq ?_
  refine c_region ?_
  refine o_T (y_move rfl) rfl ?_
  refine o_T (y_move rfl) rfl ?_
  refine o_T (y_nilck rfl) rfl ?_
  refine o_T (y_fa fl_126_1 rfl) rfl ?_
  obtain ⟨_, hx1, hm⟩ := bd hm
  have hx1 := ckA_some hx1
  refine o_T (y_ia ar_121 rfl rfl hx1.1 hx1.2) rfl ?_
  refine o_T (y_fa fl_120_2 rfl) rfl ?_
  refine o_ld one_3 rfl (ms m0) (At.got (((At.refl.comp Store.a_tab).comp (encN_a Entr.len _ _ hx1.1 _ hx1.2)).comp Entr.a_size)) rfl ?_
  obtain ⟨l1, hx2, hm⟩ := bd hm
  refine o_mkR (R := rByte) (a := 0) sz_81 rfl rfl rfl rfl rfl hx2 rfl (fun v5 g5 ho6 => ?_)
  refine o_L (y_assign rfl) rfl rfl ?_
  refine o_nil0 rfl ?_
  refine c_seq ?_
  refine c_region ?_
  refine o_L (y_assign rfl) rfl rfl ?_
  refine o_nil0 rfl ?_
  refine c_seq ?_
  refine c_region ?_
  refine o_T (y_move rfl) rfl ?_
  refine o_T (y_move rfl) rfl ?_
  refine o_T (y_nilck rfl) rfl ?_
  refine o_T (y_fa fl_126_1 rfl) rfl ?_
  obtain ⟨_, hx3, hm⟩ := bd hm
  have hx3 := ckA_some hx3
  refine o_T (y_ia ar_121 rfl rfl hx3.1 hx3.2) rfl ?_
  refine o_T (y_fa fl_120_3 rfl) rfl ?_
  refine o_ld one_3 rfl (ms (ms m0)) (At.got (((At.refl.comp Store.a_tab).comp (encN_a Entr.len _ _ hx3.1 _ hx3.2)).comp Entr.a_first)) rfl ?_
  refine o_L (y_assign rfl) rfl rfl ?_
  refine o_nil0 rfl ?_
  refine c_seq ?_
  refine c_seq ?_
  refine c_region ?_
  refine o_L (y_assign rfl) rfl rfl ?_
  refine o_nil0 rfl ?_
  obtain ⟨c4, c5, c6, l3, hj1, hm⟩ := bd4 hm
  refine c_joinP (n := 1) (fun sh G => ∃ (g7 : List Chunk), sh = [(6, .int .i64 c4), (7, .int .i64 c5), (8, .int .i64 c6)] ∧ G = [g7] ∧ Own rByte v5 l3 g7) (s_take (s_skip (s_take (s_take (s_take (s_take (s_take (s_take (s_take s_nil))))))))) (.s .z) (fun _ _ h => h) ?_ ?_
  · skip
    refine c_block ?_
    refine c_loopP (n := 1) (fun mm sh G => ∃ (c1 : Int), ∃ (c2 : Int), ∃ (c3 : Int), ∃ (l2 : List UInt8), ∃ (g6 : List Chunk), sh = [(6, .int .i64 c1), (7, .int .i64 c2), (8, .int .i64 c3)] ∧ G = [g6] ∧ m260_w1 n s d mm c1 c2 c3 l2 = some (c4, c5, c6, l3) ∧ Own rByte v5 l2 g6) n (s_take (s_skip (s_take (s_take (s_take (s_take (s_take (s_take (s_take s_nil))))))))) (.s .z) ⟨_, _, ⟨_, _, _, _, _, rfl, rfl, hj1, ho6⟩, ⟨rfl, rfl, rfl, trivial⟩, _, (s_take (s_skip (s_take (s_take (s_take (s_take (s_take (s_take (s_take s_nil)))))))))⟩ ?_
    rintro mm sh G ⟨c1, c2, c3, l2, g6, rfl, rfl, hm, ho7⟩
    obtain ⟨mm1, rfl, hm⟩ := it4_s hm
    refine c_seq ?_
    refine c_seq ?_
    refine c_joinP (n := 0) (fun sh G => sh = [(32, .bool ((decide (c3 < 3)) && (decide (¬ (c2 = 0)))))] ∧ G = []) Sel.all' .z (fun _ _ h => h) ?_ ?_
    · skip
      refine c_region ?_
      refine o_T (y_move rfl) rfl ?_
      refine o_T (y_lss rfl rfl) rfl ?_
      refine o_T (y_move rfl) rfl ?_
      refine o_split 29 rfl (fun h1 => ?_) (fun h1 => ?_)
      · skip
        refine o_take rfl rfl rfl ?_
        refine o_T (y_move rfl) rfl ?_
        refine o_take rfl rfl rfl ?_
        refine o_T (y_neq rfl rfl) rfl ?_
        refine o_T (y_pickT rfl rfl) rfl ?_
        refine o_nil1 32 rfl rfl ?_
        refine ⟨_, _, ⟨rfl, rfl⟩, ⟨by first | rfl | exact gtb rfl (by simp only [h1, Bool.true_and, Bool.false_and, Bool.true_or, Bool.false_or, Bool.and_true, Bool.and_false, Bool.or_true, Bool.or_false, Bool.not_true, Bool.not_false]), trivial⟩, ⟨rfl, rfl⟩, _, (s_take (s_take (s_take (s_take (s_take (s_take (s_take (s_take s_nil))))))))⟩
      · skip
        refine o_pass rfl rfl rfl rfl rfl ?_
        refine o_pass rfl rfl rfl rfl rfl ?_
        refine o_T (y_pickF rfl rfl) rfl ?_
        refine o_nil1 32 rfl rfl ?_
        refine ⟨_, _, ⟨rfl, rfl⟩, ⟨by first | rfl | exact gtb rfl (by simp only [h1, Bool.true_and, Bool.false_and, Bool.true_or, Bool.false_or, Bool.and_true, Bool.and_false, Bool.or_true, Bool.or_false, Bool.not_true, Bool.not_false]), trivial⟩, ⟨rfl, rfl⟩, _, (s_take (s_take (s_take (s_take (s_take (s_take (s_take (s_take s_nil))))))))⟩
    · rintro sh G ⟨rfl, rfl⟩
      refine c_cond rfl (fun h2 => ?_) (fun h2 => ?_)
      · have hm := cd_t h2 hm
        refine c_skip ?_
        refine c_seq ?_
        refine c_block ?_
        refine c_seq ?_
        refine c_region ?_
        refine o_T (y_move rfl) rfl ?_
        refine o_T (y_move rfl) rfl ?_
        obtain ⟨l4, hx4, hm⟩ := bd1 hm
        refine o_callC en_163 rfl (s_skip (s_take (s_take (s_take (s_take (s_take (s_take s_nil))))))) (t163 ho1 ho2 ho3 ho4 hx4) rfl (fun u1 S1 hR1 => ?_)
        obtain ⟨v8, g8, rfl, rfl, ho9⟩ := hR1
        refine o_rest ?_
        refine o_L (y_assign rfl) rfl rfl ?_
        refine o_nil0 rfl ?_
        refine c_seq ?_
        refine c_region ?_
        refine o_T (y_move rfl) rfl ?_
        obtain ⟨c7, hx5, hm⟩ := bd1 hm
        refine o_callC en_295 rfl s_nil (t295 (ho9.rd.mono (fun _ hz => (ms (ms (ms (ms (ms (ms (mg hz))))))))) hx5) rfl (fun u2 S2 hR2 => ?_)
        obtain ⟨rfl, rfl⟩ := hR2
        refine o_rest ?_
        refine o_L (y_assign rfl) rfl rfl ?_
        refine o_nil0 rfl ?_
        refine c_seq ?_
        refine c_seq ?_
        refine c_region ?_
        refine o_L (y_assign rfl) rfl rfl ?_
        refine o_nil0 rfl ?_
        obtain ⟨c10, c11, l6, hj2, hm⟩ := bd3 hm
        refine c_joinP (n := 1) (fun sh G => ∃ (g10 : List Chunk), sh = [(6, .int .i64 c10), (11, .int .i64 c11)] ∧ G = [g10] ∧ Own rByte v5 l6 g10) (s_get (ks (ks (ks (ks (ks (ks (ks k0))))))) (s_take (s_take (s_take (s_take (s_take (s_take (s_take (s_take s_nil))))))))) (.s .z) (fun _ _ h => h) ?_ ?_
        · skip
          refine c_block ?_
          refine c_loopP (n := 1) (fun mm sh G => ∃ (c8 : Int), ∃ (c9 : Int), ∃ (l5 : List UInt8), ∃ (g9 : List Chunk), sh = [(6, .int .i64 c8), (11, .int .i64 c9)] ∧ G = [g9] ∧ m260_w2 n l4 c7 mm c8 c9 l5 = some (c10, c11, l6) ∧ Own rByte v5 l5 g9) n (s_get (ks (ks (ks (ks (ks (ks (ks k0))))))) (s_take (s_take (s_take (s_take (s_take (s_take (s_take (s_take s_nil))))))))) (.s .z) ⟨_, _, ⟨_, _, _, _, rfl, rfl, hj2, ho7⟩, ⟨rfl, rfl, trivial⟩, _, (s_get (ks (ks (ks (ks (ks (ks (ks k0))))))) (s_take (s_take (s_take (s_take (s_take (s_take (s_take (s_take s_nil)))))))))⟩ ?_
          rintro mm sh G ⟨c8, c9, l5, g9, rfl, rfl, hm, ho10⟩
          obtain ⟨mm2, rfl, hm⟩ := it3_s hm
          refine c_seq ?_
          refine c_seq ?_
          refine c_joinP (n := 0) (fun sh G => sh = [(48, .bool ((decide (c9 < c7)) && (decide (c8 < (l5.length : Int)))))] ∧ G = []) Sel.all' .z (fun _ _ h => h) ?_ ?_
          · skip
            refine c_region ?_
            refine o_T (y_move rfl) rfl ?_
            refine o_T (y_move rfl) rfl ?_
            refine o_T (y_lss rfl rfl) rfl ?_
            refine o_T (y_move rfl) rfl ?_
            refine o_split 43 rfl (fun h3 => ?_) (fun h3 => ?_)
            · skip
              refine o_take rfl rfl rfl ?_
              refine o_T (y_move rfl) rfl ?_
              refine o_take rfl rfl rfl ?_
              refine o_T (y_move rfl) rfl ?_
              refine o_take rfl rfl rfl ?_
              refine o_T (y_lenR ho10.rd Tryz.underlying81 rfl) rfl ?_
              refine o_take rfl rfl rfl ?_
              refine o_T (y_lss rfl rfl) rfl ?_
              refine o_T (y_pickT rfl rfl) rfl ?_
              refine o_nil1 48 rfl rfl ?_
              refine ⟨_, _, ⟨rfl, rfl⟩, ⟨by first | rfl | exact gtb rfl (by simp only [h3, Bool.true_and, Bool.false_and, Bool.true_or, Bool.false_or, Bool.and_true, Bool.and_false, Bool.or_true, Bool.or_false, Bool.not_true, Bool.not_false]), trivial⟩, ⟨rfl, rfl⟩, _, (s_take (s_take (s_take (s_take (s_take (s_take (s_take (s_take (s_take s_nil)))))))))⟩
            · skip
              refine o_pass rfl rfl rfl rfl rfl ?_
              refine o_pass rfl rfl rfl rfl rfl ?_
              refine o_pass rfl rfl rfl rfl rfl ?_
              refine o_pass rfl rfl rfl rfl rfl ?_
              refine o_T (y_pickF rfl rfl) rfl ?_
              refine o_nil1 48 rfl rfl ?_
              refine ⟨_, _, ⟨rfl, rfl⟩, ⟨by first | rfl | exact gtb rfl (by simp only [h3, Bool.true_and, Bool.false_and, Bool.true_or, Bool.false_or, Bool.and_true, Bool.and_false, Bool.or_true, Bool.or_false, Bool.not_true, Bool.not_false]), trivial⟩, ⟨rfl, rfl⟩, _, (s_take (s_take (s_take (s_take (s_take (s_take (s_take (s_take (s_take s_nil)))))))))⟩
          · rintro sh G ⟨rfl, rfl⟩
            refine c_cond rfl (fun h4 => ?_) (fun h4 => ?_)
            · have hm := cd_t h4 hm
              refine c_skip ?_
              refine c_seq ?_
              refine c_block ?_
              refine c_seq ?_
              refine c_region ?_
              refine o_T (y_move rfl) rfl ?_
              refine o_T (y_move rfl) rfl ?_
              refine o_T (y_move rfl) rfl ?_
              refine o_T (y_move rfl) rfl ?_
              refine o_T (y_add rfl rfl rfl) rfl ?_
              obtain ⟨x1, hx6, hm⟩ := bd hm
              obtain ⟨b3, w1, cs1, y1, z1, vs1, hc1, ha1, hr1, hy1⟩ := ho9.rd.ix hx6
              obtain rfl : vs1 = (enc8 x1) := hr1
              refine o_T (hy1 sl_81 rfl rfl rfl) rfl ?_
              refine o_ld one_5 rfl (ms (ms (ms (ms (ms (ms (ms (mg hc1)))))))) (At.getA (ha1)) rfl ?_
              obtain ⟨_, hi1, hm⟩ := bd hm
              have hi1 := ckA_some hi1
              obtain ⟨b4, cp1, hv1, hy2⟩ := ho10.ix hi1
              refine o_T (hy2 sl_81 rfl rfl rfl) rfl ?_
              obtain ⟨l7, hx8, hm⟩ := bd hm
              refine o_stO1 one_5 rfl rfl rfl rfl ho10 hv1 hx8 (fun _ => q0) (fun g11 ho12 => ?_)
              refine o_nil0 rfl ?_
              refine c_region ?_
              refine o_T (y_move rfl) rfl ?_
              refine o_T (y_add rfl rfl rfl) rfl ?_
              refine o_L (y_assign rfl) rfl rfl ?_
              refine o_nil0 rfl ?_
              refine c_region ?_
              refine o_T (y_move rfl) rfl ?_
              refine o_T (y_add rfl rfl rfl) rfl ?_
              refine o_L (y_assign rfl) rfl rfl ?_
              refine o_nil0 rfl ?_
              exact ⟨mm2, Nat.lt_succ_self _, _, _, ⟨_, _, _, _, rfl, rfl, hm, ho12⟩, ⟨rfl, rfl, trivial⟩, ⟨rfl, rfl⟩, _, (s_take (s_take (s_take (s_take (s_take (s_take (s_take (s_take (s_take s_nil)))))))))⟩
            · have hm := cd_f h4 hm
              refine c_exit ?_
              obtain ⟨rfl, rfl, rfl⟩ := pr3 hm
              exact ⟨_, _, ⟨_, rfl, rfl, ho10⟩, ⟨rfl, rfl, trivial⟩, ⟨rfl, rfl⟩, _, (s_take (s_take (s_take (s_take (s_take (s_take (s_take (s_take (s_take s_nil)))))))))⟩
        · rintro sh G ⟨g10, rfl, rfl, ho11⟩
          refine c_region ?_
          refine o_T (y_move rfl) rfl ?_
          obtain ⟨c12, hx9, hm⟩ := bd1 hm
          refine o_callC en_243 rfl s_nil (t243 (ho9.rd.mono (fun _ hz => (ms (ms (ms (ms (ms (ms (ms (mg hz)))))))))) hx9) rfl (fun u3 S3 hR3 => ?_)
          obtain ⟨rfl, rfl⟩ := hR3
          refine o_rest ?_
          refine o_L (y_assign rfl) rfl rfl ?_
          refine o_nil0 rfl ?_
          refine c_region ?_
          refine o_T (y_move rfl) rfl ?_
          refine o_T (y_add rfl rfl rfl) rfl ?_
          refine o_L (y_assign rfl) rfl rfl ?_
          refine o_nil0 rfl ?_
          exact ⟨mm1, Nat.lt_succ_self _, _, _, ⟨_, _, _, _, _, rfl, rfl, hm, ho11⟩, ⟨rfl, rfl, rfl, trivial⟩, ⟨rfl, rfl⟩, _, (s_take (s_take (s_take (s_take (s_take (s_take (s_take (s_skip (s_take s_nil)))))))))⟩
      · have hm := cd_f h2 hm
        refine c_exit ?_
        obtain ⟨rfl, rfl, rfl, rfl⟩ := pr4 hm
        exact ⟨_, _, ⟨_, rfl, rfl, ho7⟩, ⟨rfl, rfl, rfl, trivial⟩, ⟨rfl, rfl⟩, _, (s_take (s_take (s_take (s_take (s_take (s_take (s_take (s_take s_nil))))))))⟩
  · rintro sh G ⟨g7, rfl, rfl, ho8⟩
    refine c_seq ?_
    refine c_region ?_
    refine o_T (y_move rfl) rfl ?_
    refine o_L (y_assign rfl) rfl rfl ?_
    refine o_nil0 rfl ?_
    refine c_ret ?_
    obtain rfl := p1 hm
    refine fun aX wX heX hsX => ret1 Tryz.results260 heX rfl (s_get (ks k0) (s_get (ks k0) (s_get (ks k0) (s_get (ks k0) (s_get (ks k0) (s_get (ks k0) (s_take (s_take s_nil)))))))) ?_
    exact ⟨v5, _, rfl, rfl, ho8⟩
end Go.Proofs.Qxb6500350aGreat
