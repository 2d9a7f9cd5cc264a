/- MADE BY PROGRAM (tools350/mir.py): mirror and walk. -/
import Derived.Test.Qxb6500350aGreatF2
set_option linter.unusedVariables false
set_option linter.unusedSimpArgs false
set_option maxRecDepth 20000
set_option maxHeartbeats 4000000
namespace Go.Proofs.Qxb6500350aGreat
open Go.Eng

/- (*devm.Dev).Read -/
def m70_w1 (n : Nat) (d : Dev) (b_ : Int) (mm : Nat) : Int → (List UInt8) → Option (Int × (List UInt8)) := it2 (fun lp1 c1 l2 =>
cond (decide (c1 < 64)) (
Option.bind (ixL d.blk (wi ((wi (b_ * 64)) + c1))) fun x1 =>
Option.bind (ckA c1 (l2.length : Int)) fun _ =>
Option.bind (stL l2 c1 x1) fun l4 =>
lp1 (wi (c1 + 1)) l4) (
some (c1, l2))) mm
def m70 (n : Nat) (d : Dev) (b_ : Int) : Option ((List UInt8) × Int) :=
cond ((decide (b_ < 0)) || (decide ((145 : Int) ≤ b_))) (
some (([] : List UInt8), 1)) (
Option.bind (mkL 64 64 (0 : UInt8)) fun l1 =>
ob2 (m70_w1 n d b_ n 0 l1) fun c2 l3 =>
some (l3, 0))
theorem t70 {n : Nat} {C : List Chunk} {rl1 : List UInt8} {rc1 : Int} {b1 : Nat} {d : Dev} {v1 : Value} {g1 : List Chunk} {v2 : Value} {g2 : List Chunk} {v3 : Value} {g3 : List Chunk} {v4 : Value} {g4 : List Chunk} {b_ : Int} (ho1 : Own rByte v1 d.blk g1) (ho2 : Own rByte v2 d.base g2) (ho3 : Own rInt v3 d.at_ g3) (ho4 : Own rByte v4 d.data g4)  (hm : m70 n d b_ = some (rl1, rc1)) : Trip Tryz.prog 70 #[.pointer (some ⟨b1, 0, none⟩), .int .i64 b_] ([[(b1, .cells (Dev.enc (v1) (v2) (v3) (v4) d).toArray 85 (0, 0))], g1, g2, g3, g4] ++ [C]) (fun u S' => ∃ (ev1 : Value), ∃ (eg1 : List Chunk), .tuple #[ev1, .int .i64 rc1] = u ∧ S' = [[(b1, .cells (Dev.enc (v1) (v2) (v3) (v4) d).toArray 85 (0, 0))], g1, g2, g3, g4, eg1] ++ [C] ∧ Own rByte ev1 rl1 eg1) := by
  refine fn_entry (args := [.pointer (some ⟨b1, 0, none⟩), .int .i64 b_]) Tryz.func70 rfl Tryz.ntmps70 rfl (fun w0 => ?_)
  refine c_seq ?_
  refine c_region ?_
  have ho5 : Own rByte (.slice none 0 0) [] [] := Own.nil
  refine o_emp ?_
  refine o_L (y_assign rfl) rfl rfl ?_
  refine o_L (y_assign rfl) rfl rfl ?_
  refine o_nil0 rfl ?_
  refine c_seq ?_
  refine c_seq ?_
  refine c_joinP (n := 0) (fun sh G => sh = [(13, .bool ((decide (b_ < 0)) || (decide ((145 : Int) ≤ b_))))] ∧ G = []) Sel.all' .z (fun _ _ h => h) ?_ ?_
  · skip
    refine c_region ?_
    refine o_T (y_move rfl) rfl ?_
    refine o_T (y_lss rfl rfl) rfl ?_
    refine o_T (y_move rfl) rfl ?_
    refine o_split 10 rfl (fun h1 => ?_) (fun h1 => ?_)
    · skip
      refine o_pass rfl rfl rfl rfl rfl ?_
      refine o_pass rfl rfl rfl rfl rfl ?_
      refine o_T (y_pickT rfl rfl) rfl ?_
      refine o_nil1 13 rfl rfl ?_
      refine ⟨_, _, ⟨rfl, rfl⟩, ⟨by first | rfl | exact gtb rfl (by simp only [h1, Bool.true_and, Bool.false_and, Bool.true_or, Bool.false_or, Bool.and_true, Bool.and_false, Bool.or_true, Bool.or_false, Bool.not_true, Bool.not_false]), trivial⟩, ⟨rfl, rfl⟩, _, (s_take (s_take (s_take (s_take (s_take (s_take (s_take s_nil)))))))⟩
    · skip
      refine o_take rfl rfl rfl ?_
      refine o_T (y_move rfl) rfl ?_
      refine o_take rfl rfl rfl ?_
      refine o_T (y_geq rfl rfl) rfl ?_
      refine o_T (y_pickF rfl rfl) rfl ?_
      refine o_nil1 13 rfl rfl ?_
      refine ⟨_, _, ⟨rfl, rfl⟩, ⟨by first | rfl | exact gtb rfl (by simp only [h1, Bool.true_and, Bool.false_and, Bool.true_or, Bool.false_or, Bool.and_true, Bool.and_false, Bool.or_true, Bool.or_false, Bool.not_true, Bool.not_false]), trivial⟩, ⟨rfl, rfl⟩, _, (s_take (s_take (s_take (s_take (s_take (s_take (s_take s_nil)))))))⟩
  · rintro sh G ⟨rfl, rfl⟩
    refine c_cond rfl (fun h2 => ?_) (fun h2 => ?_)
    · have hm := cd_t h2 hm
      refine c_seq ?_
      refine c_region ?_
      have ho6 : Own rByte (.slice none 0 0) [] [] := Own.nil
      refine o_emp ?_
      refine o_L (y_assign rfl) rfl rfl ?_
      refine o_L (y_assign rfl) rfl rfl ?_
      refine o_nil0 rfl ?_
      refine c_ret ?_
      obtain ⟨rfl, rfl⟩ := pr2 hm
      refine fun aX wX heX hsX => ret2 Tryz.results70 heX rfl rfl (s_get (ks (ks k0)) (s_get (ks (ks k0)) (s_get (ks (ks k0)) (s_get (ks (ks k0)) (s_get (ks (ks k0)) (s_take (s_skip (s_take s_nil)))))))) ?_
      exact ⟨(.slice none 0 0), _, rfl, rfl, ho6⟩
    · have hm := cd_f h2 hm
      refine c_skip ?_
      refine c_seq ?_
      refine c_region ?_
      obtain ⟨l1, hx1, hm⟩ := bd hm
      refine o_mkR (R := rByte) (a := 0) sz_81 rfl rfl rfl rfl rfl hx1 rfl (fun v5 g5 ho7 => ?_)
      refine o_L (y_assign rfl) rfl rfl ?_
      refine o_nil0 rfl ?_
      refine c_seq ?_
      refine c_seq ?_
      refine c_region ?_
      refine o_L (y_assign rfl) rfl rfl ?_
      refine o_nil0 rfl ?_
      obtain ⟨c2, l3, hj1, hm⟩ := bd2 hm
      refine c_joinP (n := 1) (fun sh G => ∃ (g7 : List Chunk), sh = [(7, .int .i64 c2)] ∧ G = [g7] ∧ Own rByte v5 l3 g7) (s_take (s_skip (s_take (s_take (s_take (s_take (s_take (s_take s_nil)))))))) (.s .z) (fun _ _ h => h) ?_ ?_
      · skip
        refine c_block ?_
        refine c_loopP (n := 1) (fun mm sh G => ∃ (c1 : Int), ∃ (l2 : List UInt8), ∃ (g6 : List Chunk), sh = [(7, .int .i64 c1)] ∧ G = [g6] ∧ m70_w1 n d b_ mm c1 l2 = some (c2, l3) ∧ Own rByte v5 l2 g6) n (s_take (s_skip (s_take (s_take (s_take (s_take (s_take (s_take s_nil)))))))) (.s .z) ⟨_, _, ⟨_, _, _, rfl, rfl, hj1, ho7⟩, ⟨rfl, trivial⟩, _, (s_take (s_skip (s_take (s_take (s_take (s_take (s_take (s_take s_nil))))))))⟩ ?_
        rintro mm sh G ⟨c1, l2, g6, rfl, rfl, hm, ho8⟩
        obtain ⟨mm1, rfl, hm⟩ := it2_s hm
        refine c_seq ?_
        refine c_seq ?_
        refine c_region ?_
        refine o_T (y_move rfl) rfl ?_
        refine o_T (y_lss rfl rfl) rfl ?_
        refine o_nil1 16 rfl rfl ?_
        refine c_cond rfl (fun h3 => ?_) (fun h3 => ?_)
        · have hm := cd_t h3 hm
          refine c_skip ?_
          refine c_seq ?_
          refine c_block ?_
          refine c_region ?_
          refine o_T (y_move rfl) rfl ?_
          refine o_T (y_move rfl) rfl ?_
          refine o_T (y_move rfl) rfl ?_
          refine o_T (y_nilck rfl) rfl ?_
          refine o_T (y_fa fl_85_0 rfl) rfl ?_
          refine o_ld one_81 rfl (ms m0) (At.got (At.refl.comp Dev.a_blk)) rfl ?_
          refine o_T (y_move rfl) rfl ?_
          refine o_T (y_mul rfl rfl rfl) rfl ?_
          refine o_T (y_move rfl) rfl ?_
          refine o_T (y_add rfl rfl rfl) rfl ?_
          obtain ⟨x1, hx2, hm⟩ := bd hm
          obtain ⟨b2, w1, cs1, y1, z1, vs1, hc1, ha1, hr1, hy1⟩ := ho1.rd.ix hx2
          obtain rfl : vs1 = (enc8 x1) := hr1
          refine o_T (hy1 sl_81 rfl rfl rfl) rfl ?_
          refine o_ld one_5 rfl (ms (ms (mg hc1))) (At.getA (ha1)) rfl ?_
          obtain ⟨_, hi1, hm⟩ := bd hm
          have hi1 := ckA_some hi1
          obtain ⟨b3, cp1, hv1, hy2⟩ := ho8.ix hi1
          refine o_T (hy2 sl_81 rfl rfl rfl) rfl ?_
          obtain ⟨l4, hx4, hm⟩ := bd hm
          refine o_stO1 one_5 rfl rfl rfl rfl ho8 hv1 hx4 (fun _ => q0) (fun g8 ho10 => ?_)
          refine o_nil0 rfl ?_
          refine c_region ?_
          refine o_T (y_move rfl) rfl ?_
          refine o_T (y_add rfl rfl rfl) rfl ?_
          refine o_L (y_assign rfl) rfl rfl ?_
          refine o_nil0 rfl ?_
          exact ⟨mm1, Nat.lt_succ_self _, _, _, ⟨_, _, _, rfl, rfl, hm, ho10⟩, ⟨rfl, trivial⟩, ⟨rfl, rfl⟩, _, (s_take (s_take (s_take (s_take (s_take (s_take (s_take s_nil)))))))⟩
        · have hm := cd_f h3 hm
          refine c_exit ?_
          obtain ⟨rfl, rfl⟩ := pr2 hm
          exact ⟨_, _, ⟨_, rfl, rfl, ho8⟩, ⟨rfl, trivial⟩, ⟨rfl, rfl⟩, _, (s_take (s_take (s_take (s_take (s_take (s_take (s_take s_nil)))))))⟩
      · rintro sh G ⟨g7, rfl, rfl, ho9⟩
        refine c_seq ?_
        refine c_region ?_
        refine o_T (y_move rfl) rfl ?_
        refine o_L (y_assign rfl) rfl rfl ?_
        refine o_L (y_assign rfl) rfl rfl ?_
        refine o_nil0 rfl ?_
        refine c_ret ?_
        obtain ⟨rfl, rfl⟩ := pr2 hm
        refine fun aX wX heX hsX => ret2 Tryz.results70 heX rfl rfl (s_get (ks k0) (s_get (ks k0) (s_get (ks k0) (s_get (ks k0) (s_get (ks k0) (s_take (s_take s_nil))))))) ?_
        exact ⟨v5, _, rfl, rfl, ho9⟩
end Go.Proofs.Qxb6500350aGreat
