/- MADE BY PROGRAM (tools350/mir.py): mirror and walk. -/
import Derived.Test.Qxb6500350aGreatF2
import Derived.Test.Qxb6500350aGreatT211
import Derived.Test.Qxb6500350aGreatT222
import Derived.Test.Qxb6500350aGreatT223
set_option linter.unusedVariables false
set_option linter.unusedSimpArgs false
set_option maxRecDepth 20000
set_option maxHeartbeats 4000000
namespace Go.Proofs.Qxb6500350aGreat
open Go.Eng

/- (*graph.Graph).Log -/
def m176_w1 (n : Nat) (g : Graph) (seq : Int) (c3 : Int) (mm : Nat) : (List Int) → Int → Option ((List Int) × Int) := it2 (fun lp1 l1 c4 =>
cond (decide ((0 : Int) ≤ c4)) (
Option.bind (ckA c4 48) fun _ =>
ob1 (m222 n (g.order c4)) fun c6 =>
cond (decide (¬ ((bAnd .u64 c3 c6) = 0))) (
Option.bind (ckA (g.order c4) 49) fun _ =>
Option.bind (apd l1 ((g.com (g.order c4)).seq)) fun l3 =>
lp1 l3 (wi (c4 - 1))) (
lp1 l1 (wi (c4 - 1)))) (
some (l1, c4))) mm
def m176 (n : Nat) (g : Graph) (seq : Int) : Option ((List Int) × Int) :=
ob1 (m211 n g seq) fun c1 =>
cond (decide (c1 = 0)) (
some (([] : List Int), 17)) (
ob1 (m222 n c1) fun c2 =>
ob1 (m223 n g c2) fun c3 =>
ob2 (m176_w1 n g seq c3 n ([] : List Int) (wi (g.n - 1))) fun l2 c5 =>
some (l2, 0))
theorem t176 {n : Nat} {C : List Chunk} {rl1 : List Int} {rc1 : Int} {b1 : Nat} {g : Graph} {q1 : Option Addr} {seq : Int}   (hm : m176 n g seq = some (rl1, rc1)) : Trip Tryz.prog 176 #[.pointer (some ⟨b1, 0, none⟩), .int .i64 seq] ([[(b1, .cells (Graph.enc ((.pointer q1)) g).toArray 179 (0, 0))]] ++ [C]) (fun u S' => ∃ (ev1 : Value), ∃ (eg1 : List Chunk), .tuple #[ev1, .int .i64 rc1] = u ∧ S' = [[(b1, .cells (Graph.enc ((.pointer q1)) g).toArray 179 (0, 0))], eg1] ++ [C] ∧ Own rInt ev1 rl1 eg1) := by
  refine fn_entry (args := [.pointer (some ⟨b1, 0, none⟩), .int .i64 seq]) Tryz.func176 rfl Tryz.ntmps176 rfl (fun w0 => ?_)
  refine c_seq ?_
  refine c_region ?_
  have ho1 : Own rInt (.slice none 0 0) [] [] := Own.nil
  refine o_emp ?_
  refine o_L (y_assign rfl) rfl rfl ?_
  refine o_L (y_assign rfl) rfl rfl ?_
  refine o_nil0 rfl ?_
  refine c_seq ?_
  refine c_region ?_
  refine o_T (y_move rfl) rfl ?_
  refine o_T (y_move rfl) rfl ?_
  obtain ⟨c1, hx1, hm⟩ := bd1 hm
  refine o_callC en_211 rfl (s_skip (s_take s_nil)) (t211 hx1) rfl (fun u1 S1 hR1 => ?_)
  obtain ⟨rfl, rfl⟩ := hR1
  refine o_rest ?_
  refine o_L (y_assign rfl) rfl rfl ?_
  refine o_nil0 rfl ?_
  refine c_seq ?_
  refine c_seq ?_
  refine c_region ?_
  refine o_T (y_move rfl) rfl ?_
  refine o_T (y_eql rfl rfl) rfl ?_
  refine o_nil1 16 rfl rfl ?_
  refine c_cond rfl (fun h1 => ?_) (fun h1 => ?_)
  · have hm := cd_t h1 hm
    refine c_seq ?_
    refine c_region ?_
    have ho2 : Own rInt (.slice none 0 0) [] [] := Own.nil
    refine o_emp ?_
    refine o_L (y_assign rfl) rfl rfl ?_
    refine o_L (y_assign rfl) rfl rfl ?_
    refine o_nil0 rfl ?_
    refine c_ret ?_
    obtain ⟨rfl, rfl⟩ := pr2 hm
    refine fun aX wX heX hsX => ret2 Tryz.results176 heX rfl rfl (s_get (ks k0) (s_take (s_skip (s_take s_nil)))) ?_
    exact ⟨(.slice none 0 0), _, rfl, rfl, ho2⟩
  · have hm := cd_f h1 hm
    refine c_skip ?_
    refine c_seq ?_
    refine c_region ?_
    refine o_T (y_move rfl) rfl ?_
    obtain ⟨c2, hx2, hm⟩ := bd1 hm
    refine o_callC en_222 rfl s_nil (t222 hx2) rfl (fun u2 S2 hR2 => ?_)
    obtain ⟨rfl, rfl⟩ := hR2
    refine o_rest ?_
    refine o_L (y_assign rfl) rfl rfl ?_
    refine o_nil0 rfl ?_
    refine c_seq ?_
    refine c_region ?_
    refine o_T (y_move rfl) rfl ?_
    refine o_T (y_move rfl) rfl ?_
    obtain ⟨c3, hx3, hm⟩ := bd1 hm
    refine o_callC en_223 rfl (s_take s_nil) (t223 hx3) rfl (fun u3 S3 hR3 => ?_)
    obtain ⟨rfl, rfl⟩ := hR3
    refine o_rest ?_
    refine o_L (y_assign rfl) rfl rfl ?_
    refine o_nil0 rfl ?_
    refine c_seq ?_
    refine c_region ?_
    have ho3 : Own rInt (.slice none 0 0) [] [] := Own.nil
    refine o_emp ?_
    refine o_L (y_assign rfl) rfl rfl ?_
    refine o_nil0 rfl ?_
    refine c_seq ?_
    refine c_seq ?_
    refine c_region ?_
    refine o_T (y_move rfl) rfl ?_
    refine o_T (y_nilck rfl) rfl ?_
    refine o_T (y_fa fl_179_3 rfl) rfl ?_
    refine o_ld one_3 rfl (ms m0) (At.got (At.refl.comp Graph.a_n)) rfl ?_
    refine o_T (y_sub rfl rfl rfl) rfl ?_
    refine o_L (y_assign rfl) rfl rfl ?_
    refine o_nil0 rfl ?_
    obtain ⟨l2, c5, hj1, hm⟩ := bd2 hm
    refine c_joinP (n := 1) (fun sh G => ∃ (v2 : Value), ∃ (g2 : List Chunk), sh = [(9, v2), (10, .int .i64 c5)] ∧ G = [g2] ∧ Own rInt v2 l2 g2) (s_take (s_take (s_skip (s_take s_nil)))) (.s .z) (fun _ _ h => h) ?_ ?_
    · skip
      refine c_block ?_
      refine c_loopP (n := 1) (fun mm sh G => ∃ (l1 : List Int), ∃ (c4 : Int), ∃ (v1 : Value), ∃ (g1 : List Chunk), sh = [(9, v1), (10, .int .i64 c4)] ∧ G = [g1] ∧ m176_w1 n g seq c3 mm l1 c4 = some (l2, c5) ∧ Own rInt v1 l1 g1) n (s_take (s_take (s_skip (s_take s_nil)))) (.s .z) ⟨_, _, ⟨_, _, (.slice none 0 0), _, rfl, rfl, hj1, ho3⟩, ⟨rfl, rfl, trivial⟩, _, (s_take (s_take (s_skip (s_take s_nil))))⟩ ?_
      rintro mm sh G ⟨l1, c4, v1, g1, rfl, rfl, hm, ho4⟩
      obtain ⟨mm1, rfl, hm⟩ := it2_s hm
      refine c_seq ?_
      refine c_seq ?_
      refine c_region ?_
      refine o_T (y_move rfl) rfl ?_
      refine o_T (y_geq rfl rfl) rfl ?_
      refine o_nil1 28 rfl rfl ?_
      refine c_cond rfl (fun h2 => ?_) (fun h2 => ?_)
      · have hm := cd_t h2 hm
        refine c_skip ?_
        refine c_seq ?_
        refine c_block ?_
        refine c_seq ?_
        refine c_region ?_
        refine o_T (y_move rfl) rfl ?_
        refine o_T (y_move rfl) rfl ?_
        refine o_T (y_nilck rfl) rfl ?_
        refine o_T (y_fa fl_179_2 rfl) rfl ?_
        obtain ⟨_, hx4, hm⟩ := bd hm
        have hx4 := ckA_some hx4
        refine o_T (y_ia ar_174 rfl rfl hx4.1 hx4.2) rfl ?_
        refine o_ld one_3 rfl (ms m0) (At.got ((At.refl.comp Graph.a_order).comp (encN_a encI_len _ _ hx4.1 _ hx4.2))) rfl ?_
        refine o_L (y_assign rfl) rfl rfl ?_
        refine o_nil0 rfl ?_
        refine c_seq ?_
        refine c_region ?_
        refine o_T (y_move rfl) rfl ?_
        refine o_T (y_move rfl) rfl ?_
        obtain ⟨c6, hx5, hm⟩ := bd1 hm
        refine o_callC en_222 rfl s_nil (t222 hx5) rfl (fun u4 S4 hR4 => ?_)
        obtain ⟨rfl, rfl⟩ := hR4
        refine o_rest ?_
        refine o_T (y_and rfl rfl rfl) rfl ?_
        refine o_T (y_neq rfl rfl) rfl ?_
        refine o_nil1 41 rfl rfl ?_
        refine c_cond rfl (fun h3 => ?_) (fun h3 => ?_)
        · have hm := cd_t h3 hm
          refine c_region ?_
          refine o_T (y_move rfl) rfl ?_
          refine o_T (y_move rfl) rfl ?_
          refine o_T (y_move rfl) rfl ?_
          refine o_T (y_nilck rfl) rfl ?_
          refine o_T (y_fa fl_179_1 rfl) rfl ?_
          obtain ⟨_, hx6, hm⟩ := bd hm
          have hx6 := ckA_some hx6
          refine o_T (y_ia ar_173 rfl rfl hx6.1 hx6.2) rfl ?_
          refine o_T (y_fa fl_172_1 rfl) rfl ?_
          refine o_ld one_3 rfl (ms m0) (At.got (((At.refl.comp Graph.a_com).comp (encN_a Com.len _ _ hx6.1 _ hx6.2)).comp Com.a_seq)) rfl ?_
          refine o_bs1 sz_65 rfl rfl rfl rfl rfl rfl (fun b2 => ?_)
          obtain ⟨l3, hx7, hm⟩ := bd hm
          refine o_appR (R := rInt) (a := ((g.com (g.order c4)).seq)) sz_65 rfl rfl rfl rfl ho4 rfl hx7 (Sel.e (s_get (ks k0) (s_take s_nil))) rfl (fun v3 g3 ho6 => ?_)
          refine o_L (y_assign rfl) rfl rfl ?_
          refine o_nil0 rfl ?_
          refine c_region ?_
          refine o_T (y_move rfl) rfl ?_
          refine o_T (y_sub rfl rfl rfl) rfl ?_
          refine o_L (y_assign rfl) rfl rfl ?_
          refine o_nil0 rfl ?_
          exact ⟨mm1, Nat.lt_succ_self _, _, _, ⟨_, _, v3, _, rfl, rfl, hm, ho6⟩, ⟨rfl, rfl, trivial⟩, ⟨rfl, rfl⟩, _, (s_take (s_take (s_take s_nil)))⟩
        · have hm := cd_f h3 hm
          refine c_skip ?_
          refine c_region ?_
          refine o_T (y_move rfl) rfl ?_
          refine o_T (y_sub rfl rfl rfl) rfl ?_
          refine o_L (y_assign rfl) rfl rfl ?_
          refine o_nil0 rfl ?_
          exact ⟨mm1, Nat.lt_succ_self _, _, _, ⟨_, _, v1, _, rfl, rfl, hm, ho4⟩, ⟨rfl, rfl, trivial⟩, ⟨rfl, rfl⟩, _, (s_take (s_take (s_take s_nil)))⟩
      · have hm := cd_f h2 hm
        refine c_exit ?_
        obtain ⟨rfl, rfl⟩ := pr2 hm
        exact ⟨_, _, ⟨v1, _, rfl, rfl, ho4⟩, ⟨rfl, rfl, trivial⟩, ⟨rfl, rfl⟩, _, (s_take (s_take (s_take s_nil)))⟩
    · rintro sh G ⟨v2, g2, rfl, rfl, ho5⟩
      refine c_seq ?_
      refine c_region ?_
      refine o_T (y_move rfl) rfl ?_
      refine o_L (y_assign rfl) rfl rfl ?_
      refine o_L (y_assign rfl) rfl rfl ?_
      refine o_nil0 rfl ?_
      refine c_ret ?_
      obtain ⟨rfl, rfl⟩ := pr2 hm
      refine fun aX wX heX hsX => ret2 Tryz.results176 heX rfl rfl (s_get (ks k0) (s_take (s_take s_nil))) ?_
      exact ⟨v2, _, rfl, rfl, ho5⟩
end Go.Proofs.Qxb6500350aGreat
