/- MADE BY PROGRAM (tools350/mir.py): mirror and walk. -/
import Derived.Test.Qxb6500350aGreatF2
import Derived.Test.Qxb6500350aGreatT272
set_option linter.unusedVariables false
set_option linter.unusedSimpArgs false
set_option maxRecDepth 20000
set_option maxHeartbeats 4000000
namespace Go.Proofs.Qxb6500350aGreat
open Go.Eng

/- api.dirs -/
def m209_w2 (n : Nat) (x1 : File) (mm : Nat) : (List Str) → Int → Option ((List Str) × Int) := it2 (fun lp2 l3 c3 =>
cond (decide (c3 < (x1.path.length : Int))) (
Option.bind (sIx x1.path c3) fun c5 =>
cond (decide ((c5.toNat : Int) = 47)) (
Option.bind (sSl x1.path 0 (wi (c3 + 1))) fun s1 =>
ob1 (m272 n l3 s1) fun l5 =>
lp2 l5 (wi (c3 + 1))) (
lp2 l3 (wi (c3 + 1)))) (
some (l3, c3))) mm
def m209_w1 (n : Nat) (l : (List File)) (mm : Nat) : (List Str) → Int → Option ((List Str) × Int) := it2 (fun lp1 l1 c1 =>
cond (decide (c1 < (l.length : Int))) (
Option.bind (ixL l c1) fun x1 =>
ob2 (m209_w2 n x1 n l1 0) fun l4 c4 =>
lp1 l4 (wi (c1 + 1))) (
some (l1, c1))) mm
def m209 (n : Nat) (l : (List File)) : Option ((List Str)) :=
ob2 (m209_w1 n l n ([[]] : List Str) 0) fun l2 c2 =>
some l2
theorem t209 {n : Nat} {C : List Chunk} {rl1 : List Str} {v1 : Value} {l : (List File)} (hr1 : Rd rFile C v1 l)  (hm : m209 n l = some rl1) : Trip Tryz.prog 209 #[v1] ([] ++ [C]) (fun u S' => ∃ (ev1 : Value), ∃ (eg1 : List Chunk), ev1 = u ∧ S' = [eg1] ++ [C] ∧ Own rStr ev1 rl1 eg1) := by
  refine fn_entry (args := [v1]) Tryz.func209 rfl Tryz.ntmps209 rfl (fun w0 => ?_)
  refine c_seq ?_
  refine c_region ?_
  have ho1 : Own rStr (.slice none 0 0) [] [] := Own.nil
  refine o_emp ?_
  refine o_L (y_assign rfl) rfl rfl ?_
  refine o_nil0 rfl ?_
  refine c_seq ?_
  refine c_region ?_
  refine o_bs1 sz_185 rfl rfl rfl rfl rfl rfl (fun b1 => ?_)
  have ho2 := Own.one (R := rStr) (b := b1) (a := []) (g := []) (cs := Value.cells (.string ⟨([] : Str).toArray⟩)) rfl
  refine o_L (y_assign rfl) rfl rfl ?_
  refine o_nil0 rfl ?_
  refine c_seq ?_
  refine c_seq ?_
  refine c_region ?_
  refine o_L (y_assign rfl) rfl rfl ?_
  refine o_nil0 rfl ?_
  obtain ⟨l2, c2, hj1, hm⟩ := bd2 hm
  refine c_joinP (n := 1) (fun sh G => ∃ (v3 : Value), ∃ (g2 : List Chunk), sh = [(3, v3), (4, .int .i64 c2)] ∧ G = [g2] ∧ Own rStr v3 l2 g2) (s_take (s_skip (s_take s_nil))) (.s .z) (fun _ _ h => h) ?_ ?_
  · skip
    refine c_block ?_
    refine c_loopP (n := 1) (fun mm sh G => ∃ (l1 : List Str), ∃ (c1 : Int), ∃ (v2 : Value), ∃ (g1 : List Chunk), sh = [(3, v2), (4, .int .i64 c1)] ∧ G = [g1] ∧ m209_w1 n l mm l1 c1 = some (l2, c2) ∧ Own rStr v2 l1 g1) n (s_take (s_skip (s_take s_nil))) (.s .z) ⟨_, _, ⟨_, _, (.slice (some ⟨b1, 0, none⟩) 1 1), _, rfl, rfl, hj1, ho2⟩, ⟨rfl, rfl, trivial⟩, _, (s_take (s_skip (s_take s_nil)))⟩ ?_
    rintro mm sh G ⟨l1, c1, v2, g1, rfl, rfl, hm, ho3⟩
    obtain ⟨mm1, rfl, hm⟩ := it2_s hm
    refine c_seq ?_
    refine c_seq ?_
    refine c_region ?_
    refine o_T (y_move rfl) rfl ?_
    refine o_T (y_move rfl) rfl ?_
    refine o_T (y_lenR hr1 Tryz.underlying57 rfl) rfl ?_
    refine o_T (y_lss rfl rfl) rfl ?_
    refine o_nil1 11 rfl rfl ?_
    refine c_cond rfl (fun h1 => ?_) (fun h1 => ?_)
    · have hm := cd_t h1 hm
      refine c_skip ?_
      refine c_seq ?_
      refine c_block ?_
      refine c_seq ?_
      refine c_region ?_
      refine o_T (y_move rfl) rfl ?_
      refine o_T (y_move rfl) rfl ?_
      obtain ⟨x1, hx1, hm⟩ := bd hm
      obtain ⟨b2, w1, cs1, y1, z1, vs1, hc1, ha1, hr2, hy1⟩ := hr1.ix hx1
      obtain rfl : vs1 = File.enc x1 := hr2
      refine o_T (hy1 sl_57 rfl rfl rfl) rfl ?_
      refine o_T (y_fa fl_71_0 rfl) rfl ?_
      refine o_ld one_9 rfl (ms (mg hc1)) (At.getA (ha1.comp File.a_path)) rfl ?_
      refine o_L (y_assign rfl) rfl rfl ?_
      refine o_nil0 rfl ?_
      refine c_seq ?_
      refine c_region ?_
      refine o_L (y_assign rfl) rfl rfl ?_
      refine o_nil0 rfl ?_
      obtain ⟨l4, c4, hj2, hm⟩ := bd2 hm
      refine c_joinP (n := 1) (fun sh G => ∃ (v5 : Value), ∃ (g4 : List Chunk), sh = [(3, v5), (6, .int .i64 c4)] ∧ G = [g4] ∧ Own rStr v5 l4 g4) (s_take (s_take s_nil)) (.s .z) (fun _ _ h => h) ?_ ?_
      · skip
        refine c_block ?_
        refine c_loopP (n := 1) (fun mm sh G => ∃ (l3 : List Str), ∃ (c3 : Int), ∃ (v4 : Value), ∃ (g3 : List Chunk), sh = [(3, v4), (6, .int .i64 c3)] ∧ G = [g3] ∧ m209_w2 n x1 mm l3 c3 = some (l4, c4) ∧ Own rStr v4 l3 g3) n (s_take (s_take s_nil)) (.s .z) ⟨_, _, ⟨_, _, v2, _, rfl, rfl, hj2, ho3⟩, ⟨rfl, rfl, trivial⟩, _, (s_take (s_take s_nil))⟩ ?_
        rintro mm sh G ⟨l3, c3, v4, g3, rfl, rfl, hm, ho5⟩
        obtain ⟨mm2, rfl, hm⟩ := it2_s hm
        refine c_seq ?_
        refine c_seq ?_
        refine c_region ?_
        refine o_T (y_move rfl) rfl ?_
        refine o_T (y_move rfl) rfl ?_
        refine o_T (y_slen Tryz.underlying9 rfl) rfl ?_
        refine o_T (y_lss rfl rfl) rfl ?_
        refine o_nil1 22 rfl rfl ?_
        refine c_cond rfl (fun h2 => ?_) (fun h2 => ?_)
        · have hm := cd_t h2 hm
          refine c_skip ?_
          refine c_seq ?_
          refine c_block ?_
          refine c_seq ?_
          refine c_region ?_
          refine o_T (y_move rfl) rfl ?_
          refine o_T (y_move rfl) rfl ?_
          obtain ⟨c5, hx2, hm⟩ := bd hm
          refine o_T (y_sidx Tryz.underlying9 rfl rfl hx2) rfl ?_
          refine o_T (y_eql rfl rfl) rfl ?_
          refine o_nil1 28 rfl rfl ?_
          refine c_cond rfl (fun h3 => ?_) (fun h3 => ?_)
          · have hm := cd_t h3 hm
            refine c_region ?_
            refine o_T (y_move rfl) rfl ?_
            refine o_T (y_move rfl) rfl ?_
            refine o_T (y_move rfl) rfl ?_
            refine o_T (y_add rfl rfl rfl) rfl ?_
            obtain ⟨s1, hx3, hm⟩ := bd hm
            refine o_T (y_ssl Tryz.underlying9 rfl biN (biS rfl) hx3) rfl ?_
            obtain ⟨l5, hx4, hm⟩ := bd1 hm
            refine o_callC en_272 rfl (s_take s_nil) (t272 ho5 hx4) rfl (fun u1 S1 hR1 => ?_)
            obtain ⟨v6, g5, rfl, rfl, ho7⟩ := hR1
            refine o_rest ?_
            refine o_L (y_assign rfl) rfl rfl ?_
            refine o_nil0 rfl ?_
            refine c_region ?_
            refine o_T (y_move rfl) rfl ?_
            refine o_T (y_add rfl rfl rfl) rfl ?_
            refine o_L (y_assign rfl) rfl rfl ?_
            refine o_nil0 rfl ?_
            exact ⟨mm2, Nat.lt_succ_self _, _, _, ⟨_, _, v6, _, rfl, rfl, hm, ho7⟩, ⟨rfl, rfl, trivial⟩, ⟨rfl, rfl⟩, _, (s_take (s_take s_nil))⟩
          · have hm := cd_f h3 hm
            refine c_skip ?_
            refine c_region ?_
            refine o_T (y_move rfl) rfl ?_
            refine o_T (y_add rfl rfl rfl) rfl ?_
            refine o_L (y_assign rfl) rfl rfl ?_
            refine o_nil0 rfl ?_
            exact ⟨mm2, Nat.lt_succ_self _, _, _, ⟨_, _, v4, _, rfl, rfl, hm, ho5⟩, ⟨rfl, rfl, trivial⟩, ⟨rfl, rfl⟩, _, (s_take (s_take s_nil))⟩
        · have hm := cd_f h2 hm
          refine c_exit ?_
          obtain ⟨rfl, rfl⟩ := pr2 hm
          exact ⟨_, _, ⟨v4, _, rfl, rfl, ho5⟩, ⟨rfl, rfl, trivial⟩, ⟨rfl, rfl⟩, _, (s_take (s_take s_nil))⟩
      · rintro sh G ⟨v5, g4, rfl, rfl, ho6⟩
        refine c_region ?_
        refine o_T (y_move rfl) rfl ?_
        refine o_T (y_add rfl rfl rfl) rfl ?_
        refine o_L (y_assign rfl) rfl rfl ?_
        refine o_nil0 rfl ?_
        exact ⟨mm1, Nat.lt_succ_self _, _, _, ⟨_, _, v5, _, rfl, rfl, hm, ho6⟩, ⟨rfl, rfl, trivial⟩, ⟨rfl, rfl⟩, _, (s_take (s_take s_nil))⟩
    · have hm := cd_f h1 hm
      refine c_exit ?_
      obtain ⟨rfl, rfl⟩ := pr2 hm
      exact ⟨_, _, ⟨v2, _, rfl, rfl, ho3⟩, ⟨rfl, rfl, trivial⟩, ⟨rfl, rfl⟩, _, (s_take (s_take s_nil))⟩
  · rintro sh G ⟨v3, g2, rfl, rfl, ho4⟩
    refine c_seq ?_
    refine c_region ?_
    refine o_T (y_move rfl) rfl ?_
    refine o_L (y_assign rfl) rfl rfl ?_
    refine o_nil0 rfl ?_
    refine c_ret ?_
    obtain rfl := p1 hm
    refine fun aX wX heX hsX => ret1 Tryz.results209 heX rfl (s_take (s_take s_nil)) ?_
    exact ⟨v3, _, rfl, rfl, ho4⟩
end Go.Proofs.Qxb6500350aGreat
