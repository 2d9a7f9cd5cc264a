/- MADE BY PROGRAM (tools350/mir.py): mirror and walk. -/
import Derived.Test.Qxb6500350aGreatF2
import Derived.Test.Qxb6500350aGreatT207
set_option linter.unusedVariables false
set_option linter.unusedSimpArgs false
set_option maxRecDepth 20000
set_option maxHeartbeats 4000000
namespace Go.Proofs.Qxb6500350aGreat
open Go.Eng

/- (*index.Index).List -/
def m122_w1 (n : Nat) (l1 : List Row_) (mm : Nat) : (List File) → Int → Option ((List File) × Int) := it2 (fun lp1 l2 c1 =>
cond (decide (c1 < (l1.length : Int))) (
Option.bind (ixL l1 c1) fun x1 =>
Option.bind (apd l2 x1.f) fun l4 =>
lp1 l4 (wi (c1 + 1))) (
some (l2, c1))) mm
def m122 (n : Nat) (x : Index) : Option ((List File)) :=
ob1 (m207 n x 0 [] 6 ([] : List Row_)) fun l1 =>
ob2 (m122_w1 n l1 n ([] : List File) 0) fun l3 c2 =>
some l3
theorem t122 {n : Nat} {C : List Chunk} {rl1 : List File} {b1 : Nat} {x : Index}   (hm : m122 n x = some rl1) : Trip Tryz.prog 122 #[.pointer (some ⟨b1, 0, none⟩)] ([[(b1, .cells (Index.enc x).toArray 184 (0, 0))]] ++ [C]) (fun u S' => ∃ (ev1 : Value), ∃ (eg1 : List Chunk), ev1 = u ∧ S' = [[(b1, .cells (Index.enc x).toArray 184 (0, 0))], eg1] ++ [C] ∧ Own rFile ev1 rl1 eg1) := by
  refine fn_entry (args := [.pointer (some ⟨b1, 0, none⟩)]) Tryz.func122 rfl Tryz.ntmps122 rfl (fun w0 => ?_)
  refine c_seq ?_
  refine c_region ?_
  have ho1 : Own rFile (.slice none 0 0) [] [] := Own.nil
  refine o_emp ?_
  refine o_L (y_assign rfl) rfl rfl ?_
  refine o_nil0 rfl ?_
  refine c_seq ?_
  refine c_region ?_
  refine o_T (y_move rfl) rfl ?_
  have ho2 : Own rRow_ (.slice none 0 0) [] [] := Own.nil
  refine o_emp ?_
  obtain ⟨l1, hx1, hm⟩ := bd1 hm
  refine o_callC en_207 rfl (s_get (ks (ks k0)) (s_take s_nil)) (t207 ho2 hx1) rfl (fun u1 S1 hR1 => ?_)
  obtain ⟨v1, g1, rfl, rfl, ho3⟩ := hR1
  refine o_rest ?_
  refine o_L (y_assign rfl) rfl rfl ?_
  refine o_nil0 rfl ?_
  refine c_seq ?_
  refine c_region ?_
  have ho4 : Own rFile (.slice none 0 0) [] [] := Own.nil
  refine o_emp ?_
  refine o_L (y_assign rfl) rfl rfl ?_
  refine o_nil0 rfl ?_
  refine c_seq ?_
  refine c_seq ?_
  refine c_region ?_
  refine o_L (y_assign rfl) rfl rfl ?_
  refine o_nil0 rfl ?_
  obtain ⟨l3, c2, hj1, hm⟩ := bd2 hm
  refine c_joinP (n := 1) (fun sh G => ∃ (v3 : Value), ∃ (g3 : List Chunk), sh = [(4, v3), (5, .int .i64 c2)] ∧ G = [g3] ∧ Own rFile v3 l3 g3) (s_take (s_take (s_take (s_skip (s_take s_nil))))) (.s .z) (fun _ _ h => h) ?_ ?_
  · skip
    refine c_block ?_
    refine c_loopP (n := 1) (fun mm sh G => ∃ (l2 : List File), ∃ (c1 : Int), ∃ (v2 : Value), ∃ (g2 : List Chunk), sh = [(4, v2), (5, .int .i64 c1)] ∧ G = [g2] ∧ m122_w1 n l1 mm l2 c1 = some (l3, c2) ∧ Own rFile v2 l2 g2) n (s_take (s_take (s_take (s_skip (s_take s_nil))))) (.s .z) ⟨_, _, ⟨_, _, (.slice none 0 0), _, rfl, rfl, hj1, ho4⟩, ⟨rfl, rfl, trivial⟩, _, (s_take (s_take (s_take (s_skip (s_take s_nil)))))⟩ ?_
    rintro mm sh G ⟨l2, c1, v2, g2, rfl, rfl, hm, ho5⟩
    obtain ⟨mm1, rfl, hm⟩ := it2_s hm
    refine c_seq ?_
    refine c_seq ?_
    refine c_region ?_
    refine o_T (y_move rfl) rfl ?_
    refine o_T (y_move rfl) rfl ?_
    refine o_T (y_lenR ho3.rd Tryz.underlying221 rfl) rfl ?_
    refine o_T (y_lss rfl rfl) rfl ?_
    refine o_nil1 11 rfl rfl ?_
    refine c_cond rfl (fun h1 => ?_) (fun h1 => ?_)
    · have hm := cd_t h1 hm
      refine c_skip ?_
      refine c_seq ?_
      refine c_block ?_
      refine c_region ?_
      refine o_T (y_move rfl) rfl ?_
      refine o_T (y_move rfl) rfl ?_
      refine o_T (y_move rfl) rfl ?_
      obtain ⟨x1, hx2, hm⟩ := bd hm
      obtain ⟨b2, w1, cs1, y1, z1, vs1, hc1, ha1, hr1, hy1⟩ := ho3.rd.ix hx2
      obtain rfl : vs1 = Row_.enc x1 := hr1
      refine o_T (hy1 sl_221 rfl rfl rfl) rfl ?_
      refine o_T (y_fa fl_224_0 rfl) rfl ?_
      refine o_lda ag_71 rfl (ms (ms (mg hc1))) (At.ext (ha1.comp Row_.a_f) (File.len _)) (At.fit (ha1.comp Row_.a_f) (File.len _)) rfl ?_
      refine o_bs1 sz_57 rfl rfl rfl rfl rfl rfl (fun b3 => ?_)
      obtain ⟨l4, hx3, hm⟩ := bd hm
      refine o_appR (R := rFile) (a := x1.f) sz_57 rfl rfl rfl rfl ho5 rfl hx3 (Sel.e (s_get (ks k0) (s_take s_nil))) rfl (fun v4 g4 ho7 => ?_)
      refine o_L (y_assign rfl) rfl rfl ?_
      refine o_nil0 rfl ?_
      refine c_region ?_
      refine o_T (y_move rfl) rfl ?_
      refine o_T (y_add rfl rfl rfl) rfl ?_
      refine o_L (y_assign rfl) rfl rfl ?_
      refine o_nil0 rfl ?_
      exact ⟨mm1, Nat.lt_succ_self _, _, _, ⟨_, _, v4, _, rfl, rfl, hm, ho7⟩, ⟨rfl, rfl, trivial⟩, ⟨rfl, rfl⟩, _, (s_take (s_take (s_take (s_take s_nil))))⟩
    · have hm := cd_f h1 hm
      refine c_exit ?_
      obtain ⟨rfl, rfl⟩ := pr2 hm
      exact ⟨_, _, ⟨v2, _, rfl, rfl, ho5⟩, ⟨rfl, rfl, trivial⟩, ⟨rfl, rfl⟩, _, (s_take (s_take (s_take (s_take s_nil))))⟩
  · rintro sh G ⟨v3, g3, rfl, rfl, ho6⟩
    refine c_seq ?_
    refine c_region ?_
    refine o_T (y_move rfl) rfl ?_
    refine o_L (y_assign rfl) rfl rfl ?_
    refine o_nil0 rfl ?_
    refine c_ret ?_
    obtain rfl := p1 hm
    refine fun aX wX heX hsX => ret1 Tryz.results122 heX rfl (s_get (ks k0) (s_take (s_skip (s_take s_nil)))) ?_
    exact ⟨v3, _, rfl, rfl, ho6⟩
end Go.Proofs.Qxb6500350aGreat
