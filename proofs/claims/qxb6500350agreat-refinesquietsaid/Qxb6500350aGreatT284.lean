/- MADE BY PROGRAM (tools350/mir.py): mirror and walk. -/
import Derived.Test.Qxb6500350aGreatF2
import Derived.Test.Qxb6500350aGreatT305
import Derived.Test.Qxb6500350aGreatT312
set_option linter.unusedVariables false
set_option linter.unusedSimpArgs false
set_option maxRecDepth 20000
set_option maxHeartbeats 4000000
namespace Go.Proofs.Qxb6500350aGreat
open Go.Eng

/- (*tree.Trees).Members -/
def m284_w1 (n : Nat) (l2 : List Bool) (mm : Nat) : (List Int) → Int → Option ((List Int) × Int) := it2 (fun lp1 l3 c2 =>
cond (decide (c2 ≤ 48)) (
Option.bind (ixL l2 c2) fun x1 =>
cond x1 (
Option.bind (apd l3 c2) fun l5 =>
lp1 l5 (wi (c2 + 1))) (
lp1 l3 (wi (c2 + 1)))) (
some (l3, c2))) mm
def m284 (n : Nat) (t : Trees) (s : Store) (d : Dev) (id : Int) : Option ((List Int) × Int) :=
ob1 (m305 n t id) fun c1 =>
cond (decide (¬ (c1 = 0))) (
some (([] : List Int), c1)) (
Option.bind (mkL 49 49 (false : Bool)) fun l1 =>
ob1 (m312 n t s d id 6 l1) fun l2 =>
ob2 (m284_w1 n l2 n ([] : List Int) 1) fun l4 c3 =>
some (l4, 0))
theorem t284 {n : Nat} {C : List Chunk} {rl1 : List Int} {rc1 : Int} {b1 : Nat} {t : Trees} {b2 : Nat} {s : Store} {b3 : Nat} {d : Dev} {v1 : Value} {g1 : List Chunk} {v2 : Value} {g2 : List Chunk} {v3 : Value} {g3 : List Chunk} {v4 : Value} {g4 : List Chunk} {id : Int} (ho1 : Own rByte v1 d.blk g1) (ho2 : Own rByte v2 d.base g2) (ho3 : Own rInt v3 d.at_ g3) (ho4 : Own rByte v4 d.data g4)  (hm : m284 n t s d id = some (rl1, rc1)) : Trip Tryz.prog 284 #[.pointer (some ⟨b1, 0, none⟩), .int .i64 id] ([[(b1, .cells (Trees.enc (.pointer (some ⟨b2, 0, none⟩)) t).toArray 169 (0, 0))], [(b2, .cells (Store.enc (.pointer (some ⟨b3, 0, none⟩)) s).toArray 126 (0, 0))], [(b3, .cells (Dev.enc (v1) (v2) (v3) (v4) d).toArray 85 (0, 0))], g1, g2, g3, g4] ++ [C]) (fun u S' => ∃ (ev1 : Value), ∃ (eg1 : List Chunk), .tuple #[ev1, .int .i64 rc1] = u ∧ S' = [[(b1, .cells (Trees.enc (.pointer (some ⟨b2, 0, none⟩)) t).toArray 169 (0, 0))], [(b2, .cells (Store.enc (.pointer (some ⟨b3, 0, none⟩)) s).toArray 126 (0, 0))], [(b3, .cells (Dev.enc (v1) (v2) (v3) (v4) d).toArray 85 (0, 0))], g1, g2, g3, g4, eg1] ++ [C] ∧ Own rInt ev1 rl1 eg1) := by
  refine fn_entry (args := [.pointer (some ⟨b1, 0, none⟩), .int .i64 id]) Tryz.func284 rfl Tryz.ntmps284 rfl (fun w0 => ?_)
  refine c_seq ?_
  refine c_region ?_
  have ho5 : Own rInt (.slice none 0 0) [] [] := Own.nil
  refine o_emp ?_
  refine o_L (y_assign rfl) rfl rfl ?_
  refine o_L (y_assign rfl) rfl rfl ?_
  refine o_nil0 rfl ?_
  refine c_seq ?_
  refine c_region ?_
  refine o_T (y_move rfl) rfl ?_
  refine o_T (y_move rfl) rfl ?_
  obtain ⟨c1, hx1, hm⟩ := bd1 hm
  refine o_callC en_305 rfl (s_skip (s_take s_nil)) (t305 hx1) rfl (fun u1 S1 hR1 => ?_)
  obtain ⟨rfl, rfl⟩ := hR1
  refine o_rest ?_
  refine o_L (y_assign rfl) rfl rfl ?_
  refine o_nil0 rfl ?_
  refine c_seq ?_
  refine c_seq ?_
  refine c_region ?_
  refine o_T (y_move rfl) rfl ?_
  refine o_T (y_neq rfl rfl) rfl ?_
  refine o_nil1 14 rfl rfl ?_
  refine c_cond rfl (fun h1 => ?_) (fun h1 => ?_)
  · have hm := cd_t h1 hm
    refine c_seq ?_
    refine c_region ?_
    refine o_T (y_move rfl) rfl ?_
    have ho6 : Own rInt (.slice none 0 0) [] [] := Own.nil
    refine o_emp ?_
    refine o_L (y_assign rfl) rfl rfl ?_
    refine o_L (y_assign rfl) rfl rfl ?_
    refine o_nil0 rfl ?_
    refine c_ret ?_
    obtain ⟨rfl, rfl⟩ := pr2 hm
    refine fun aX wX heX hsX => ret2 Tryz.results284 heX rfl rfl (s_get (ks k0) (s_get (ks (ks k0)) (s_get (ks (ks k0)) (s_get (ks (ks k0)) (s_get (ks (ks k0)) (s_get (ks (ks k0)) (s_get (ks (ks k0)) (s_take (s_skip (s_take s_nil)))))))))) ?_
    exact ⟨(.slice none 0 0), _, rfl, rfl, ho6⟩
  · have hm := cd_f h1 hm
    refine c_skip ?_
    refine c_seq ?_
    refine c_region ?_
    obtain ⟨l1, hx2, hm⟩ := bd hm
    refine o_mkR (R := rBool) (a := false) sz_241 rfl rfl rfl rfl rfl hx2 rfl (fun v5 g5 ho7 => ?_)
    refine o_L (y_assign rfl) rfl rfl ?_
    refine o_nil0 rfl ?_
    refine c_seq ?_
    refine c_region ?_
    refine o_T (y_move rfl) rfl ?_
    refine o_T (y_move rfl) rfl ?_
    refine o_T (y_move rfl) rfl ?_
    obtain ⟨l2, hx3, hm⟩ := bd1 hm
    refine o_callC en_312 rfl (s_get (ks k0) (s_get (ks (ks k0)) (s_get (ks (ks k0)) (s_get (ks (ks k0)) (s_get (ks (ks k0)) (s_get (ks (ks k0)) (s_get (ks (ks k0)) (s_take s_nil)))))))) (t312 ho1 ho2 ho3 ho4 ho7 hx3) rfl (fun u2 S2 hR2 => ?_)
    obtain ⟨g6, rfl, rfl, ho8⟩ := hR2
    refine o_rest ?_
    refine o_nil0 rfl ?_
    refine c_seq ?_
    refine c_region ?_
    have ho9 : Own rInt (.slice none 0 0) [] [] := Own.nil
    refine o_emp ?_
    refine o_L (y_assign rfl) rfl rfl ?_
    refine o_nil0 rfl ?_
    refine c_seq ?_
    refine c_seq ?_
    refine c_region ?_
    refine o_L (y_assign rfl) rfl rfl ?_
    refine o_nil0 rfl ?_
    obtain ⟨l4, c3, hj1, hm⟩ := bd2 hm
    refine c_joinP (n := 1) (fun sh G => ∃ (v7 : Value), ∃ (g8 : List Chunk), sh = [(8, v7), (9, .int .i64 c3)] ∧ G = [g8] ∧ Own rInt v7 l4 g8) (s_take (s_take (s_take (s_take (s_take (s_take (s_take (s_take (s_take (s_skip (s_take s_nil))))))))))) (.s .z) (fun _ _ h => h) ?_ ?_
    · skip
      refine c_block ?_
      refine c_loopP (n := 1) (fun mm sh G => ∃ (l3 : List Int), ∃ (c2 : Int), ∃ (v6 : Value), ∃ (g7 : List Chunk), sh = [(8, v6), (9, .int .i64 c2)] ∧ G = [g7] ∧ m284_w1 n l2 mm l3 c2 = some (l4, c3) ∧ Own rInt v6 l3 g7) n (s_take (s_take (s_take (s_take (s_take (s_take (s_take (s_take (s_take (s_skip (s_take s_nil))))))))))) (.s .z) ⟨_, _, ⟨_, _, (.slice none 0 0), _, rfl, rfl, hj1, ho9⟩, ⟨rfl, rfl, trivial⟩, _, (s_take (s_take (s_take (s_take (s_take (s_take (s_take (s_take (s_take (s_skip (s_take s_nil)))))))))))⟩ ?_
      rintro mm sh G ⟨l3, c2, v6, g7, rfl, rfl, hm, ho10⟩
      obtain ⟨mm1, rfl, hm⟩ := it2_s hm
      refine c_seq ?_
      refine c_seq ?_
      refine c_region ?_
      refine o_T (y_move rfl) rfl ?_
      refine o_T (y_leq rfl rfl) rfl ?_
      refine o_nil1 22 rfl rfl ?_
      refine c_cond rfl (fun h2 => ?_) (fun h2 => ?_)
      · have hm := cd_t h2 hm
        refine c_skip ?_
        refine c_seq ?_
        refine c_block ?_
        refine c_seq ?_
        refine c_region ?_
        refine o_T (y_move rfl) rfl ?_
        refine o_T (y_move rfl) rfl ?_
        obtain ⟨x1, hx4, hm⟩ := bd hm
        obtain ⟨b4, w1, cs1, y1, z1, vs1, hc1, ha1, hr1, hy1⟩ := ho8.rd.ix hx4
        obtain rfl : vs1 = (encB x1) := hr1
        refine o_T (hy1 sl_241 rfl rfl rfl) rfl ?_
        refine o_ld one_4 rfl (ms (ms (ms (ms (ms (ms (ms (ms (mg hc1))))))))) (At.getA (ha1)) rfl ?_
        refine o_nil1 28 rfl rfl ?_
        refine c_cond rfl (fun h3 => ?_) (fun h3 => ?_)
        · have hm := cd_t h3 hm
          refine c_region ?_
          refine o_T (y_move rfl) rfl ?_
          refine o_T (y_move rfl) rfl ?_
          refine o_bs1 sz_65 rfl rfl rfl rfl rfl rfl (fun b5 => ?_)
          obtain ⟨l5, hx5, hm⟩ := bd hm
          refine o_appR (R := rInt) (a := c2) sz_65 rfl rfl rfl rfl ho10 rfl hx5 (Sel.e (s_get (ks k0) (s_take s_nil))) rfl (fun v8 g9 ho12 => ?_)
          refine o_L (y_assign rfl) rfl rfl ?_
          refine o_nil0 rfl ?_
          refine c_region ?_
          refine o_T (y_move rfl) rfl ?_
          refine o_T (y_add rfl rfl rfl) rfl ?_
          refine o_L (y_assign rfl) rfl rfl ?_
          refine o_nil0 rfl ?_
          exact ⟨mm1, Nat.lt_succ_self _, _, _, ⟨_, _, v8, _, rfl, rfl, hm, ho12⟩, ⟨rfl, rfl, trivial⟩, ⟨rfl, rfl⟩, _, (s_take (s_take (s_take (s_take (s_take (s_take (s_take (s_take (s_take (s_take s_nil))))))))))⟩
        · have hm := cd_f h3 hm
          refine c_skip ?_
          refine c_region ?_
          refine o_T (y_move rfl) rfl ?_
          refine o_T (y_add rfl rfl rfl) rfl ?_
          refine o_L (y_assign rfl) rfl rfl ?_
          refine o_nil0 rfl ?_
          exact ⟨mm1, Nat.lt_succ_self _, _, _, ⟨_, _, v6, _, rfl, rfl, hm, ho10⟩, ⟨rfl, rfl, trivial⟩, ⟨rfl, rfl⟩, _, (s_take (s_take (s_take (s_take (s_take (s_take (s_take (s_take (s_take (s_take s_nil))))))))))⟩
      · have hm := cd_f h2 hm
        refine c_exit ?_
        obtain ⟨rfl, rfl⟩ := pr2 hm
        exact ⟨_, _, ⟨v6, _, rfl, rfl, ho10⟩, ⟨rfl, rfl, trivial⟩, ⟨rfl, rfl⟩, _, (s_take (s_take (s_take (s_take (s_take (s_take (s_take (s_take (s_take (s_take s_nil))))))))))⟩
    · rintro sh G ⟨v7, g8, rfl, rfl, ho11⟩
      refine c_seq ?_
      refine c_region ?_
      refine o_T (y_move rfl) rfl ?_
      refine o_L (y_assign rfl) rfl rfl ?_
      refine o_L (y_assign rfl) rfl rfl ?_
      refine o_nil0 rfl ?_
      refine c_ret ?_
      obtain ⟨rfl, rfl⟩ := pr2 hm
      refine fun aX wX heX hsX => ret2 Tryz.results284 heX rfl rfl (s_get (ks k0) (s_get (ks k0) (s_get (ks k0) (s_get (ks k0) (s_get (ks k0) (s_get (ks k0) (s_get (ks k0) (s_take (s_skip (s_take s_nil)))))))))) ?_
      exact ⟨v7, _, rfl, rfl, ho11⟩
end Go.Proofs.Qxb6500350aGreat
