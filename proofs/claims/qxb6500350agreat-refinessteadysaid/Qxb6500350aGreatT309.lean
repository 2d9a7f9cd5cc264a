/- MADE BY PROGRAM (tools350/mir.py): mirror and walk. -/
import Derived.Test.Qxb6500350aGreatF2
import Derived.Test.Qxb6500350aGreatT308
set_option linter.unusedVariables false
set_option linter.unusedSimpArgs false
set_option maxRecDepth 20000
set_option maxHeartbeats 4000000
namespace Go.Proofs.Qxb6500350aGreat
open Go.Eng

/- diff.closed -/
def m309 (n : Nat) (out : (List UInt8)) (l : (List Str)) (from_ : Int) (to_ : Int) : Option ((List UInt8)) :=
ob1 (m308 n out l from_ to_) fun l1 =>
cond (decide (from_ < to_)) (
Option.bind (ixL l (wi (to_ - 1))) fun x1 =>
ob1 (cond (decide ((0 : Int) < (x1.length : Int))) (Option.bind (sIx x1 (wi ((x1.length : Int) - 1))) fun c2 =>
some ((decide (¬ ((c2.toNat : Int) = 10))))) (some (false))) fun c1 =>
cond c1 (
Option.bind (apd l1 (10 : UInt8)) fun l2 =>
some l2) (
some l1)) (
some l1)
theorem t309 {n : Nat} {C : List Chunk} {rl1 : List UInt8} {v1 : Value} {out : (List UInt8)} {g1 : List Chunk} {v2 : Value} {l : (List Str)} {from_ : Int} {to_ : Int} (ho1 : Own rByte v1 out g1) (hr1 : Rd rStr C v2 l)  (hm : m309 n out l from_ to_ = some rl1) : Trip Tryz.prog 309 #[v1, v2, .int .i64 from_, .int .i64 to_] ([g1] ++ [C]) (fun u S' => ∃ (ev1 : Value), ∃ (eg1 : List Chunk), ev1 = u ∧ S' = [eg1] ++ [C] ∧ Own rByte ev1 rl1 eg1) := by
  refine fn_entry (args := [v1, v2, .int .i64 from_, .int .i64 to_]) Tryz.func309 rfl Tryz.ntmps309 rfl (fun w0 => ?_)
  refine c_seq ?_
  refine c_region ?_
  have ho2 : Own rByte (.slice none 0 0) [] [] := Own.nil
  refine o_emp ?_
  refine o_L (y_assign rfl) rfl rfl ?_
  refine o_nil0 rfl ?_
  refine c_seq ?_
  refine c_region ?_
  refine o_T (y_move rfl) rfl ?_
  refine o_T (y_move rfl) rfl ?_
  refine o_T (y_move rfl) rfl ?_
  refine o_T (y_move rfl) rfl ?_
  obtain ⟨l1, hx1, hm⟩ := bd1 hm
  refine o_callC en_308 rfl (s_skip (s_take s_nil)) (t308 ho1 (hr1.mono (fun _ hz => (ms (mg hz)))) hx1) rfl (fun u1 S1 hR1 => ?_)
  obtain ⟨v3, g2, rfl, rfl, ho3⟩ := hR1
  refine o_rest ?_
  refine o_L (y_assign rfl) rfl rfl ?_
  refine o_nil0 rfl ?_
  refine c_seq ?_
  refine c_seq ?_
  refine c_region ?_
  refine o_T (y_move rfl) rfl ?_
  refine o_T (y_move rfl) rfl ?_
  refine o_T (y_gtr rfl rfl) rfl ?_
  refine o_nil1 17 rfl rfl ?_
  refine c_cond rfl (fun h1 => ?_) (fun h1 => ?_)
  · have hm := cd_t h1 hm
    refine c_seq ?_
    refine c_region ?_
    refine o_T (y_move rfl) rfl ?_
    refine o_T (y_move rfl) rfl ?_
    refine o_T (y_sub rfl rfl rfl) rfl ?_
    obtain ⟨x1, hx2, hm⟩ := bd hm
    obtain ⟨b1, w1, cs1, y1, z1, vs1, hc1, ha1, hr2, hy1⟩ := hr1.ix hx2
    obtain rfl : vs1 = (encS x1) := hr2
    refine o_T (hy1 sl_185 rfl rfl rfl) rfl ?_
    refine o_ld one_9 rfl (ms (ms (mg hc1))) (At.getA (ha1)) rfl ?_
    refine o_L (y_assign rfl) rfl rfl ?_
    refine o_nil0 rfl ?_
    refine c_seq ?_
    obtain ⟨c1, hj1, hm⟩ := bd1 hm
    refine c_joinP (n := 0) (fun sh G => sh = [(33, .bool c1)] ∧ G = []) Sel.all' .z (fun _ _ h => h) ?_ ?_
    · have hm := hj1
      refine c_region ?_
      refine o_T (y_move rfl) rfl ?_
      refine o_T (y_slen Tryz.underlying9 rfl) rfl ?_
      refine o_T (y_gtr rfl rfl) rfl ?_
      refine o_T (y_move rfl) rfl ?_
      refine o_split 26 rfl (fun h2 => ?_) (fun h2 => ?_)
      · have hm := cd_t h2 hm
        refine o_take rfl rfl rfl ?_
        refine o_T (y_move rfl) rfl ?_
        refine o_take rfl rfl rfl ?_
        refine o_T (y_move rfl) rfl ?_
        refine o_take rfl rfl rfl ?_
        refine o_T (y_slen Tryz.underlying9 rfl) rfl ?_
        refine o_take rfl rfl rfl ?_
        refine o_T (y_sub rfl rfl rfl) rfl ?_
        refine o_take rfl rfl rfl ?_
        obtain ⟨c2, hx3, hm⟩ := bd hm
        refine o_T (y_sidx Tryz.underlying9 rfl rfl hx3) rfl ?_
        refine o_take rfl rfl rfl ?_
        refine o_T (y_neq rfl rfl) rfl ?_
        refine o_T (y_pickT rfl rfl) rfl ?_
        refine o_nil1 33 rfl rfl ?_
        obtain rfl := p1 hm
        exact ⟨_, _, ⟨rfl, rfl⟩, ⟨rfl, trivial⟩, ⟨rfl, rfl⟩, _, (s_take (s_take (s_take s_nil)))⟩
      · have hm := cd_f h2 hm
        refine o_pass rfl rfl rfl rfl rfl ?_
        refine o_pass rfl rfl rfl rfl rfl ?_
        refine o_pass rfl rfl rfl rfl rfl ?_
        refine o_pass rfl rfl rfl rfl rfl ?_
        refine o_pass rfl rfl rfl rfl rfl ?_
        refine o_pass rfl rfl rfl rfl rfl ?_
        refine o_T (y_pickF rfl rfl) rfl ?_
        refine o_nil1 33 rfl rfl ?_
        obtain rfl := p1 hm
        exact ⟨_, _, ⟨rfl, rfl⟩, ⟨rfl, trivial⟩, ⟨rfl, rfl⟩, _, (s_take (s_take (s_take s_nil)))⟩
    · rintro sh G ⟨rfl, rfl⟩
      refine c_cond rfl (fun h3 => ?_) (fun h3 => ?_)
      · have hm := cd_t h3 hm
        refine c_region ?_
        refine o_T (y_move rfl) rfl ?_
        refine o_bs1 sz_81 rfl rfl rfl rfl rfl rfl (fun b2 => ?_)
        obtain ⟨l2, hx4, hm⟩ := bd hm
        refine o_appR (R := rByte) (a := (10 : UInt8)) sz_81 rfl rfl rfl rfl ho3 rfl hx4 (Sel.e (s_get (ks k0) (s_take s_nil))) rfl (fun v4 g3 ho4 => ?_)
        refine o_L (y_assign rfl) rfl rfl ?_
        refine o_nil0 rfl ?_
        refine c_seq ?_
        refine c_region ?_
        refine o_T (y_move rfl) rfl ?_
        refine o_L (y_assign rfl) rfl rfl ?_
        refine o_nil0 rfl ?_
        refine c_ret ?_
        obtain rfl := p1 hm
        refine fun aX wX heX hsX => ret1 Tryz.results309 heX rfl (s_take (s_skip (s_take s_nil))) ?_
        exact ⟨v4, _, rfl, rfl, ho4⟩
      · have hm := cd_f h3 hm
        refine c_skip ?_
        refine c_seq ?_
        refine c_region ?_
        refine o_T (y_move rfl) rfl ?_
        refine o_L (y_assign rfl) rfl rfl ?_
        refine o_nil0 rfl ?_
        refine c_ret ?_
        obtain rfl := p1 hm
        refine fun aX wX heX hsX => ret1 Tryz.results309 heX rfl (s_take (s_skip (s_take s_nil))) ?_
        exact ⟨v3, _, rfl, rfl, ho3⟩
  · have hm := cd_f h1 hm
    refine c_skip ?_
    refine c_seq ?_
    refine c_region ?_
    refine o_T (y_move rfl) rfl ?_
    refine o_L (y_assign rfl) rfl rfl ?_
    refine o_nil0 rfl ?_
    refine c_ret ?_
    obtain rfl := p1 hm
    refine fun aX wX heX hsX => ret1 Tryz.results309 heX rfl (s_take (s_skip (s_take s_nil))) ?_
    exact ⟨v3, _, rfl, rfl, ho3⟩
end Go.Proofs.Qxb6500350aGreat
