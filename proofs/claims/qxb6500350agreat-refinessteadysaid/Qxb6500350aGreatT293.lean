/- MADE BY PROGRAM (tools350/mir.py): mirror and walk. -/
import Derived.Test.Qxb6500350aGreatF2
set_option linter.unusedVariables false
set_option linter.unusedSimpArgs false
set_option maxRecDepth 20000
set_option maxHeartbeats 4000000
namespace Go.Proofs.Qxb6500350aGreat
open Go.Eng

/- diff.lines -/
def m293 (n : Nat) (l : (List Str)) (from_ : Int) (to_ : Int) : Option ((List Str)) :=
cond (decide (from_ = to_)) (
some ([] : List Str)) (
Option.bind (mkL (wi (to_ - from_)) (wi (to_ - from_)) ([] : Str)) fun l1 =>
Option.bind (slL l from_ to_) fun l2 =>
Option.bind (cpL l1 l2) fun l3 =>
some l3)
theorem t293 {n : Nat} {C : List Chunk} {rl1 : List Str} {v1 : Value} {l : (List Str)} {from_ : Int} {to_ : Int} (hr1 : Rd rStr C v1 l)  (hm : m293 n l from_ to_ = some rl1) : Trip Tryz.prog 293 #[v1, .int .i64 from_, .int .i64 to_] ([] ++ [C]) (fun u S' => ∃ (ev1 : Value), ∃ (eg1 : List Chunk), ev1 = u ∧ S' = [eg1] ++ [C] ∧ Own rStr ev1 rl1 eg1) := by
  refine fn_entry (args := [v1, .int .i64 from_, .int .i64 to_]) Tryz.func293 rfl Tryz.ntmps293 rfl (fun w0 => ?_)
  refine c_seq ?_
  refine c_region ?_
  have ho1 : Own rStr (.slice none 0 0) [] [] := Own.nil
  refine o_emp ?_
  refine o_L (y_assign rfl) rfl rfl ?_
  refine o_nil0 rfl ?_
  refine c_seq ?_
  refine c_seq ?_
  refine c_region ?_
  refine o_T (y_move rfl) rfl ?_
  refine o_T (y_move rfl) rfl ?_
  refine o_T (y_eql rfl rfl) rfl ?_
  refine o_nil1 10 rfl rfl ?_
  refine c_cond rfl (fun h1 => ?_) (fun h1 => ?_)
  · have hm := cd_t h1 hm
    refine c_seq ?_
    refine c_region ?_
    have ho2 : Own rStr (.slice none 0 0) [] [] := Own.nil
    refine o_emp ?_
    refine o_L (y_assign rfl) rfl rfl ?_
    refine o_nil0 rfl ?_
    refine c_ret ?_
    obtain rfl := p1 hm
    refine fun aX wX heX hsX => ret1 Tryz.results293 heX rfl (s_take (s_skip (s_take s_nil))) ?_
    exact ⟨(.slice none 0 0), _, rfl, rfl, ho2⟩
  · have hm := cd_f h1 hm
    refine c_skip ?_
    refine c_seq ?_
    refine c_region ?_
    refine o_T (y_move rfl) rfl ?_
    refine o_T (y_move rfl) rfl ?_
    refine o_T (y_sub rfl rfl rfl) rfl ?_
    obtain ⟨l1, hx1, hm⟩ := bd hm
    refine o_mkR (R := rStr) (a := []) sz_185 rfl rfl rfl rfl rfl hx1 rfl (fun v2 g1 ho3 => ?_)
    refine o_L (y_assign rfl) rfl rfl ?_
    refine o_nil0 rfl ?_
    refine c_seq ?_
    refine c_region ?_
    refine o_T (y_move rfl) rfl ?_
    refine o_T (y_move rfl) rfl ?_
    refine o_T (y_move rfl) rfl ?_
    refine o_T (y_move rfl) rfl ?_
    obtain ⟨l2, hx2, hm⟩ := bd hm
    obtain ⟨v3, hr2, hy1⟩ := hr1.sl hx2
    refine o_T (hy1 sl_185 rfl rfl (biS rfl) (biS rfl)) rfl ?_
    obtain ⟨l3, hx3, hm⟩ := bd hm
    refine o_cpR sz_185 rfl rfl rfl ho3 hr2 (fun _ hz => (ms (ms (mg hz)))) hx3 (fun _ => q0) (fun hz => hz) (.inr ⟨_, rfl, rfl, rfl⟩) (fun g2 ho4 => ?_)
    refine o_nil0 rfl ?_
    refine c_seq ?_
    refine c_region ?_
    refine o_T (y_move rfl) rfl ?_
    refine o_L (y_assign rfl) rfl rfl ?_
    refine o_nil0 rfl ?_
    refine c_ret ?_
    obtain rfl := p1 hm
    refine fun aX wX heX hsX => ret1 Tryz.results293 heX rfl (s_take (s_skip (s_take s_nil))) ?_
    exact ⟨v2, _, rfl, rfl, ho4⟩
end Go.Proofs.Qxb6500350aGreat
