/- MADE BY PROGRAM (tools350/mir.py): mirror and walk. -/
import Derived.Test.Qxb6500350aGreatF2
set_option linter.unusedVariables false
set_option linter.unusedSimpArgs false
set_option maxRecDepth 20000
set_option maxHeartbeats 4000000
namespace Go.Proofs.Qxb6500350aGreat
open Go.Eng

/- index.codeOf -/
def m251 (n : Nat) (before : Bool) (now : Bool) (alike : Bool) : Option (Int) :=
cond (before && now) (
cond alike (
some 0) (
some 2)) (
cond now (
some 1) (
cond before (
some 3) (
some 0)))
theorem t251 {n : Nat} {C : List Chunk} {rc1 : Int} {before : Bool} {now : Bool} {alike : Bool}   (hm : m251 n before now alike = some rc1) : Trip Tryz.prog 251 #[.bool before, .bool now, .bool alike] ([] ++ [C]) (fun u S' => .int .i64 rc1 = u ∧ S' = [] ++ [C]) := by
  refine fn_entry (args := [.bool before, .bool now, .bool alike]) Tryz.func251 rfl Tryz.ntmps251 rfl (fun w0 => ?_)
  refine c_seq ?_
  refine c_region ?_
  refine o_L (y_assign rfl) rfl rfl ?_
  refine o_nil0 rfl ?_
  refine c_seq ?_
  refine c_seq ?_
  refine c_joinP (n := 0) (fun sh G => sh = [(10, .bool (before && now))] ∧ G = []) Sel.all' .z (fun _ _ h => h) ?_ ?_
  · skip
    refine c_region ?_
    refine o_T (y_move rfl) rfl ?_
    refine o_T (y_move rfl) rfl ?_
    refine o_split 8 rfl (fun h1 => ?_) (fun h1 => ?_)
    · skip
      refine o_take rfl rfl rfl ?_
      refine o_T (y_move rfl) rfl ?_
      refine o_T (y_pickT rfl rfl) rfl ?_
      refine o_nil1 10 rfl rfl ?_
      refine ⟨_, _, ⟨rfl, rfl⟩, ⟨by first | rfl | exact gtb rfl (by simp only [h1, Bool.true_and, Bool.false_and, Bool.true_or, Bool.false_or, Bool.and_true, Bool.and_false, Bool.or_true, Bool.or_false, Bool.not_true, Bool.not_false]), trivial⟩, ⟨rfl, rfl⟩, _, (s_take s_nil)⟩
    · skip
      refine o_pass rfl rfl rfl rfl rfl ?_
      refine o_T (y_pickF rfl rfl) rfl ?_
      refine o_nil1 10 rfl rfl ?_
      refine ⟨_, _, ⟨rfl, rfl⟩, ⟨by first | rfl | exact gtb rfl (by simp only [h1, Bool.true_and, Bool.false_and, Bool.true_or, Bool.false_or, Bool.and_true, Bool.and_false, Bool.or_true, Bool.or_false, Bool.not_true, Bool.not_false]), trivial⟩, ⟨rfl, rfl⟩, _, (s_take s_nil)⟩
  · rintro sh G ⟨rfl, rfl⟩
    refine c_cond rfl (fun h2 => ?_) (fun h2 => ?_)
    · have hm := cd_t h2 hm
      refine c_seq ?_
      refine c_seq ?_
      refine c_region ?_
      refine o_T (y_move rfl) rfl ?_
      refine o_nil1 11 rfl rfl ?_
      refine c_cond rfl (fun h3 => ?_) (fun h3 => ?_)
      · have hm := cd_t h3 hm
        refine c_seq ?_
        refine c_region ?_
        refine o_L (y_assign rfl) rfl rfl ?_
        refine o_nil0 rfl ?_
        refine c_ret ?_
        obtain rfl := p1 hm
        refine fun aX wX heX hsX => ret1 Tryz.results251 heX rfl (s_take s_nil) ?_
        exact ⟨rfl, rfl⟩
      · have hm := cd_f h3 hm
        refine c_skip ?_
        refine c_seq ?_
        refine c_region ?_
        refine o_L (y_assign rfl) rfl rfl ?_
        refine o_nil0 rfl ?_
        refine c_ret ?_
        obtain rfl := p1 hm
        refine fun aX wX heX hsX => ret1 Tryz.results251 heX rfl (s_take s_nil) ?_
        exact ⟨rfl, rfl⟩
    · have hm := cd_f h2 hm
      refine c_skip ?_
      refine c_seq ?_
      refine c_seq ?_
      refine c_region ?_
      refine o_T (y_move rfl) rfl ?_
      refine o_nil1 12 rfl rfl ?_
      refine c_cond rfl (fun h4 => ?_) (fun h4 => ?_)
      · have hm := cd_t h4 hm
        refine c_seq ?_
        refine c_region ?_
        refine o_L (y_assign rfl) rfl rfl ?_
        refine o_nil0 rfl ?_
        refine c_ret ?_
        obtain rfl := p1 hm
        refine fun aX wX heX hsX => ret1 Tryz.results251 heX rfl (s_take s_nil) ?_
        exact ⟨rfl, rfl⟩
      · have hm := cd_f h4 hm
        refine c_skip ?_
        refine c_seq ?_
        refine c_seq ?_
        refine c_region ?_
        refine o_T (y_move rfl) rfl ?_
        refine o_nil1 13 rfl rfl ?_
        refine c_cond rfl (fun h5 => ?_) (fun h5 => ?_)
        · have hm := cd_t h5 hm
          refine c_seq ?_
          refine c_region ?_
          refine o_L (y_assign rfl) rfl rfl ?_
          refine o_nil0 rfl ?_
          refine c_ret ?_
          obtain rfl := p1 hm
          refine fun aX wX heX hsX => ret1 Tryz.results251 heX rfl (s_take s_nil) ?_
          exact ⟨rfl, rfl⟩
        · have hm := cd_f h5 hm
          refine c_skip ?_
          refine c_seq ?_
          refine c_region ?_
          refine o_L (y_assign rfl) rfl rfl ?_
          refine o_nil0 rfl ?_
          refine c_ret ?_
          obtain rfl := p1 hm
          refine fun aX wX heX hsX => ret1 Tryz.results251 heX rfl (s_take s_nil) ?_
          exact ⟨rfl, rfl⟩
end Go.Proofs.Qxb6500350aGreat
