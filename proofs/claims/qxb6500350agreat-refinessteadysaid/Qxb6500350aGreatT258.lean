/- MADE BY PROGRAM (tools350/mir.py): mirror and walk. -/
import Derived.Test.Qxb6500350aGreatF2
set_option linter.unusedVariables false
set_option linter.unusedSimpArgs false
set_option maxRecDepth 20000
set_option maxHeartbeats 4000000
namespace Go.Proofs.Qxb6500350aGreat
open Go.Eng

/- objects.blocksOf -/
def m258 (n : Nat) (n_ : Int) : Option (Int) :=
cond (decide (n_ ≤ 60)) (
some 1) (
cond (decide (n_ ≤ 120)) (
some 2) (
some 3))
theorem t258 {n : Nat} {C : List Chunk} {rc1 : Int} {n_ : Int}   (hm : m258 n n_ = some rc1) : Trip Tryz.prog 258 #[.int .i64 n_] ([] ++ [C]) (fun u S' => .int .i64 rc1 = u ∧ S' = [] ++ [C]) := by
  refine fn_entry (args := [.int .i64 n_]) Tryz.func258 rfl Tryz.ntmps258 rfl (fun w0 => ?_)
  refine c_seq ?_
  refine c_region ?_
  refine o_L (y_assign rfl) rfl rfl ?_
  refine o_nil0 rfl ?_
  refine c_seq ?_
  refine c_seq ?_
  refine c_region ?_
  refine o_T (y_move rfl) rfl ?_
  refine o_T (y_leq rfl rfl) rfl ?_
  refine o_nil1 4 rfl rfl ?_
  refine c_cond rfl (fun h1 => ?_) (fun h1 => ?_)
  · have hm := cd_t h1 hm
    refine c_seq ?_
    refine c_region ?_
    refine o_L (y_assign rfl) rfl rfl ?_
    refine o_nil0 rfl ?_
    refine c_ret ?_
    obtain rfl := p1 hm
    refine fun aX wX heX hsX => ret1 Tryz.results258 heX rfl (s_take s_nil) ?_
    exact ⟨rfl, rfl⟩
  · have hm := cd_f h1 hm
    refine c_skip ?_
    refine c_seq ?_
    refine c_seq ?_
    refine c_region ?_
    refine o_T (y_move rfl) rfl ?_
    refine o_T (y_leq rfl rfl) rfl ?_
    refine o_nil1 6 rfl rfl ?_
    refine c_cond rfl (fun h2 => ?_) (fun h2 => ?_)
    · have hm := cd_t h2 hm
      refine c_seq ?_
      refine c_region ?_
      refine o_L (y_assign rfl) rfl rfl ?_
      refine o_nil0 rfl ?_
      refine c_ret ?_
      obtain rfl := p1 hm
      refine fun aX wX heX hsX => ret1 Tryz.results258 heX rfl (s_take s_nil) ?_
      exact ⟨rfl, rfl⟩
    · have hm := cd_f h2 hm
      refine c_skip ?_
      refine c_seq ?_
      refine c_region ?_
      refine o_L (y_assign rfl) rfl rfl ?_
      refine o_nil0 rfl ?_
      refine c_ret ?_
      obtain rfl := p1 hm
      refine fun aX wX heX hsX => ret1 Tryz.results258 heX rfl (s_take s_nil) ?_
      exact ⟨rfl, rfl⟩
end Go.Proofs.Qxb6500350aGreat
