/- MADE BY PROGRAM (tools350/mir.py): mirror and walk. -/
import Derived.Test.Qxb6500350aGreatF2
set_option linter.unusedVariables false
set_option linter.unusedSimpArgs false
set_option maxRecDepth 20000
set_option maxHeartbeats 4000000
namespace Go.Proofs.Qxb6500350aGreat
open Go.Eng

/- index.keyOf -/
def m266 (n : Nat) (name : Str) (file : Bool) : Option (Str) :=
cond file (
some name) (
Option.bind (sAdd name [47]) fun s1 =>
some s1)
theorem t266 {n : Nat} {C : List Chunk} {rc1 : Str} {name : Str} {file : Bool}   (hm : m266 n name file = some rc1) : Trip Tryz.prog 266 #[.string ⟨(name : Str).toArray⟩, .bool file] ([] ++ [C]) (fun u S' => .string ⟨(rc1 : Str).toArray⟩ = u ∧ S' = [] ++ [C]) := by
  refine fn_entry (args := [.string ⟨(name : Str).toArray⟩, .bool file]) Tryz.func266 rfl Tryz.ntmps266 rfl (fun w0 => ?_)
  refine c_seq ?_
  refine c_region ?_
  refine o_L (y_assign rfl) rfl rfl ?_
  refine o_nil0 rfl ?_
  refine c_seq ?_
  refine c_seq ?_
  refine c_region ?_
  refine o_T (y_move rfl) rfl ?_
  refine o_nil1 5 rfl rfl ?_
  refine c_cond rfl (fun h1 => ?_) (fun h1 => ?_)
  · have hm := cd_t h1 hm
    refine c_seq ?_
    refine c_region ?_
    refine o_T (y_move rfl) rfl ?_
    refine o_L (y_assign rfl) rfl rfl ?_
    refine o_nil0 rfl ?_
    refine c_ret ?_
    obtain rfl := p1 hm
    refine fun aX wX heX hsX => ret1 Tryz.results266 heX rfl (s_take s_nil) ?_
    exact ⟨rfl, rfl⟩
  · have hm := cd_f h1 hm
    refine c_skip ?_
    refine c_seq ?_
    refine c_region ?_
    refine o_T (y_move rfl) rfl ?_
    obtain ⟨s1, hx1, hm⟩ := bd hm
    refine o_T (y_sadd rfl rfl hx1) rfl ?_
    refine o_L (y_assign rfl) rfl rfl ?_
    refine o_nil0 rfl ?_
    refine c_ret ?_
    obtain rfl := p1 hm
    refine fun aX wX heX hsX => ret1 Tryz.results266 heX rfl (s_take s_nil) ?_
    exact ⟨rfl, rfl⟩
end Go.Proofs.Qxb6500350aGreat
