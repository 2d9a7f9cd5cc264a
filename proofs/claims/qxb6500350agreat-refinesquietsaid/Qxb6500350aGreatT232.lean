/- MADE BY PROGRAM (tools350/mir.py): mirror and walk. -/
import Derived.Test.Qxb6500350aGreatF2
set_option linter.unusedVariables false
set_option linter.unusedSimpArgs false
set_option maxRecDepth 20000
set_option maxHeartbeats 4000000
namespace Go.Proofs.Qxb6500350aGreat
open Go.Eng

/- api.text -/
def m232 (n : Nat) (l : (List File)) (i : Int) : Option (Str) :=
cond (decide (i < 0)) (
some []) (
Option.bind (ixL l i) fun x1 =>
some x1.data)
theorem t232 {n : Nat} {C : List Chunk} {rc1 : Str} {v1 : Value} {l : (List File)} {i : Int} (hr1 : Rd rFile C v1 l)  (hm : m232 n l i = some rc1) : Trip Tryz.prog 232 #[v1, .int .i64 i] ([] ++ [C]) (fun u S' => .string ⟨(rc1 : Str).toArray⟩ = u ∧ S' = [] ++ [C]) := by
  refine fn_entry (args := [v1, .int .i64 i]) Tryz.func232 rfl Tryz.ntmps232 rfl (fun w0 => ?_)
  refine c_seq ?_
  refine c_region ?_
  refine o_L (y_assign rfl) rfl rfl ?_
  refine o_nil0 rfl ?_
  refine c_seq ?_
  refine c_seq ?_
  refine c_region ?_
  refine o_T (y_move rfl) rfl ?_
  refine o_T (y_lss rfl rfl) rfl ?_
  refine o_nil1 6 rfl rfl ?_
  refine c_cond rfl (fun h1 => ?_) (fun h1 => ?_)
  · have hm := cd_t h1 hm
    refine c_seq ?_
    refine c_region ?_
    refine o_L (y_assign rfl) rfl rfl ?_
    refine o_nil0 rfl ?_
    refine c_ret ?_
    obtain rfl := p1 hm
    refine fun aX wX heX hsX => ret1 Tryz.results232 heX rfl (s_take s_nil) ?_
    exact ⟨rfl, rfl⟩
  · have hm := cd_f h1 hm
    refine c_skip ?_
    refine c_seq ?_
    refine c_region ?_
    refine o_T (y_move rfl) rfl ?_
    refine o_T (y_move rfl) rfl ?_
    obtain ⟨x1, hx1, hm⟩ := bd hm
    obtain ⟨b1, w1, cs1, y1, z1, vs1, hc1, ha1, hr2, hy1⟩ := hr1.ix hx1
    obtain rfl : vs1 = File.enc x1 := hr2
    refine o_T (hy1 sl_57 rfl rfl rfl) rfl ?_
    refine o_T (y_fa fl_71_1 rfl) rfl ?_
    refine o_ld one_9 rfl (mg hc1) (At.getA (ha1.comp File.a_data)) rfl ?_
    refine o_L (y_assign rfl) rfl rfl ?_
    refine o_nil0 rfl ?_
    refine c_ret ?_
    obtain rfl := p1 hm
    refine fun aX wX heX hsX => ret1 Tryz.results232 heX rfl (s_take s_nil) ?_
    exact ⟨rfl, rfl⟩
end Go.Proofs.Qxb6500350aGreat
