/- MADE BY PROGRAM (tools350/mir.py): mirror and walk. -/
import Derived.Test.Qxb6500350aGreatF2
set_option linter.unusedVariables false
set_option linter.unusedSimpArgs false
set_option maxRecDepth 20000
set_option maxHeartbeats 4000000
namespace Go.Proofs.Qxb6500350aGreat
open Go.Eng

/- tree.key -/
def m262 (n : Nat) (r : Line) : Option (Str) :=
cond r.dir (
Option.bind (sAdd r.name [47]) fun s1 =>
some s1) (
some r.name)
theorem t262 {n : Nat} {C : List Chunk} {rc1 : Str} {r : Line}   (hm : m262 n r = some rc1) : Trip Tryz.prog 262 #[.agg (Line.enc r).toArray] ([] ++ [C]) (fun u S' => .string ⟨(rc1 : Str).toArray⟩ = u ∧ S' = [] ++ [C]) := by
  refine fn_entry (args := [.agg (Line.enc r).toArray]) Tryz.func262 rfl Tryz.ntmps262 rfl (fun w0 => ?_)
  refine c_seq ?_
  refine c_region ?_
  refine o_box rfl rfl rfl rfl (fun b1 => ?_)
  refine o_L (y_assign rfl) rfl rfl ?_
  refine o_nil0 rfl ?_
  refine c_seq ?_
  refine c_seq ?_
  refine c_region ?_
  refine o_T (y_fa fl_213_0 rfl) rfl ?_
  refine o_ld one_4 rfl m0 (At.got (At.refl.comp Line.a_dir)) rfl ?_
  refine o_nil1 4 rfl rfl ?_
  refine c_cond rfl (fun h1 => ?_) (fun h1 => ?_)
  · have hm := cd_t h1 hm
    refine c_seq ?_
    refine c_region ?_
    refine o_T (y_fa fl_213_3 rfl) rfl ?_
    refine o_ld one_9 rfl m0 (At.got (At.refl.comp Line.a_name)) rfl ?_
    obtain ⟨s1, hx1, hm⟩ := bd hm
    refine o_T (y_sadd rfl rfl hx1) rfl ?_
    refine o_L (y_assign rfl) rfl rfl ?_
    refine o_nil0 rfl ?_
    refine c_ret ?_
    obtain rfl := p1 hm
    refine fun aX wX heX hsX => ret1 Tryz.results262 heX rfl (s_skip (s_take s_nil)) ?_
    exact ⟨rfl, rfl⟩
  · have hm := cd_f h1 hm
    refine c_skip ?_
    refine c_seq ?_
    refine c_region ?_
    refine o_T (y_fa fl_213_3 rfl) rfl ?_
    refine o_ld one_9 rfl m0 (At.got (At.refl.comp Line.a_name)) rfl ?_
    refine o_L (y_assign rfl) rfl rfl ?_
    refine o_nil0 rfl ?_
    refine c_ret ?_
    obtain rfl := p1 hm
    refine fun aX wX heX hsX => ret1 Tryz.results262 heX rfl (s_skip (s_take s_nil)) ?_
    exact ⟨rfl, rfl⟩
end Go.Proofs.Qxb6500350aGreat
