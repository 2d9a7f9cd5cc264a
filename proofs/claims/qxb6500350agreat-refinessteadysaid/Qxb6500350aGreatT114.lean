/- MADE BY PROGRAM (tools350/mir.py): mirror and walk. -/
import Derived.Test.Qxb6500350aGreatF2
import Derived.Test.Qxb6500350aGreatT203
set_option linter.unusedVariables false
set_option linter.unusedSimpArgs false
set_option maxRecDepth 20000
set_option maxHeartbeats 4000000
namespace Go.Proofs.Qxb6500350aGreat
open Go.Eng

/- api.Clash -/
def m114 (n : Nat) (p : Str) (q_ : Str) : Option (Bool) :=
Option.bind (sAdd p [47]) fun s1 =>
ob1 (m203 n q_ s1) fun c1 =>
cond c1 (
some true) (
Option.bind (sAdd q_ [47]) fun s2 =>
ob1 (m203 n p s2) fun c2 =>
some c2)
theorem t114 {n : Nat} {C : List Chunk} {rc1 : Bool} {p : Str} {q_ : Str}   (hm : m114 n p q_ = some rc1) : Trip Tryz.prog 114 #[.string ⟨(p : Str).toArray⟩, .string ⟨(q_ : Str).toArray⟩] ([] ++ [C]) (fun u S' => .bool rc1 = u ∧ S' = [] ++ [C]) := by
  refine fn_entry (args := [.string ⟨(p : Str).toArray⟩, .string ⟨(q_ : Str).toArray⟩]) Tryz.func114 rfl Tryz.ntmps114 rfl (fun w0 => ?_)
  refine c_seq ?_
  refine c_region ?_
  refine o_L (y_assign rfl) rfl rfl ?_
  refine o_nil0 rfl ?_
  refine c_seq ?_
  refine c_seq ?_
  refine c_region ?_
  refine o_T (y_move rfl) rfl ?_
  refine o_T (y_move rfl) rfl ?_
  obtain ⟨s1, hx1, hm⟩ := bd hm
  refine o_T (y_sadd rfl rfl hx1) rfl ?_
  obtain ⟨c1, hx2, hm⟩ := bd1 hm
  refine o_callC en_203 rfl s_nil (t203 hx2) rfl (fun u1 S1 hR1 => ?_)
  obtain ⟨rfl, rfl⟩ := hR1
  refine o_rest ?_
  refine o_nil1 8 rfl rfl ?_
  refine c_cond rfl (fun h1 => ?_) (fun h1 => ?_)
  · have hm := cd_t h1 hm
    refine c_seq ?_
    refine c_region ?_
    refine o_L (y_assign rfl) rfl rfl ?_
    refine o_nil0 rfl ?_
    refine c_ret ?_
    obtain rfl := p1 hm
    refine fun aX wX heX hsX => ret1 Tryz.results114 heX rfl (s_take s_nil) ?_
    exact ⟨rfl, rfl⟩
  · have hm := cd_f h1 hm
    refine c_skip ?_
    refine c_seq ?_
    refine c_region ?_
    refine o_T (y_move rfl) rfl ?_
    refine o_T (y_move rfl) rfl ?_
    obtain ⟨s2, hx3, hm⟩ := bd hm
    refine o_T (y_sadd rfl rfl hx3) rfl ?_
    obtain ⟨c2, hx4, hm⟩ := bd1 hm
    refine o_callC en_203 rfl s_nil (t203 hx4) rfl (fun u2 S2 hR2 => ?_)
    obtain ⟨rfl, rfl⟩ := hR2
    refine o_rest ?_
    refine o_L (y_assign rfl) rfl rfl ?_
    refine o_nil0 rfl ?_
    refine c_ret ?_
    obtain rfl := p1 hm
    refine fun aX wX heX hsX => ret1 Tryz.results114 heX rfl (s_take s_nil) ?_
    exact ⟨rfl, rfl⟩
end Go.Proofs.Qxb6500350aGreat
