/- MADE BY PROGRAM (tools350/mir.py): mirror and walk. -/
import Derived.Test.Qxb6500350aGreatF2
import Derived.Test.Qxb6500350aGreatT209
set_option linter.unusedVariables false
set_option linter.unusedSimpArgs false
set_option maxRecDepth 20000
set_option maxHeartbeats 4000000
namespace Go.Proofs.Qxb6500350aGreat
open Go.Eng

/- api.Cost -/
def m124 (n : Nat) (l : (List File)) : Option (Int) :=
ob1 (m209 n l) fun l1 =>
some (wi ((l.length : Int) + (l1.length : Int)))
theorem t124 {n : Nat} {C : List Chunk} {rc1 : Int} {v1 : Value} {l : (List File)} (hr1 : Rd rFile C v1 l)  (hm : m124 n l = some rc1) : Trip Tryz.prog 124 #[v1] ([] ++ [C]) (fun u S' => .int .i64 rc1 = u ∧ S' = [] ++ [C]) := by
  refine fn_entry (args := [v1]) Tryz.func124 rfl Tryz.ntmps124 rfl (fun w0 => ?_)
  refine c_seq ?_
  refine c_region ?_
  refine o_L (y_assign rfl) rfl rfl ?_
  refine o_nil0 rfl ?_
  refine c_seq ?_
  refine c_region ?_
  refine o_T (y_move rfl) rfl ?_
  refine o_T (y_lenR hr1 Tryz.underlying57 rfl) rfl ?_
  refine o_T (y_move rfl) rfl ?_
  obtain ⟨l1, hx1, hm⟩ := bd1 hm
  refine o_callC en_209 rfl s_nil (t209 (hr1.mono (fun _ hz => (mg hz))) hx1) rfl (fun u1 S1 hR1 => ?_)
  obtain ⟨v2, g1, rfl, rfl, ho1⟩ := hR1
  refine o_rest ?_
  refine o_T (y_lenR ho1.rd Tryz.underlying185 rfl) rfl ?_
  refine o_T (y_add rfl rfl rfl) rfl ?_
  refine o_L (y_assign rfl) rfl rfl ?_
  refine o_nil0 rfl ?_
  refine c_ret ?_
  obtain rfl := p1 hm
  refine fun aX wX heX hsX => ret1 Tryz.results124 heX rfl (s_skip (s_take s_nil)) ?_
  exact ⟨rfl, rfl⟩
end Go.Proofs.Qxb6500350aGreat
