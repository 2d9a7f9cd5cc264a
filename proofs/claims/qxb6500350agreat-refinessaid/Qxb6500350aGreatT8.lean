/- MADE BY PROGRAM (tools350/mir.py): mirror and walk. -/
import Derived.Test.Qxb6500350aGreatF2
import Derived.Test.Qxb6500350aGreatT7
set_option linter.unusedVariables false
set_option linter.unusedSimpArgs false
set_option maxRecDepth 20000
set_option maxHeartbeats 4000000
namespace Go.Proofs.Qxb6500350aGreat
open Go.Eng

/- towerlaw.RefinesQuietUpTo -/
def m8 (n : Nat) (script : (List Op_)) : Option (Int) :=
ob2 (m7 n script false true) fun c1 c2 =>
some c1
theorem t8 {n : Nat} {C : List Chunk} {rc1 : Int} {v1 : Value} {script : (List Op_)} (hr1 : Rd rOp_ C v1 script)  (hm : m8 n script = some rc1) : Trip Tryz.prog 8 #[v1] ([] ++ [C]) (fun u S' => .int .i64 rc1 = u ∧ S' = [] ++ [C]) := by
  refine fn_entry (args := [v1]) Tryz.func8 rfl Tryz.ntmps8 rfl (fun w0 => ?_)
  refine c_seq ?_
  refine c_region ?_
  refine o_L (y_assign rfl) rfl rfl ?_
  refine o_nil0 rfl ?_
  refine c_seq ?_
  refine c_region ?_
  refine o_T (y_move rfl) rfl ?_
  obtain ⟨c1, c2, hx1, hm⟩ := bd2 hm
  refine o_callC en_7 rfl s_nil (t7 (hr1.mono (fun _ hz => (mg hz))) hx1) rfl (fun u1 S1 hR1 => ?_)
  obtain ⟨rfl, rfl⟩ := hR1
  refine o_rest ?_
  refine o_T (y_move rfl) rfl ?_
  refine o_T (y_extract rfl rfl) rfl ?_
  refine o_T (y_extract rfl rfl) rfl ?_
  refine o_L (y_assign rfl) rfl rfl ?_
  refine o_L (y_assign rfl) rfl rfl ?_
  refine o_nil0 rfl ?_
  refine c_seq ?_
  refine c_region ?_
  refine o_T (y_move rfl) rfl ?_
  refine o_L (y_assign rfl) rfl rfl ?_
  refine o_nil0 rfl ?_
  refine c_ret ?_
  obtain rfl := p1 hm
  refine fun aX wX heX hsX => ret1 Tryz.results8 heX rfl (s_take s_nil) ?_
  exact ⟨rfl, rfl⟩
end Go.Proofs.Qxb6500350aGreat
