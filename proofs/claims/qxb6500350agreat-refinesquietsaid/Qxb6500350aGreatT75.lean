/- MADE BY PROGRAM (tools350/mir.py): mirror and walk. -/
import Derived.Test.Qxb6500350aGreatF2
import Derived.Test.Qxb6500350aGreatT171
set_option linter.unusedVariables false
set_option linter.unusedSimpArgs false
set_option maxRecDepth 20000
set_option maxHeartbeats 4000000
namespace Go.Proofs.Qxb6500350aGreat
open Go.Eng

/- index.New -/
def m75 (n : Nat) : Option (Index) :=
ob1 (m171 n Index.zero) fun z1 =>
some z1
theorem t75 {n : Nat} {C : List Chunk} {rz1 : Index}    (hm : m75 n = some rz1) : Trip Tryz.prog 75 #[] ([] ++ [C]) (fun u S' => ∃ (eb1 : Nat), .pointer (some ⟨eb1, 0, none⟩) = u ∧ S' = [[(eb1, .cells (Index.enc rz1).toArray 184 (0, 0))]] ++ [C]) := by
  refine fn_entry (args := []) Tryz.func75 rfl Tryz.ntmps75 rfl (fun w0 => ?_)
  refine c_seq ?_
  refine c_region ?_
  refine o_L (y_assign rfl) rfl rfl ?_
  refine o_nil0 rfl ?_
  refine c_seq ?_
  refine c_region ?_
  refine o_T (y_build st_184 rfl fbU0) rfl ?_
  refine o_box rfl rfl rfl rfl (fun b1 => ?_)
  refine o_L (y_assign rfl) rfl rfl ?_
  refine o_nil0 rfl ?_
  refine c_seq ?_
  refine c_region ?_
  refine o_T (y_move rfl) rfl ?_
  obtain ⟨z1, hx1, hm⟩ := bd1 hm
  refine o_callC en_171 rfl (s_take s_nil) (t171 hx1) rfl (fun u1 S1 hR1 => ?_)
  obtain ⟨rfl, rfl⟩ := hR1
  refine o_rest ?_
  refine o_nil0 rfl ?_
  refine c_seq ?_
  refine c_region ?_
  refine o_T (y_move rfl) rfl ?_
  refine o_L (y_assign rfl) rfl rfl ?_
  refine o_nil0 rfl ?_
  refine c_ret ?_
  obtain rfl := p1 hm
  refine fun aX wX heX hsX => ret1 Tryz.results75 heX rfl (s_take (s_take s_nil)) ?_
  exact ⟨b1, rfl, rfl⟩
end Go.Proofs.Qxb6500350aGreat
