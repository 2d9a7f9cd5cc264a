/- MADE BY PROGRAM (tools350/mir.py): mirror and walk. -/
import Derived.Test.Qxb6500350aGreatF2
set_option linter.unusedVariables false
set_option linter.unusedSimpArgs false
set_option maxRecDepth 20000
set_option maxHeartbeats 4000000
namespace Go.Proofs.Qxb6500350aGreat
open Go.Eng

/- diff.New -/
def m76 (n : Nat) : Option (Engine) :=
some Engine.zero
theorem t76 {n : Nat} {C : List Chunk} {rz1 : Engine}    (hm : m76 n = some rz1) : Trip Tryz.prog 76 #[] ([] ++ [C]) (fun u S' => ∃ (eb1 : Nat), ∃ (ev1 : Value), ∃ (eg1 : List Chunk), ∃ (ev2 : Value), ∃ (eg2 : List Chunk), ∃ (ev3 : Value), ∃ (eg3 : List Chunk), .pointer (some ⟨eb1, 0, none⟩) = u ∧ S' = [[(eb1, .cells (Engine.enc (ev1) (ev2) (ev3) rz1).toArray 187 (0, 0))], eg1, eg2, eg3] ++ [C] ∧ Own rStr ev1 rz1.line_ eg1 ∧ Own rInt ev2 rz1.sum eg2 ∧ Own rInt ev3 rz1.nxt eg3) := by
  refine fn_entry (args := []) Tryz.func76 rfl Tryz.ntmps76 rfl (fun w0 => ?_)
  refine c_seq ?_
  refine c_region ?_
  refine o_L (y_assign rfl) rfl rfl ?_
  refine o_nil0 rfl ?_
  refine c_seq ?_
  refine c_region ?_
  refine o_T (y_build st_187 rfl fbU0) rfl ?_
  refine o_box rfl rfl rfl rfl (fun b1 => ?_)
  have ho1 : Own rStr (.slice none 0 0) [] [] := Own.nil
  refine o_emp ?_
  have ho2 : Own rInt (.slice none 0 0) [] [] := Own.nil
  refine o_emp ?_
  have ho3 : Own rInt (.slice none 0 0) [] [] := Own.nil
  refine o_emp ?_
  refine o_L (y_assign rfl) rfl rfl ?_
  refine o_nil0 rfl ?_
  refine c_ret ?_
  obtain rfl := p1 hm
  refine fun aX wX heX hsX => ret1 Tryz.results76 heX rfl (s_get (ks (ks (ks k0))) (s_get (ks (ks k0)) (s_get (ks k0) (s_take (s_take s_nil))))) ?_
  exact ⟨b1, (.slice none 0 0), _, (.slice none 0 0), _, (.slice none 0 0), _, rfl, rfl, (ho1.to (by rfl)), (ho2.to (by rfl)), (ho3.to (by rfl))⟩
end Go.Proofs.Qxb6500350aGreat
