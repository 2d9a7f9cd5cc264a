/- MADE BY PROGRAM (tools350/mir.py): mirror and walk. -/
import Derived.Test.Qxb6500350aGreatF2
set_option linter.unusedVariables false
set_option linter.unusedSimpArgs false
set_option maxRecDepth 20000
set_option maxHeartbeats 4000000
namespace Go.Proofs.Qxb6500350aGreat
open Go.Eng

/- repom.New -/
def m10 (n : Nat) : Option (RepoM) :=
some ({ RepoM.zero with nxt := 1, head := ({ Head.zero with name := [109, 97, 105, 110] }), room := 46 })
theorem t10 {n : Nat} {C : List Chunk} {rz1 : RepoM}    (hm : m10 n = some rz1) : Trip Tryz.prog 10 #[] ([] ++ [C]) (fun u S' => ∃ (eb1 : Nat), ∃ (ev1 : Value), ∃ (eg1 : List Chunk), ∃ (ev2 : Value), ∃ (eg2 : List Chunk), ∃ (ev3 : Value), ∃ (eg3 : List Chunk), ∃ (ev4 : Value), ∃ (eg4 : List Chunk), .pointer (some ⟨eb1, 0, none⟩) = u ∧ S' = [[(eb1, .cells (RepoM.enc (ev1) (ev2) (ev3) (ev4) rz1).toArray 59 (0, 0))], eg1, eg2, eg3, eg4] ++ [C] ∧ Own rNode ev1 rz1.nodes eg1 ∧ Own rRef_ ev2 rz1.refs eg2 ∧ Own rFile ev3 rz1.index eg3 ∧ Own rFile ev4 rz1.work eg4) := by
  refine fn_entry (args := []) Tryz.func10 rfl Tryz.ntmps10 rfl (fun w0 => ?_)
  refine c_seq ?_
  refine c_region ?_
  refine o_L (y_assign rfl) rfl rfl ?_
  refine o_nil0 rfl ?_
  refine c_seq ?_
  refine c_region ?_
  refine o_T (y_build st_54 rfl (fbU rfl Head.u_name rfl rfl fbU0)) rfl ?_
  refine o_T (y_build st_59 rfl (fbU rfl RepoM.u_nxt rfl rfl (fbU rfl RepoM.u_head rfl rfl (fbU rfl RepoM.u_room rfl rfl fbU0)))) rfl ?_
  refine o_box rfl rfl rfl rfl (fun b1 => ?_)
  have ho1 : Own rNode (.slice none 0 0) [] [] := Own.nil
  refine o_emp ?_
  have ho2 : Own rRef_ (.slice none 0 0) [] [] := Own.nil
  refine o_emp ?_
  have ho3 : Own rFile (.slice none 0 0) [] [] := Own.nil
  refine o_emp ?_
  have ho4 : Own rFile (.slice none 0 0) [] [] := Own.nil
  refine o_emp ?_
  refine o_L (y_assign rfl) rfl rfl ?_
  refine o_nil0 rfl ?_
  refine c_ret ?_
  obtain rfl := p1 hm
  refine fun aX wX heX hsX => ret1 Tryz.results10 heX rfl (s_get (ks (ks (ks (ks k0)))) (s_get (ks (ks (ks k0))) (s_get (ks (ks k0)) (s_get (ks k0) (s_take (s_take s_nil)))))) ?_
  exact ⟨b1, (.slice none 0 0), _, (.slice none 0 0), _, (.slice none 0 0), _, (.slice none 0 0), _, rfl, rfl, (ho1.to (by rfl)), (ho2.to (by rfl)), (ho3.to (by rfl)), (ho4.to (by rfl))⟩
end Go.Proofs.Qxb6500350aGreat
