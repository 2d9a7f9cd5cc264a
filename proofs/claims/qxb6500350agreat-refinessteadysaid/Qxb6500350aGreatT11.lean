/- MADE BY PROGRAM (tools350/mir.py): mirror and walk. -/
import Derived.Test.Qxb6500350aGreatF2
set_option linter.unusedVariables false
set_option linter.unusedSimpArgs false
set_option maxRecDepth 20000
set_option maxHeartbeats 4000000
namespace Go.Proofs.Qxb6500350aGreat
open Go.Eng

/- (*repom.Repo).Lax -/
def m11 (n : Nat) (m : RepoM) : Option (RepoM) :=
nm ({ m with lax := true } : RepoM) fun z1 =>
some z1
theorem t11 {n : Nat} {C : List Chunk} {rz1 : RepoM} {b1 : Nat} {m : RepoM} {v1 : Value} {g1 : List Chunk} {v2 : Value} {g2 : List Chunk} {v3 : Value} {g3 : List Chunk} {v4 : Value} {g4 : List Chunk} (ho1 : Own rNode v1 m.nodes g1) (ho2 : Own rRef_ v2 m.refs g2) (ho3 : Own rFile v3 m.index g3) (ho4 : Own rFile v4 m.work g4)  (hm : m11 n m = some rz1) : Trip Tryz.prog 11 #[.pointer (some ⟨b1, 0, none⟩)] ([[(b1, .cells (RepoM.enc (v1) (v2) (v3) (v4) m).toArray 59 (0, 0))], g1, g2, g3, g4] ++ [C]) (fun u S' => .tuple #[] = u ∧ S' = [[(b1, .cells (RepoM.enc (v1) (v2) (v3) (v4) rz1).toArray 59 (0, 0))], g1, g2, g3, g4] ++ [C] ∧ Own rNode v1 rz1.nodes g1 ∧ Own rRef_ v2 rz1.refs g2 ∧ Own rFile v3 rz1.index g3 ∧ Own rFile v4 rz1.work g4) := by
  refine fn_entry (args := [.pointer (some ⟨b1, 0, none⟩)]) Tryz.func11 rfl Tryz.ntmps11 rfl (fun w0 => ?_)
  refine c_region ?_
  refine o_T (y_move rfl) rfl ?_
  refine o_T (y_nilck rfl) rfl ?_
  refine o_T (y_fa fl_59_7 rfl) rfl ?_
  obtain ⟨z1, hn1, hm⟩ := nm_s hm
  have ho5 := ho1.to (l' := z1.nodes) (by subst hn1; rfl)
  have ho6 := ho2.to (l' := z1.refs) (by subst hn1; rfl)
  have ho7 := ho3.to (l' := z1.index) (by subst hn1; rfl)
  have ho8 := ho4.to (l' := z1.work) (by subst hn1; rfl)
  refine o_stN one_4 rfl rfl rfl (Upd.z RepoM.u_lax) r0 (show (RepoM.enc (v1) (v2) (v3) (v4) z1) = _ from by subst hn1; rfl) ?_
  refine o_nil0 rfl ?_
  obtain rfl := p1 hm
  refine fun aX wX heX hsX => ret0 Tryz.results11 (s_take (s_take (s_take (s_take (s_take (s_take s_nil)))))) ?_
  exact ⟨rfl, rfl, ho5, ho6, ho7, ho8⟩
end Go.Proofs.Qxb6500350aGreat
