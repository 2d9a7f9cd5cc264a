/- MADE BY PROGRAM (tools350/mir.py): mirror and walk. -/
import Derived.Test.Qxb6500350aGreatF2
import Derived.Test.Qxb6500350aGreatT12
import Derived.Test.Qxb6500350aGreatT71
set_option linter.unusedVariables false
set_option linter.unusedSimpArgs false
set_option maxRecDepth 20000
set_option maxHeartbeats 4000000
namespace Go.Proofs.Qxb6500350aGreat
open Go.Eng

/- (*repom.Repo).Crashed -/
def m22 (n : Nat) (m : RepoM) : Option (RepoM) :=
ob1 (m12 n m) fun z1 =>
ob1 (m71 n z1.index) fun l1 =>
nm ({ z1 with work := l1 } : RepoM) fun z2 =>
some z2
theorem t22 {n : Nat} {C : List Chunk} {rz1 : RepoM} {b1 : Nat} {m : RepoM} {v1 : Value} {g1 : List Chunk} {v2 : Value} {g2 : List Chunk} {v3 : Value} {g3 : List Chunk} {v4 : Value} {g4 : List Chunk} (ho1 : Own rNode v1 m.nodes g1) (ho2 : Own rRef_ v2 m.refs g2) (ho3 : Own rFile v3 m.index g3) (ho4 : Own rFile v4 m.work g4)  (hm : m22 n m = some rz1) : Trip Tryz.prog 22 #[.pointer (some ⟨b1, 0, none⟩)] ([[(b1, .cells (RepoM.enc (v1) (v2) (v3) (v4) m).toArray 59 (0, 0))], g1, g2, g3, g4] ++ [C]) (fun u S' => ∃ (eb1 : Nat), ∃ (ev1 : Value), ∃ (eg1 : List Chunk), ∃ (ev2 : Value), ∃ (eg2 : List Chunk), ∃ (ev3 : Value), ∃ (eg3 : List Chunk), ∃ (ev4 : Value), ∃ (eg4 : List Chunk), .pointer (some ⟨eb1, 0, none⟩) = u ∧ S' = [[(b1, .cells (RepoM.enc (v1) (v2) (v3) (v4) m).toArray 59 (0, 0))], g1, g2, g3, g4, [(eb1, .cells (RepoM.enc (ev1) (ev2) (ev3) (ev4) rz1).toArray 59 (0, 0))], eg1, eg2, eg3, eg4] ++ [C] ∧ Own rNode ev1 rz1.nodes eg1 ∧ Own rRef_ ev2 rz1.refs eg2 ∧ Own rFile ev3 rz1.index eg3 ∧ Own rFile ev4 rz1.work eg4) := by
  refine fn_entry (args := [.pointer (some ⟨b1, 0, none⟩)]) Tryz.func22 rfl Tryz.ntmps22 rfl (fun w0 => ?_)
  refine c_seq ?_
  refine c_region ?_
  refine o_L (y_assign rfl) rfl rfl ?_
  refine o_nil0 rfl ?_
  refine c_seq ?_
  refine c_region ?_
  refine o_T (y_move rfl) rfl ?_
  obtain ⟨z1, hx1, hm⟩ := bd1 hm
  refine o_callC en_12 rfl (s_take (s_take (s_take (s_take (s_take s_nil))))) (t12 ho1 ho2 ho3 ho4 hx1) rfl (fun u1 S1 hR1 => ?_)
  obtain ⟨b2, v5, g5, v6, g6, v7, g7, v8, g8, rfl, rfl, ho5, ho6, ho7, ho8⟩ := hR1
  refine o_rest ?_
  refine o_L (y_assign rfl) rfl rfl ?_
  refine o_nil0 rfl ?_
  refine c_seq ?_
  refine c_region ?_
  refine o_T (y_move rfl) rfl ?_
  refine o_T (y_move rfl) rfl ?_
  refine o_T (y_nilck rfl) rfl ?_
  refine o_T (y_fa fl_59_4 rfl) rfl ?_
  refine o_ld one_57 rfl (ms (ms (ms (ms (ms m0))))) (At.got (At.refl.comp RepoM.a_index)) rfl ?_
  obtain ⟨l1, hx2, hm⟩ := bd1 hm
  refine o_callC en_71 rfl s_nil (t71 (ho7.rd.mono (fun _ hz => (ms (ms (ms (ms (ms (ms (ms (ms (mg hz))))))))))) hx2) rfl (fun u2 S2 hR2 => ?_)
  obtain ⟨v9, g9, rfl, rfl, ho9⟩ := hR2
  refine o_rest ?_
  refine o_T (y_nilck rfl) rfl ?_
  refine o_T (y_fa fl_59_5 rfl) rfl ?_
  obtain ⟨z2, hn1, hm⟩ := nm_s hm
  have ho10 := ho5.to (l' := z2.nodes) (by subst hn1; rfl)
  have ho11 := ho6.to (l' := z2.refs) (by subst hn1; rfl)
  have ho12 := ho7.to (l' := z2.index) (by subst hn1; rfl)
  have ho13 := ho9.to (l' := z2.work) (by subst hn1; rfl)
  refine o_stN one_57 rfl rfl ho9.pl (Upd.z RepoM.u_work) (rs (rs (rs (rs (rs (rs r0)))))) (show (RepoM.enc (v5) (v6) (v7) (v9) z2) = _ from by subst hn1; rfl) ?_
  refine o_nil0 rfl ?_
  refine c_seq ?_
  refine c_region ?_
  refine o_T (y_move rfl) rfl ?_
  refine o_L (y_assign rfl) rfl rfl ?_
  refine o_nil0 rfl ?_
  refine c_ret ?_
  obtain rfl := p1 hm
  refine fun aX wX heX hsX => ret1 Tryz.results22 heX rfl (s_get (ks k0) (s_get (ks k0) (s_get (ks k0) (s_get (ks k0) (s_get (ks k0) (s_get (ks k0) (s_get (ks k0) (s_get (ks k0) (s_get (ks k0) (s_take (s_skip (s_take s_nil)))))))))))) ?_
  exact ⟨b2, v5, _, v6, _, v7, _, v9, _, rfl, rfl, ho10, ho11, ho12, ho13⟩
end Go.Proofs.Qxb6500350aGreat
