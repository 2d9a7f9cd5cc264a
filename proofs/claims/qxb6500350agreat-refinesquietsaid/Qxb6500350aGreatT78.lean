/- MADE BY PROGRAM (tools350/mir.py): mirror and walk. -/
import Derived.Test.Qxb6500350aGreatF2
import Derived.Test.Qxb6500350aGreatT27
import Derived.Test.Qxb6500350aGreatT175
set_option linter.unusedVariables false
set_option linter.unusedSimpArgs false
set_option maxRecDepth 20000
set_option maxHeartbeats 4000000
namespace Go.Proofs.Qxb6500350aGreat
open Go.Eng

/- api.CopyNode -/
def m78 (n : Nat) (x_ : Node) : Option (Node) :=
ob1 (m27 n x_.files) fun l1 =>
ob1 (m175 n x_.parents) fun l2 =>
nm (({ seq := x_.seq, files := l1, parents := l2, msg := x_.msg } : Node) : Node) fun z1 =>
some z1
theorem t78 {n : Nat} {C : List Chunk} {rx1 : Node} {x_ : Node} {v1 : Value} {v2 : Value} (hr1 : Rd rFile C v1 x_.files) (hr2 : Rd rInt C v2 x_.parents)  (hm : m78 n x_ = some rx1) : Trip Tryz.prog 78 #[.agg (Node.enc (v1) (v2) x_).toArray] ([] ++ [C]) (fun u S' => ∃ (ev1 : Value), ∃ (eg1 : List Chunk), ∃ (ev2 : Value), ∃ (eg2 : List Chunk), .agg (Node.enc (ev1) (ev2) rx1).toArray = u ∧ S' = [eg1, eg2] ++ [C] ∧ Own rFile ev1 rx1.files eg1 ∧ Own rInt ev2 rx1.parents eg2) := by
  refine fn_entry (args := [.agg (Node.enc (v1) (v2) x_).toArray]) Tryz.func78 rfl Tryz.ntmps78 rfl (fun w0 => ?_)
  refine c_seq ?_
  refine c_region ?_
  refine o_box rfl rfl rfl rfl (fun b1 => ?_)
  refine o_alloc ze_93 rfl rfl (fun b2 => ?_)
  have ho1 : Own rFile (.slice none 0 0) [] [] := Own.nil
  refine o_emp ?_
  have ho2 : Own rInt (.slice none 0 0) [] [] := Own.nil
  refine o_emp ?_
  refine o_nil0 rfl ?_
  refine c_seq ?_
  refine c_region ?_
  refine o_T (y_fa fl_93_1 rfl) rfl ?_
  refine o_ld one_57 rfl (ms (ms (ms m0))) (At.got (At.refl.comp Node.a_files)) rfl ?_
  obtain ⟨l1, hx1, hm⟩ := bd1 hm
  refine o_callC en_27 rfl s_nil (t27 (hr1.mono (fun _ hz => (ms (ms (ms (ms (mg hz))))))) hx1) rfl (fun u1 S1 hR1 => ?_)
  obtain ⟨v3, g1, rfl, rfl, ho3⟩ := hR1
  refine o_rest ?_
  refine o_L (y_assign rfl) rfl rfl ?_
  refine o_nil0 rfl ?_
  refine c_seq ?_
  refine c_region ?_
  refine o_T (y_fa fl_93_2 rfl) rfl ?_
  refine o_ld one_65 rfl (ms (ms (ms (ms m0)))) (At.got (At.refl.comp Node.a_parents)) rfl ?_
  obtain ⟨l2, hx2, hm⟩ := bd1 hm
  refine o_callC en_175 rfl s_nil (t175 (hr2.mono (fun _ hz => (ms (ms (ms (ms (ms (mg hz)))))))) hx2) rfl (fun u2 S2 hR2 => ?_)
  obtain ⟨v4, g2, rfl, rfl, ho4⟩ := hR2
  refine o_rest ?_
  refine o_L (y_assign rfl) rfl rfl ?_
  refine o_nil0 rfl ?_
  refine c_seq ?_
  refine c_region ?_
  refine o_T (y_fa fl_93_0 rfl) rfl ?_
  refine o_ld one_3 rfl (ms (ms (ms (ms (ms m0))))) (At.got (At.refl.comp Node.a_seq)) rfl ?_
  refine o_T (y_move rfl) rfl ?_
  refine o_T (y_move rfl) rfl ?_
  refine o_T (y_fa fl_93_3 rfl) rfl ?_
  refine o_ld one_9 rfl (ms (ms (ms (ms (ms m0))))) (At.got (At.refl.comp Node.a_msg)) rfl ?_
  refine o_T (y_build st_93 rfl (fbU rfl Node.u_seq rfl rfl (fbU rfl Node.u_files (cells1 ho3.pl) rfl (fbU rfl Node.u_parents (cells1 ho4.pl) rfl (fbU rfl Node.u_msg rfl rfl fbU0))))) rfl ?_
  obtain ⟨z1, hn1, hm⟩ := nm_s hm
  have ho5 := ho3.to (l' := z1.files) (by subst hn1; rfl)
  have ho6 := ho4.to (l' := z1.parents) (by subst hn1; rfl)
  refine o_stNA ag_93 rfl rfl (Node.plain ho3.pl ho4.pl _) (Node.len _ _ _) (Upd.refl ((Node.len _ _ _).trans (Node.len _ _ _).symm)) (rs (rs (rs (rs r0)))) (show (Node.enc (v3) (v4) z1) = _ from by subst hn1; rfl) ?_
  refine o_nil0 rfl ?_
  refine c_ret ?_
  obtain rfl := p1 hm
  refine fun aX wX heX hsX => retc Tryz.results78 heX hsX rfl ag_93 (ms (ms (ms (ms m0)))) (by simp [Node.len]) (s_get (ks k0) (s_take (s_skip (s_skip (s_skip (s_skip (s_take s_nil))))))) ?_
  exact ⟨v3, _, v4, _, rfl, rfl, ho5, ho6⟩
end Go.Proofs.Qxb6500350aGreat
