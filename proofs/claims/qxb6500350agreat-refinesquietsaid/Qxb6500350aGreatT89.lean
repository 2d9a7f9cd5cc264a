/- MADE BY PROGRAM (tools350/mir.py): mirror and walk. -/
import Derived.Test.Qxb6500350aGreatF2
import Derived.Test.Qxb6500350aGreatT126
set_option linter.unusedVariables false
set_option linter.unusedSimpArgs false
set_option maxRecDepth 20000
set_option maxHeartbeats 4000000
namespace Go.Proofs.Qxb6500350aGreat
open Go.Eng

/- (*repo.Repo).Head -/
def m89 (n : Nat) (r : RepoR) (g : Graph) : Option (Head) :=
ob1 (m126 n g) fun x1 =>
nm (x1 : Head) fun z1 =>
some z1
theorem t89 {n : Nat} {C : List Chunk} {rx1 : Head} {b1 : Nat} {r : RepoR} {b2 : Nat} {g : Graph} {q1 : Option Addr} {q2 : Option Addr} {q3 : Option Addr}   (hm : m89 n r g = some rx1) : Trip Tryz.prog 89 #[.pointer (some ⟨b1, 0, none⟩)] ([[(b1, .cells (RepoR.enc (.pointer (some ⟨b2, 0, none⟩)) ((.pointer q2)) ((.pointer q3)) r).toArray 130 (0, 0))], [(b2, .cells (Graph.enc ((.pointer q1)) g).toArray 179 (0, 0))]] ++ [C]) (fun u S' => .agg (Head.enc rx1).toArray = u ∧ S' = [[(b1, .cells (RepoR.enc (.pointer (some ⟨b2, 0, none⟩)) ((.pointer q2)) ((.pointer q3)) r).toArray 130 (0, 0))], [(b2, .cells (Graph.enc ((.pointer q1)) g).toArray 179 (0, 0))]] ++ [C]) := by
  refine fn_entry (args := [.pointer (some ⟨b1, 0, none⟩)]) Tryz.func89 rfl Tryz.ntmps89 rfl (fun w0 => ?_)
  refine c_seq ?_
  refine c_region ?_
  refine o_alloc ze_54 rfl rfl (fun b3 => ?_)
  refine o_nil0 rfl ?_
  refine c_seq ?_
  refine c_region ?_
  refine o_T (y_move rfl) rfl ?_
  refine o_T (y_nilck rfl) rfl ?_
  refine o_T (y_fa fl_130_0 rfl) rfl ?_
  refine o_ld one_30 rfl (ms m0) (At.got (At.refl.comp RepoR.a_g)) rfl ?_
  obtain ⟨x1, hx1, hm⟩ := bd1 hm
  refine o_callC en_126 rfl (s_skip (s_skip (s_take s_nil))) (t126 hx1) rfl (fun u1 S1 hR1 => ?_)
  obtain ⟨rfl, rfl⟩ := hR1
  refine o_rest ?_
  obtain ⟨z1, hn1, hm⟩ := nm_s hm
  refine o_stNA ag_54 rfl rfl (Head.plain _) (Head.len _) (Upd.refl ((Head.len _).trans (Head.len _).symm)) (rs r0) (show (Head.enc z1) = _ from by subst hn1; rfl) ?_
  refine o_nil0 rfl ?_
  refine c_ret ?_
  obtain rfl := p1 hm
  refine fun aX wX heX hsX => retc Tryz.results89 heX hsX rfl ag_54 (ms m0) (by simp [Head.len]) (s_get (ks (ks k0)) (s_take (s_skip (s_take s_nil)))) ?_
  exact ⟨rfl, rfl⟩
end Go.Proofs.Qxb6500350aGreat
