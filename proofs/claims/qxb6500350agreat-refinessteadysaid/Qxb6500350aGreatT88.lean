/- MADE BY PROGRAM (tools350/mir.py): mirror and walk. -/
import Derived.Test.Qxb6500350aGreatF2
import Derived.Test.Qxb6500350aGreatT182
set_option linter.unusedVariables false
set_option linter.unusedSimpArgs false
set_option maxRecDepth 20000
set_option maxHeartbeats 4000000
namespace Go.Proofs.Qxb6500350aGreat
open Go.Eng

/- (*repo.Repo).Next -/
def m88 (n : Nat) (r : RepoR) (g : Graph) : Option (Int) :=
ob1 (m182 n g) fun c1 =>
some c1
theorem t88 {n : Nat} {C : List Chunk} {rc1 : Int} {b1 : Nat} {r : RepoR} {b2 : Nat} {g : Graph} {q1 : Option Addr} {q2 : Option Addr} {q3 : Option Addr}   (hm : m88 n r g = some rc1) : Trip Tryz.prog 88 #[.pointer (some ⟨b1, 0, none⟩)] ([[(b1, .cells (RepoR.enc (.pointer (some ⟨b2, 0, none⟩)) ((.pointer q2)) ((.pointer q3)) r).toArray 130 (0, 0))], [(b2, .cells (Graph.enc ((.pointer q1)) g).toArray 179 (0, 0))]] ++ [C]) (fun u S' => .int .i64 rc1 = u ∧ S' = [[(b1, .cells (RepoR.enc (.pointer (some ⟨b2, 0, none⟩)) ((.pointer q2)) ((.pointer q3)) r).toArray 130 (0, 0))], [(b2, .cells (Graph.enc ((.pointer q1)) g).toArray 179 (0, 0))]] ++ [C]) := by
  refine fn_entry (args := [.pointer (some ⟨b1, 0, none⟩)]) Tryz.func88 rfl Tryz.ntmps88 rfl (fun w0 => ?_)
  refine c_seq ?_
  refine c_region ?_
  refine o_L (y_assign rfl) rfl rfl ?_
  refine o_nil0 rfl ?_
  refine c_seq ?_
  refine c_region ?_
  refine o_T (y_move rfl) rfl ?_
  refine o_T (y_nilck rfl) rfl ?_
  refine o_T (y_fa fl_130_0 rfl) rfl ?_
  refine o_ld one_30 rfl m0 (At.got (At.refl.comp RepoR.a_g)) rfl ?_
  obtain ⟨c1, hx1, hm⟩ := bd1 hm
  refine o_callC en_182 rfl (s_skip (s_take s_nil)) (t182 hx1) rfl (fun u1 S1 hR1 => ?_)
  obtain ⟨rfl, rfl⟩ := hR1
  refine o_rest ?_
  refine o_L (y_assign rfl) rfl rfl ?_
  refine o_nil0 rfl ?_
  refine c_ret ?_
  obtain rfl := p1 hm
  refine fun aX wX heX hsX => ret1 Tryz.results88 heX rfl (s_get (ks k0) (s_take (s_take s_nil))) ?_
  exact ⟨rfl, rfl⟩
end Go.Proofs.Qxb6500350aGreat
