/- MADE BY PROGRAM (tools350/mir.py): mirror and walk. -/
import Derived.Test.Qxb6500350aGreatF2
import Derived.Test.Qxb6500350aGreatT46
set_option linter.unusedVariables false
set_option linter.unusedSimpArgs false
set_option maxRecDepth 20000
set_option maxHeartbeats 4000000
namespace Go.Proofs.Qxb6500350aGreat
open Go.Eng

/- (*tree.Trees).Free -/
def m239 (n : Nat) (t : Trees) (s : Store) : Option (Int) :=
ob1 (m46 n s) fun c1 =>
some c1
theorem t239 {n : Nat} {C : List Chunk} {rc1 : Int} {b1 : Nat} {t : Trees} {b2 : Nat} {s : Store} {q1 : Option Addr}   (hm : m239 n t s = some rc1) : Trip Tryz.prog 239 #[.pointer (some ⟨b1, 0, none⟩)] ([[(b1, .cells (Trees.enc (.pointer (some ⟨b2, 0, none⟩)) t).toArray 169 (0, 0))], [(b2, .cells (Store.enc ((.pointer q1)) s).toArray 126 (0, 0))]] ++ [C]) (fun u S' => .int .i64 rc1 = u ∧ S' = [[(b1, .cells (Trees.enc (.pointer (some ⟨b2, 0, none⟩)) t).toArray 169 (0, 0))], [(b2, .cells (Store.enc ((.pointer q1)) s).toArray 126 (0, 0))]] ++ [C]) := by
  refine fn_entry (args := [.pointer (some ⟨b1, 0, none⟩)]) Tryz.func239 rfl Tryz.ntmps239 rfl (fun w0 => ?_)
  refine c_seq ?_
  refine c_region ?_
  refine o_L (y_assign rfl) rfl rfl ?_
  refine o_nil0 rfl ?_
  refine c_seq ?_
  refine c_region ?_
  refine o_T (y_move rfl) rfl ?_
  refine o_T (y_nilck rfl) rfl ?_
  refine o_T (y_fa fl_169_0 rfl) rfl ?_
  refine o_ld one_28 rfl m0 (At.got (At.refl.comp Trees.a_o)) rfl ?_
  obtain ⟨c1, hx1, hm⟩ := bd1 hm
  refine o_callC en_46 rfl (s_skip (s_take s_nil)) (t46 hx1) rfl (fun u1 S1 hR1 => ?_)
  obtain ⟨rfl, rfl⟩ := hR1
  refine o_rest ?_
  refine o_L (y_assign rfl) rfl rfl ?_
  refine o_nil0 rfl ?_
  refine c_ret ?_
  obtain rfl := p1 hm
  refine fun aX wX heX hsX => ret1 Tryz.results239 heX rfl (s_get (ks k0) (s_take (s_take s_nil))) ?_
  exact ⟨rfl, rfl⟩
end Go.Proofs.Qxb6500350aGreat
