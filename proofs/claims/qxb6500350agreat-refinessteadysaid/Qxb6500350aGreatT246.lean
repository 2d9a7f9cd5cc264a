/- MADE BY PROGRAM (tools350/mir.py): mirror and walk. -/
import Derived.Test.Qxb6500350aGreatF2
set_option linter.unusedVariables false
set_option linter.unusedSimpArgs false
set_option maxRecDepth 20000
set_option maxHeartbeats 4000000
namespace Go.Proofs.Qxb6500350aGreat
open Go.Eng

/- (*objects.Store).Root -/
def m246 (n : Nat) (s : Store) : Option (Int) :=
some s.root
theorem t246 {n : Nat} {C : List Chunk} {rc1 : Int} {b1 : Nat} {s : Store} {q1 : Option Addr}   (hm : m246 n s = some rc1) : Trip Tryz.prog 246 #[.pointer (some ⟨b1, 0, none⟩)] ([[(b1, .cells (Store.enc ((.pointer q1)) s).toArray 126 (0, 0))]] ++ [C]) (fun u S' => .int .i64 rc1 = u ∧ S' = [[(b1, .cells (Store.enc ((.pointer q1)) s).toArray 126 (0, 0))]] ++ [C]) := by
  refine fn_entry (args := [.pointer (some ⟨b1, 0, none⟩)]) Tryz.func246 rfl Tryz.ntmps246 rfl (fun w0 => ?_)
  refine c_seq ?_
  refine c_region ?_
  refine o_L (y_assign rfl) rfl rfl ?_
  refine o_nil0 rfl ?_
  refine c_seq ?_
  refine c_region ?_
  refine o_T (y_move rfl) rfl ?_
  refine o_T (y_nilck rfl) rfl ?_
  refine o_T (y_fa fl_126_5 rfl) rfl ?_
  refine o_ld one_3 rfl m0 (At.got (At.refl.comp Store.a_root)) rfl ?_
  refine o_L (y_assign rfl) rfl rfl ?_
  refine o_nil0 rfl ?_
  refine c_ret ?_
  obtain rfl := p1 hm
  refine fun aX wX heX hsX => ret1 Tryz.results246 heX rfl (s_take (s_take s_nil)) ?_
  exact ⟨rfl, rfl⟩
end Go.Proofs.Qxb6500350aGreat
