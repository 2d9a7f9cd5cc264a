/- MADE BY PROGRAM (tools350/mir.py): mirror and walk. -/
import Derived.Test.Qxb6500350aGreatF2
import Derived.Test.Qxb6500350aGreatT178
set_option linter.unusedVariables false
set_option linter.unusedSimpArgs false
set_option maxRecDepth 20000
set_option maxHeartbeats 4000000
namespace Go.Proofs.Qxb6500350aGreat
open Go.Eng

/- (*repo.Repo).Work -/
def m98 (n : Nat) (r : RepoR) : Option ((List File)) :=
ob1 (m178 n r) fun l1 =>
some l1
theorem t98 {n : Nat} {C : List Chunk} {rl1 : List File} {b1 : Nat} {r : RepoR} {q1 : Option Addr} {q2 : Option Addr} {q3 : Option Addr}   (hm : m98 n r = some rl1) : Trip Tryz.prog 98 #[.pointer (some ⟨b1, 0, none⟩)] ([[(b1, .cells (RepoR.enc ((.pointer q1)) ((.pointer q2)) ((.pointer q3)) r).toArray 130 (0, 0))]] ++ [C]) (fun u S' => ∃ (ev1 : Value), ∃ (eg1 : List Chunk), ev1 = u ∧ S' = [[(b1, .cells (RepoR.enc ((.pointer q1)) ((.pointer q2)) ((.pointer q3)) r).toArray 130 (0, 0))], eg1] ++ [C] ∧ Own rFile ev1 rl1 eg1) := by
  refine fn_entry (args := [.pointer (some ⟨b1, 0, none⟩)]) Tryz.func98 rfl Tryz.ntmps98 rfl (fun w0 => ?_)
  refine c_seq ?_
  refine c_region ?_
  have ho1 : Own rFile (.slice none 0 0) [] [] := Own.nil
  refine o_emp ?_
  refine o_L (y_assign rfl) rfl rfl ?_
  refine o_nil0 rfl ?_
  refine c_seq ?_
  refine c_region ?_
  refine o_T (y_move rfl) rfl ?_
  obtain ⟨l1, hx1, hm⟩ := bd1 hm
  refine o_callC en_178 rfl (s_skip (s_take s_nil)) (t178 hx1) rfl (fun u1 S1 hR1 => ?_)
  obtain ⟨v1, g1, rfl, rfl, ho2⟩ := hR1
  refine o_rest ?_
  refine o_L (y_assign rfl) rfl rfl ?_
  refine o_nil0 rfl ?_
  refine c_ret ?_
  obtain rfl := p1 hm
  refine fun aX wX heX hsX => ret1 Tryz.results98 heX rfl (s_take (s_take (s_skip (s_take s_nil)))) ?_
  exact ⟨v1, _, rfl, rfl, ho2⟩
end Go.Proofs.Qxb6500350aGreat
