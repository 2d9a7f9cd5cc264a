/- MADE BY PROGRAM (tools350/mir.py): mirror and walk. -/
import Derived.Test.Qxb6500350aGreatF2
import Derived.Test.Qxb6500350aGreatT173
import Derived.Test.Qxb6500350aGreatT174
set_option linter.unusedVariables false
set_option linter.unusedSimpArgs false
set_option maxRecDepth 20000
set_option maxHeartbeats 4000000
namespace Go.Proofs.Qxb6500350aGreat
open Go.Eng

/- (*repo.Repo).take -/
def m155 (n : Nat) (r : RepoR) (x : Index) (l : (List File)) : Option (RepoR × Index) :=
ob2 (m173 n x l) fun c1 z1 =>
ob1 (m174 n r l) fun z2 =>
some (z2, z1)
theorem t155 {n : Nat} {C : List Chunk} {rz1 : RepoR} {rz2 : Index} {b1 : Nat} {r : RepoR} {q1 : Option Addr} {b2 : Nat} {x : Index} {q2 : Option Addr} {v1 : Value} {l : (List File)} (hr1 : Rd rFile C v1 l)  (hm : m155 n r x l = some (rz1, rz2)) : Trip Tryz.prog 155 #[.pointer (some ⟨b1, 0, none⟩), v1] ([[(b1, .cells (RepoR.enc ((.pointer q1)) (.pointer (some ⟨b2, 0, none⟩)) ((.pointer q2)) r).toArray 130 (0, 0))], [(b2, .cells (Index.enc x).toArray 184 (0, 0))]] ++ [C]) (fun u S' => .tuple #[] = u ∧ S' = [[(b1, .cells (RepoR.enc ((.pointer q1)) (.pointer (some ⟨b2, 0, none⟩)) ((.pointer q2)) rz1).toArray 130 (0, 0))], [(b2, .cells (Index.enc rz2).toArray 184 (0, 0))]] ++ [C]) := by
  refine fn_entry (args := [.pointer (some ⟨b1, 0, none⟩), v1]) Tryz.func155 rfl Tryz.ntmps155 rfl (fun w0 => ?_)
  refine c_seq ?_
  refine c_region ?_
  refine o_T (y_move rfl) rfl ?_
  refine o_T (y_nilck rfl) rfl ?_
  refine o_T (y_fa fl_130_1 rfl) rfl ?_
  refine o_ld one_31 rfl m0 (At.got (At.refl.comp RepoR.a_x)) rfl ?_
  refine o_T (y_move rfl) rfl ?_
  obtain ⟨c1, z1, hx1, hm⟩ := bd2 hm
  refine o_callC en_173 rfl (s_skip (s_take s_nil)) (t173 (hr1.mono (fun _ hz => (ms (mg hz)))) hx1) rfl (fun u1 S1 hR1 => ?_)
  obtain ⟨rfl, rfl⟩ := hR1
  refine o_rest ?_
  refine o_nil0 rfl ?_
  refine c_region ?_
  refine o_T (y_move rfl) rfl ?_
  refine o_T (y_move rfl) rfl ?_
  obtain ⟨z2, hx2, hm⟩ := bd1 hm
  refine o_callC en_174 rfl (s_skip (s_take s_nil)) (t174 (hr1.mono (fun _ hz => (ms (mg hz)))) hx2) rfl (fun u2 S2 hR2 => ?_)
  obtain ⟨rfl, rfl⟩ := hR2
  refine o_rest ?_
  refine o_nil0 rfl ?_
  obtain ⟨rfl, rfl⟩ := pr2 hm
  refine fun aX wX heX hsX => ret0 Tryz.results155 (s_take (s_take (s_take s_nil))) ?_
  exact ⟨rfl, rfl⟩
end Go.Proofs.Qxb6500350aGreat
