/- MADE BY PROGRAM (tools350/mir.py): mirror and walk. -/
import Derived.Test.Qxb6500350aGreatF2
import Derived.Test.Qxb6500350aGreatT178
import Derived.Test.Qxb6500350aGreatT179
set_option linter.unusedVariables false
set_option linter.unusedSimpArgs false
set_option maxRecDepth 20000
set_option maxHeartbeats 4000000
namespace Go.Proofs.Qxb6500350aGreat
open Go.Eng

/- (*repo.Repo).clean -/
def m148 (n : Nat) (r : RepoR) (x : Index) (here : (List File)) : Option (Bool) :=
ob1 (m178 n r) fun l1 =>
ob2 (m179 n x here l1) fun l2 c1 =>
some (decide ((l2.length : Int) = 0))
theorem t148 {n : Nat} {C : List Chunk} {rc1 : Bool} {b1 : Nat} {r : RepoR} {q1 : Option Addr} {b2 : Nat} {x : Index} {q2 : Option Addr} {v1 : Value} {here : (List File)} (hr1 : Rd rFile C v1 here)  (hm : m148 n r x here = some rc1) : Trip Tryz.prog 148 #[.pointer (some ⟨b1, 0, none⟩), v1] ([[(b1, .cells (RepoR.enc ((.pointer q1)) (.pointer (some ⟨b2, 0, none⟩)) ((.pointer q2)) r).toArray 130 (0, 0))], [(b2, .cells (Index.enc x).toArray 184 (0, 0))]] ++ [C]) (fun u S' => .bool rc1 = u ∧ S' = [[(b1, .cells (RepoR.enc ((.pointer q1)) (.pointer (some ⟨b2, 0, none⟩)) ((.pointer q2)) r).toArray 130 (0, 0))], [(b2, .cells (Index.enc x).toArray 184 (0, 0))]] ++ [C]) := by
  refine fn_entry (args := [.pointer (some ⟨b1, 0, none⟩), v1]) Tryz.func148 rfl Tryz.ntmps148 rfl (fun w0 => ?_)
  refine c_seq ?_
  refine c_region ?_
  refine o_L (y_assign rfl) rfl rfl ?_
  refine o_nil0 rfl ?_
  refine c_seq ?_
  refine c_region ?_
  refine o_T (y_move rfl) rfl ?_
  obtain ⟨l1, hx1, hm⟩ := bd1 hm
  refine o_callC en_178 rfl (s_take s_nil) (t178 hx1) rfl (fun u1 S1 hR1 => ?_)
  obtain ⟨v2, g1, rfl, rfl, ho1⟩ := hR1
  refine o_rest ?_
  refine o_L (y_assign rfl) rfl rfl ?_
  refine o_nil0 rfl ?_
  refine c_seq ?_
  refine c_region ?_
  refine o_T (y_move rfl) rfl ?_
  refine o_T (y_nilck rfl) rfl ?_
  refine o_T (y_fa fl_130_1 rfl) rfl ?_
  refine o_ld one_31 rfl m0 (At.got (At.refl.comp RepoR.a_x)) rfl ?_
  refine o_T (y_move rfl) rfl ?_
  refine o_T (y_move rfl) rfl ?_
  obtain ⟨l2, c1, hx2, hm⟩ := bd2 hm
  refine o_callC en_179 rfl (s_skip (s_skip (s_take s_nil))) (t179 (hr1.mono (fun _ hz => (ms (ms (mg hz))))) (ho1.rd.mono (fun _ hz => (ms (mg hz)))) hx2) rfl (fun u2 S2 hR2 => ?_)
  obtain ⟨v3, g2, rfl, rfl, ho2⟩ := hR2
  refine o_rest ?_
  refine o_T (y_move rfl) rfl ?_
  refine o_T (y_extract rfl rfl) rfl ?_
  refine o_T (y_extract rfl rfl) rfl ?_
  refine o_L (y_assign rfl) rfl rfl ?_
  refine o_L (y_assign rfl) rfl rfl ?_
  refine o_nil0 rfl ?_
  refine c_seq ?_
  refine c_region ?_
  refine o_T (y_move rfl) rfl ?_
  refine o_T (y_lenR ho2.rd Tryz.underlying99 rfl) rfl ?_
  refine o_T (y_eql rfl rfl) rfl ?_
  refine o_L (y_assign rfl) rfl rfl ?_
  refine o_nil0 rfl ?_
  refine c_ret ?_
  obtain rfl := p1 hm
  refine fun aX wX heX hsX => ret1 Tryz.results148 heX rfl (s_get (ks (ks k0)) (s_take (s_skip (s_skip (s_take s_nil))))) ?_
  exact ⟨rfl, rfl⟩
end Go.Proofs.Qxb6500350aGreat
