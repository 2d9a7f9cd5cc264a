/- MADE BY PROGRAM (tools350/mir.py): mirror and walk. -/
import Derived.Test.Qxb6500350aGreatF2
import Derived.Test.Qxb6500350aGreatT89
import Derived.Test.Qxb6500350aGreatT90
set_option linter.unusedVariables false
set_option linter.unusedSimpArgs false
set_option maxRecDepth 20000
set_option maxHeartbeats 4000000
namespace Go.Proofs.Qxb6500350aGreat
open Go.Eng

/- towerlaw.SameHead -/
def m33 (n : Nat) (r : RepoR) (g : Graph) (m : RepoM) : Option (Bool) :=
ob1 (m89 n r g) fun x1 =>
nm (x1 : Head) fun z1 =>
ob1 (m90 n m) fun x2 =>
nm (x2 : Head) fun z2 =>
some (decide (z1 = z2))
theorem t33 {n : Nat} {C : List Chunk} {rc1 : Bool} {b1 : Nat} {r : RepoR} {b2 : Nat} {g : Graph} {q1 : Option Addr} {q2 : Option Addr} {q3 : Option Addr} {b3 : Nat} {m : RepoM} {v1 : Value} {g1 : List Chunk} {v2 : Value} {g2 : List Chunk} {v3 : Value} {g3 : List Chunk} {v4 : Value} {g4 : List Chunk} (ho1 : Own rNode v1 m.nodes g1) (ho2 : Own rRef_ v2 m.refs g2) (ho3 : Own rFile v3 m.index g3) (ho4 : Own rFile v4 m.work g4)  (hm : m33 n r g m = some rc1) : Trip Tryz.prog 33 #[.pointer (some ⟨b1, 0, none⟩), .pointer (some ⟨b3, 0, none⟩)] ([[(b1, .cells (RepoR.enc (.pointer (some ⟨b2, 0, none⟩)) ((.pointer q2)) ((.pointer q3)) r).toArray 130 (0, 0))], [(b2, .cells (Graph.enc ((.pointer q1)) g).toArray 179 (0, 0))], [(b3, .cells (RepoM.enc (v1) (v2) (v3) (v4) m).toArray 59 (0, 0))], g1, g2, g3, g4] ++ [C]) (fun u S' => .bool rc1 = u ∧ S' = [[(b1, .cells (RepoR.enc (.pointer (some ⟨b2, 0, none⟩)) ((.pointer q2)) ((.pointer q3)) r).toArray 130 (0, 0))], [(b2, .cells (Graph.enc ((.pointer q1)) g).toArray 179 (0, 0))], [(b3, .cells (RepoM.enc (v1) (v2) (v3) (v4) m).toArray 59 (0, 0))], g1, g2, g3, g4] ++ [C]) := by
  refine fn_entry (args := [.pointer (some ⟨b1, 0, none⟩), .pointer (some ⟨b3, 0, none⟩)]) Tryz.func33 rfl Tryz.ntmps33 rfl (fun w0 => ?_)
  refine c_seq ?_
  refine c_region ?_
  refine o_L (y_assign rfl) rfl rfl ?_
  refine o_nil0 rfl ?_
  refine c_seq ?_
  refine c_region ?_
  refine o_T (y_move rfl) rfl ?_
  obtain ⟨x1, hx1, hm⟩ := bd1 hm
  refine o_callC en_89 rfl (s_take (s_take s_nil)) (t89 hx1) rfl (fun u1 S1 hR1 => ?_)
  obtain ⟨rfl, rfl⟩ := hR1
  refine o_rest ?_
  refine o_alloc ze_54 rfl rfl (fun b4 => ?_)
  obtain ⟨z1, hn1, hm⟩ := nm_s hm
  refine o_stNA ag_54 rfl rfl (Head.plain _) (Head.len _) (Upd.refl ((Head.len _).trans (Head.len _).symm)) r0 (show (Head.enc z1) = _ from by subst hn1; rfl) ?_
  refine o_nil0 rfl ?_
  refine c_seq ?_
  refine c_region ?_
  refine o_T (y_move rfl) rfl ?_
  obtain ⟨x2, hx2, hm⟩ := bd1 hm
  refine o_callC en_90 rfl (s_skip (s_skip (s_skip (s_take (s_take (s_take (s_take (s_take s_nil)))))))) (t90 ho1 ho2 ho3 ho4 hx2) rfl (fun u2 S2 hR2 => ?_)
  obtain ⟨rfl, rfl⟩ := hR2
  refine o_rest ?_
  refine o_alloc ze_54 rfl rfl (fun b5 => ?_)
  obtain ⟨z2, hn2, hm⟩ := nm_s hm
  refine o_stNA ag_54 rfl rfl (Head.plain _) (Head.len _) (Upd.refl ((Head.len _).trans (Head.len _).symm)) r0 (show (Head.enc z2) = _ from by subst hn2; rfl) ?_
  refine o_nil0 rfl ?_
  refine c_seq ?_
  refine c_region ?_
  refine o_lda ag_54 rfl (ms (ms (ms (ms (ms (ms m0)))))) (At.exs At.refl (Head.len _)) (At.fits At.refl (Head.len _)) rfl ?_
  refine o_lda ag_54 rfl m0 (At.exs At.refl (Head.len _)) (At.fits At.refl (Head.len _)) rfl ?_
  refine o_T (y_aeq_54 rfl rfl) rfl ?_
  refine o_L (y_assign rfl) rfl rfl ?_
  refine o_nil0 rfl ?_
  refine c_ret ?_
  obtain rfl := p1 hm
  refine fun aX wX heX hsX => ret1 Tryz.results33 heX rfl (s_skip (s_get (ks (ks (ks (ks (ks (ks k0)))))) (s_get (ks (ks (ks (ks (ks (ks k0)))))) (s_take (s_take (s_take (s_take (s_take (s_skip (s_take s_nil)))))))))) ?_
  exact ⟨rfl, rfl⟩
end Go.Proofs.Qxb6500350aGreat
