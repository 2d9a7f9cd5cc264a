/- MADE BY PROGRAM (tools350/mir.py): mirror and walk. -/
import Derived.Test.Qxb6500350aGreatF2
import Derived.Test.Qxb6500350aGreatT285
set_option linter.unusedVariables false
set_option linter.unusedSimpArgs false
set_option maxRecDepth 20000
set_option maxHeartbeats 4000000
namespace Go.Proofs.Qxb6500350aGreat
open Go.Eng

/- (*tree.Trees).Commit -/
def m237 (n : Nat) (t : Trees) (s : Store) (d : Dev) (root : Int) : Option (Int × Store × Dev) :=
ob3 (m285 n s d root) fun c1 z1 z2 =>
some (c1, z1, z2)
theorem t237 {n : Nat} {C : List Chunk} {rc1 : Int} {rz1 : Store} {rz2 : Dev} {b1 : Nat} {t : Trees} {b2 : Nat} {s : Store} {b3 : Nat} {d : Dev} {v1 : Value} {g1 : List Chunk} {v2 : Value} {g2 : List Chunk} {v3 : Value} {g3 : List Chunk} {v4 : Value} {g4 : List Chunk} {root : Int} (ho1 : Own rByte v1 d.blk g1) (ho2 : Own rByte v2 d.base g2) (ho3 : Own rInt v3 d.at_ g3) (ho4 : Own rByte v4 d.data g4)  (hm : m237 n t s d root = some (rc1, rz1, rz2)) : Trip Tryz.prog 237 #[.pointer (some ⟨b1, 0, none⟩), .int .i64 root] ([[(b1, .cells (Trees.enc (.pointer (some ⟨b2, 0, none⟩)) t).toArray 169 (0, 0))], [(b2, .cells (Store.enc (.pointer (some ⟨b3, 0, none⟩)) s).toArray 126 (0, 0))], [(b3, .cells (Dev.enc (v1) (v2) (v3) (v4) d).toArray 85 (0, 0))], g1, g2, g3, g4] ++ [C]) (fun u S' => ∃ (ev1 : Value), ∃ (eg1 : List Chunk), ∃ (ev2 : Value), ∃ (eg2 : List Chunk), ∃ (ev3 : Value), ∃ (eg3 : List Chunk), ∃ (ev4 : Value), ∃ (eg4 : List Chunk), .int .i64 rc1 = u ∧ S' = [[(b1, .cells (Trees.enc (.pointer (some ⟨b2, 0, none⟩)) t).toArray 169 (0, 0))], [(b2, .cells (Store.enc (.pointer (some ⟨b3, 0, none⟩)) rz1).toArray 126 (0, 0))], [(b3, .cells (Dev.enc (ev1) (ev2) (ev3) (ev4) rz2).toArray 85 (0, 0))], eg1, eg2, eg3, eg4] ++ [C] ∧ Own rByte ev1 rz2.blk eg1 ∧ Own rByte ev2 rz2.base eg2 ∧ Own rInt ev3 rz2.at_ eg3 ∧ Own rByte ev4 rz2.data eg4) := by
  refine fn_entry (args := [.pointer (some ⟨b1, 0, none⟩), .int .i64 root]) Tryz.func237 rfl Tryz.ntmps237 rfl (fun w0 => ?_)
  refine c_seq ?_
  refine c_region ?_
  refine o_L (y_assign rfl) rfl rfl ?_
  refine o_nil0 rfl ?_
  refine c_seq ?_
  refine c_region ?_
  refine o_T (y_move rfl) rfl ?_
  refine o_T (y_nilck rfl) rfl ?_
  refine o_T (y_fa fl_169_0 rfl) rfl ?_
  refine o_ld one_28 rfl m0 (At.got (At.refl.comp Trees.a_o)) rfl ?_
  refine o_T (y_move rfl) rfl ?_
  obtain ⟨c1, z1, z2, hx1, hm⟩ := bd3 hm
  refine o_callC en_285 rfl (s_skip (s_take (s_take (s_take (s_take (s_take (s_take s_nil))))))) (t285 ho1 ho2 ho3 ho4 hx1) rfl (fun u1 S1 hR1 => ?_)
  obtain ⟨v5, g5, v6, g6, v7, g7, v8, g8, rfl, rfl, ho5, ho6, ho7, ho8⟩ := hR1
  refine o_rest ?_
  refine o_L (y_assign rfl) rfl rfl ?_
  refine o_nil0 rfl ?_
  refine c_ret ?_
  obtain ⟨rfl, rfl, rfl⟩ := pr3 hm
  refine fun aX wX heX hsX => ret1 Tryz.results237 heX rfl (s_get (ks (ks (ks (ks (ks (ks k0)))))) (s_take (s_take (s_take (s_take (s_take (s_take (s_take s_nil)))))))) ?_
  exact ⟨v5, _, v6, _, v7, _, v8, _, rfl, rfl, ho5, ho6, ho7, ho8⟩
end Go.Proofs.Qxb6500350aGreat
