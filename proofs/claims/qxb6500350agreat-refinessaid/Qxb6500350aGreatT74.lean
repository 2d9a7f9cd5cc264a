/- MADE BY PROGRAM (tools350/mir.py): mirror and walk. -/
import Derived.Test.Qxb6500350aGreatF2
import Derived.Test.Qxb6500350aGreatT168
import Derived.Test.Qxb6500350aGreatT169
import Derived.Test.Qxb6500350aGreatT170
set_option linter.unusedVariables false
set_option linter.unusedSimpArgs false
set_option maxRecDepth 20000
set_option maxHeartbeats 4000000
namespace Go.Proofs.Qxb6500350aGreat
open Go.Eng

/- graph.Open -/
def m74 (n : Nat) (t : Trees) (s : Store) (d : Dev) : Option (Graph × Trees × Store × Dev) :=
ob1 (m168 n t s) fun c1 =>
cond (decide (c1 = 0)) (
ob4 (m169 n Graph.zero t s d) fun z1 z2 z3 z4 =>
some (z1, z2, z3, z4)) (
ob1 (m170 n Graph.zero t s d) fun z5 =>
some (z5, t, s, d))
theorem t74 {n : Nat} {C : List Chunk} {rz1 : Graph} {rz2 : Trees} {rz3 : Store} {rz4 : Dev} {b1 : Nat} {t : Trees} {b2 : Nat} {s : Store} {b3 : Nat} {d : Dev} {v1 : Value} {g1 : List Chunk} {v2 : Value} {g2 : List Chunk} {v3 : Value} {g3 : List Chunk} {v4 : Value} {g4 : List Chunk} (ho1 : Own rByte v1 d.blk g1) (ho2 : Own rByte v2 d.base g2) (ho3 : Own rInt v3 d.at_ g3) (ho4 : Own rByte v4 d.data g4)  (hm : m74 n t s d = some (rz1, rz2, rz3, rz4)) : Trip Tryz.prog 74 #[.pointer (some ⟨b1, 0, none⟩)] ([[(b1, .cells (Trees.enc (.pointer (some ⟨b2, 0, none⟩)) t).toArray 169 (0, 0))], [(b2, .cells (Store.enc (.pointer (some ⟨b3, 0, none⟩)) s).toArray 126 (0, 0))], [(b3, .cells (Dev.enc (v1) (v2) (v3) (v4) d).toArray 85 (0, 0))], g1, g2, g3, g4] ++ [C]) (fun u S' => ∃ (eb1 : Nat), ∃ (ev1 : Value), ∃ (eg1 : List Chunk), ∃ (ev2 : Value), ∃ (eg2 : List Chunk), ∃ (ev3 : Value), ∃ (eg3 : List Chunk), ∃ (ev4 : Value), ∃ (eg4 : List Chunk), .pointer (some ⟨eb1, 0, none⟩) = u ∧ S' = [[(b1, .cells (Trees.enc (.pointer (some ⟨b2, 0, none⟩)) rz2).toArray 169 (0, 0))], [(b2, .cells (Store.enc (.pointer (some ⟨b3, 0, none⟩)) rz3).toArray 126 (0, 0))], [(b3, .cells (Dev.enc (ev1) (ev2) (ev3) (ev4) rz4).toArray 85 (0, 0))], eg1, eg2, eg3, eg4, [(eb1, .cells (Graph.enc (.pointer (some ⟨b1, 0, none⟩)) rz1).toArray 179 (0, 0))]] ++ [C] ∧ Own rByte ev1 rz4.blk eg1 ∧ Own rByte ev2 rz4.base eg2 ∧ Own rInt ev3 rz4.at_ eg3 ∧ Own rByte ev4 rz4.data eg4) := by
  refine fn_entry (args := [.pointer (some ⟨b1, 0, none⟩)]) Tryz.func74 rfl Tryz.ntmps74 rfl (fun w0 => ?_)
  refine c_seq ?_
  refine c_region ?_
  refine o_L (y_assign rfl) rfl rfl ?_
  refine o_nil0 rfl ?_
  refine c_seq ?_
  refine c_region ?_
  refine o_T (y_move rfl) rfl ?_
  refine o_T (y_build st_179 rfl (fbU rfl Graph.u_t rfl rfl fbU0)) rfl ?_
  refine o_box rfl rfl rfl rfl (fun b4 => ?_)
  refine o_L (y_assign rfl) rfl rfl ?_
  refine o_nil0 rfl ?_
  refine c_seq ?_
  refine c_region ?_
  refine o_T (y_move rfl) rfl ?_
  obtain ⟨c1, hx1, hm⟩ := bd1 hm
  refine o_callC en_168 rfl (s_skip (s_take (s_take s_nil))) (t168 hx1) rfl (fun u1 S1 hR1 => ?_)
  obtain ⟨rfl, rfl⟩ := hR1
  refine o_rest ?_
  refine o_L (y_assign rfl) rfl rfl ?_
  refine o_nil0 rfl ?_
  refine c_seq ?_
  refine c_seq ?_
  refine c_region ?_
  refine o_T (y_move rfl) rfl ?_
  refine o_T (y_eql rfl rfl) rfl ?_
  refine o_nil1 11 rfl rfl ?_
  refine c_cond rfl (fun h1 => ?_) (fun h1 => ?_)
  · have hm := cd_t h1 hm
    refine c_seq ?_
    refine c_region ?_
    refine o_T (y_move rfl) rfl ?_
    obtain ⟨z1, z2, z3, z4, hx2, hm⟩ := bd4 hm
    refine o_callC en_169 rfl (s_get (ks (ks k0)) (s_take (s_take (s_take (s_take (s_take (s_take (s_take s_nil)))))))) (t169 ho1 ho2 ho3 ho4 hx2) rfl (fun u2 S2 hR2 => ?_)
    obtain ⟨v5, g5, v6, g6, v7, g7, v8, g8, rfl, rfl, ho5, ho6, ho7, ho8⟩ := hR2
    refine o_rest ?_
    refine o_nil0 rfl ?_
    refine c_seq ?_
    refine c_region ?_
    refine o_T (y_move rfl) rfl ?_
    refine o_L (y_assign rfl) rfl rfl ?_
    refine o_nil0 rfl ?_
    refine c_ret ?_
    obtain ⟨rfl, rfl, rfl, rfl⟩ := pr4 hm
    refine fun aX wX heX hsX => ret1 Tryz.results74 heX rfl (s_get (ks k0) (s_get (ks k0) (s_get (ks k0) (s_get (ks k0) (s_get (ks k0) (s_get (ks k0) (s_get (ks k0) (s_take (s_take s_nil))))))))) ?_
    exact ⟨b4, v5, _, v6, _, v7, _, v8, _, rfl, rfl, ho5, ho6, ho7, ho8⟩
  · have hm := cd_f h1 hm
    refine c_skip ?_
    refine c_seq ?_
    refine c_region ?_
    refine o_T (y_move rfl) rfl ?_
    obtain ⟨z5, hx3, hm⟩ := bd1 hm
    refine o_callC en_170 rfl (s_get (ks (ks k0)) (s_take (s_take (s_take (s_take (s_take (s_take (s_take s_nil)))))))) (t170 ho1 ho2 ho3 ho4 hx3) rfl (fun u3 S3 hR3 => ?_)
    obtain ⟨rfl, rfl⟩ := hR3
    refine o_rest ?_
    refine o_nil0 rfl ?_
    refine c_seq ?_
    refine c_region ?_
    refine o_T (y_move rfl) rfl ?_
    refine o_L (y_assign rfl) rfl rfl ?_
    refine o_nil0 rfl ?_
    refine c_ret ?_
    obtain ⟨rfl, rfl, rfl, rfl⟩ := pr4 hm
    refine fun aX wX heX hsX => ret1 Tryz.results74 heX rfl (s_get (ks k0) (s_get (ks k0) (s_get (ks k0) (s_get (ks k0) (s_get (ks k0) (s_get (ks k0) (s_get (ks k0) (s_take (s_take s_nil))))))))) ?_
    exact ⟨b4, v1, _, v2, _, v3, _, v4, _, rfl, rfl, ho1, ho2, ho3, ho4⟩
end Go.Proofs.Qxb6500350aGreat
