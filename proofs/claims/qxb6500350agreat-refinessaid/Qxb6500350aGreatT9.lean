/- MADE BY PROGRAM (tools350/mir.py): mirror and walk. -/
import Derived.Test.Qxb6500350aGreatF2
import Derived.Test.Qxb6500350aGreatT23
import Derived.Test.Qxb6500350aGreatT24
set_option linter.unusedVariables false
set_option linter.unusedSimpArgs false
set_option maxRecDepth 20000
set_option maxHeartbeats 4000000
namespace Go.Proofs.Qxb6500350aGreat
open Go.Eng

/- towerlaw.Ground -/
def m9 (n : Nat) : Option (Below × Dev × Store × Trees × Graph × Index × Engine × RepoR) :=
ob1 (m23 n ) fun z1 =>
ob7 (m24 n z1) fun z2 z3 z4 z5 z6 z7 z8 =>
nm (({ rooted := false } : Below) : Below) fun z9 =>
some (z9, z8, z2, z3, z4, z5, z6, z7)
theorem t9 {n : Nat} {C : List Chunk} {rx1 : Below} {rz1 : Dev} {rz2 : Store} {rz3 : Trees} {rz4 : Graph} {rz5 : Index} {rz6 : Engine} {rz7 : RepoR}    (hm : m9 n = some (rx1, rz1, rz2, rz3, rz4, rz5, rz6, rz7)) : Trip Tryz.prog 9 #[] ([] ++ [C]) (fun u S' => ∃ (eb1 : Nat), ∃ (ev1 : Value), ∃ (eg1 : List Chunk), ∃ (ev2 : Value), ∃ (eg2 : List Chunk), ∃ (ev3 : Value), ∃ (eg3 : List Chunk), ∃ (ev4 : Value), ∃ (eg4 : List Chunk), ∃ (eb2 : Nat), ∃ (eb3 : Nat), ∃ (eb4 : Nat), ∃ (eb5 : Nat), ∃ (eb6 : Nat), ∃ (ev5 : Value), ∃ (eg5 : List Chunk), ∃ (ev6 : Value), ∃ (eg6 : List Chunk), ∃ (ev7 : Value), ∃ (eg7 : List Chunk), ∃ (eb7 : Nat), .agg (Below.enc (.pointer (some ⟨eb1, 0, none⟩)) (.pointer (some ⟨eb2, 0, none⟩)) (.pointer (some ⟨eb3, 0, none⟩)) (.pointer (some ⟨eb4, 0, none⟩)) (.pointer (some ⟨eb5, 0, none⟩)) (.pointer (some ⟨eb6, 0, none⟩)) (.pointer (some ⟨eb7, 0, none⟩)) rx1).toArray = u ∧ S' = [[(eb1, .cells (Dev.enc (ev1) (ev2) (ev3) (ev4) rz1).toArray 85 (0, 0))], eg1, eg2, eg3, eg4, [(eb2, .cells (Store.enc (.pointer (some ⟨eb1, 0, none⟩)) rz2).toArray 126 (0, 0))], [(eb3, .cells (Trees.enc (.pointer (some ⟨eb2, 0, none⟩)) rz3).toArray 169 (0, 0))], [(eb4, .cells (Graph.enc (.pointer (some ⟨eb3, 0, none⟩)) rz4).toArray 179 (0, 0))], [(eb5, .cells (Index.enc rz5).toArray 184 (0, 0))], [(eb6, .cells (Engine.enc (ev5) (ev6) (ev7) rz6).toArray 187 (0, 0))], eg5, eg6, eg7, [(eb7, .cells (RepoR.enc (.pointer (some ⟨eb4, 0, none⟩)) (.pointer (some ⟨eb5, 0, none⟩)) (.pointer (some ⟨eb6, 0, none⟩)) rz7).toArray 130 (0, 0))]] ++ [C] ∧ Own rByte ev1 rz1.blk eg1 ∧ Own rByte ev2 rz1.base eg2 ∧ Own rInt ev3 rz1.at_ eg3 ∧ Own rByte ev4 rz1.data eg4 ∧ Own rStr ev5 rz6.line_ eg5 ∧ Own rInt ev6 rz6.sum eg6 ∧ Own rInt ev7 rz6.nxt eg7) := by
  refine fn_entry (args := []) Tryz.func9 rfl Tryz.ntmps9 rfl (fun w0 => ?_)
  refine c_seq ?_
  refine c_region ?_
  refine o_alloc ze_37 rfl rfl (fun b1 => ?_)
  refine o_nil0 rfl ?_
  refine c_seq ?_
  refine c_region ?_
  obtain ⟨z1, hx1, hm⟩ := bd1 hm
  refine o_callC en_23 rfl s_nil (t23 hx1) rfl (fun u1 S1 hR1 => ?_)
  obtain ⟨b2, v1, g1, v2, g2, v3, g3, v4, g4, rfl, rfl, ho1, ho2, ho3, ho4⟩ := hR1
  refine o_rest ?_
  refine o_L (y_assign rfl) rfl rfl ?_
  refine o_nil0 rfl ?_
  refine c_seq ?_
  refine c_region ?_
  refine o_T (y_move rfl) rfl ?_
  obtain ⟨z2, z3, z4, z5, z6, z7, z8, hx2, hm⟩ := bd7 hm
  refine o_callC en_24 rfl (s_take (s_take (s_take (s_take (s_take s_nil))))) (t24 ho1 ho2 ho3 ho4 hx2) rfl (fun u2 S2 hR2 => ?_)
  obtain ⟨b3, b4, b5, b6, b7, v5, g5, v6, g6, v7, g7, b8, v8, g8, v9, g9, v10, g10, v11, g11, rfl, rfl, ho5, ho6, ho7, ho8, ho9, ho10, ho11⟩ := hR2
  refine o_rest ?_
  refine o_alloc ze_35 rfl rfl (fun b9 => ?_)
  refine o_stNA ag_35 rfl rfl (Tower.plain rfl rfl rfl rfl rfl rfl) (Tower.len _ _ _ _ _ _) (Upd.refl ((Tower.len _ _ _ _ _ _).trans (Tower.len _ _ _ _ _ _).symm)) r0 rfl ?_
  refine o_nil0 rfl ?_
  refine c_seq ?_
  refine c_region ?_
  refine o_T (y_move rfl) rfl ?_
  refine o_lda ag_35 rfl m0 (At.exs At.refl (Tower.len _ _ _ _ _ _)) (At.fits At.refl (Tower.len _ _ _ _ _ _)) rfl ?_
  refine o_T (y_build st_37 rfl (fbU rfl Below.u_d rfl rfl (fbU rfl Below.u_w rfl rfl (fbU rfl Below.u_rooted rfl rfl fbU0)))) rfl ?_
  obtain ⟨z9, hn1, hm⟩ := nm_s hm
  refine o_stNA ag_37 rfl rfl (Below.plain rfl rfl rfl rfl rfl rfl rfl _) (Below.len _ _ _ _ _ _ _ _) (Upd.refl ((Below.len _ _ _ _ _ _ _ _).trans (Below.len _ _ _ _ _ _ _ _).symm)) (rs (rs (rs (rs (rs (rs (rs (rs (rs (rs (rs (rs (rs (rs (rs r0))))))))))))))) (show (Below.enc (.pointer (some ⟨b2, 0, none⟩)) (.pointer (some ⟨b3, 0, none⟩)) (.pointer (some ⟨b4, 0, none⟩)) (.pointer (some ⟨b5, 0, none⟩)) (.pointer (some ⟨b6, 0, none⟩)) (.pointer (some ⟨b7, 0, none⟩)) (.pointer (some ⟨b8, 0, none⟩)) z9) = _ from by subst hn1; rfl) ?_
  refine o_nil0 rfl ?_
  refine c_ret ?_
  obtain ⟨rfl, rfl, rfl, rfl, rfl, rfl, rfl, rfl⟩ := pr8 hm
  refine fun aX wX heX hsX => retc Tryz.results9 heX hsX rfl ag_37 (ms (ms (ms (ms (ms (ms (ms (ms (ms (ms (ms (ms (ms (ms (ms m0))))))))))))))) (by simp [Below.len]) (s_skip (s_take (s_take (s_take (s_take (s_take (s_take (s_take (s_take (s_take (s_take (s_take (s_take (s_take (s_take (s_skip (s_take s_nil))))))))))))))))) ?_
  exact ⟨b2, v8, _, v9, _, v10, _, v11, _, b3, b4, b5, b6, b7, v5, _, v6, _, v7, _, b8, rfl, rfl, ho8, ho9, ho10, ho11, ho5, ho6, ho7⟩
end Go.Proofs.Qxb6500350aGreat
