/- MADE BY PROGRAM (tools350/mir.py): mirror and walk. -/
import Derived.Test.Qxb6500350aGreatF2
import Derived.Test.Qxb6500350aGreatT72
import Derived.Test.Qxb6500350aGreatT73
import Derived.Test.Qxb6500350aGreatT74
import Derived.Test.Qxb6500350aGreatT75
import Derived.Test.Qxb6500350aGreatT76
import Derived.Test.Qxb6500350aGreatT77
set_option linter.unusedVariables false
set_option linter.unusedSimpArgs false
set_option maxRecDepth 20000
set_option maxHeartbeats 4000000
namespace Go.Proofs.Qxb6500350aGreat
open Go.Eng

/- tower.Open -/
def m24 (n : Nat) (d : Dev) : Option (Store × Trees × Graph × Index × Engine × RepoR × Dev) :=
ob1 (m72 n d) fun z1 =>
ob1 (m73 n z1 d) fun z2 =>
ob4 (m74 n z2 z1 d) fun z3 z4 z5 z6 =>
ob1 (m75 n ) fun z7 =>
ob1 (m76 n ) fun z8 =>
ob2 (m77 n z3 z4 z5 z6 z7 z8) fun z9 z10 =>
some (z5, z4, z3, z10, z8, z9, z6)
theorem t24 {n : Nat} {C : List Chunk} {rz1 : Store} {rz2 : Trees} {rz3 : Graph} {rz4 : Index} {rz5 : Engine} {rz6 : RepoR} {rz7 : Dev} {b1 : Nat} {d : Dev} {v1 : Value} {g1 : List Chunk} {v2 : Value} {g2 : List Chunk} {v3 : Value} {g3 : List Chunk} {v4 : Value} {g4 : List Chunk} (ho1 : Own rByte v1 d.blk g1) (ho2 : Own rByte v2 d.base g2) (ho3 : Own rInt v3 d.at_ g3) (ho4 : Own rByte v4 d.data g4)  (hm : m24 n d = some (rz1, rz2, rz3, rz4, rz5, rz6, rz7)) : Trip Tryz.prog 24 #[.pointer (some ⟨b1, 0, none⟩)] ([[(b1, .cells (Dev.enc (v1) (v2) (v3) (v4) d).toArray 85 (0, 0))], g1, g2, g3, g4] ++ [C]) (fun u S' => ∃ (eb1 : Nat), ∃ (eb2 : Nat), ∃ (eb3 : Nat), ∃ (eb4 : Nat), ∃ (eb5 : Nat), ∃ (ev1 : Value), ∃ (eg1 : List Chunk), ∃ (ev2 : Value), ∃ (eg2 : List Chunk), ∃ (ev3 : Value), ∃ (eg3 : List Chunk), ∃ (eb6 : Nat), ∃ (ev4 : Value), ∃ (eg4 : List Chunk), ∃ (ev5 : Value), ∃ (eg5 : List Chunk), ∃ (ev6 : Value), ∃ (eg6 : List Chunk), ∃ (ev7 : Value), ∃ (eg7 : List Chunk), .agg (Tower.enc (.pointer (some ⟨eb1, 0, none⟩)) (.pointer (some ⟨eb2, 0, none⟩)) (.pointer (some ⟨eb3, 0, none⟩)) (.pointer (some ⟨eb4, 0, none⟩)) (.pointer (some ⟨eb5, 0, none⟩)) (.pointer (some ⟨eb6, 0, none⟩))).toArray = u ∧ S' = [[(b1, .cells (Dev.enc (ev4) (ev5) (ev6) (ev7) rz7).toArray 85 (0, 0))], eg4, eg5, eg6, eg7, [(eb1, .cells (Store.enc (.pointer (some ⟨b1, 0, none⟩)) rz1).toArray 126 (0, 0))], [(eb2, .cells (Trees.enc (.pointer (some ⟨eb1, 0, none⟩)) rz2).toArray 169 (0, 0))], [(eb3, .cells (Graph.enc (.pointer (some ⟨eb2, 0, none⟩)) rz3).toArray 179 (0, 0))], [(eb4, .cells (Index.enc rz4).toArray 184 (0, 0))], [(eb5, .cells (Engine.enc (ev1) (ev2) (ev3) rz5).toArray 187 (0, 0))], eg1, eg2, eg3, [(eb6, .cells (RepoR.enc (.pointer (some ⟨eb3, 0, none⟩)) (.pointer (some ⟨eb4, 0, none⟩)) (.pointer (some ⟨eb5, 0, none⟩)) rz6).toArray 130 (0, 0))]] ++ [C] ∧ Own rStr ev1 rz5.line_ eg1 ∧ Own rInt ev2 rz5.sum eg2 ∧ Own rInt ev3 rz5.nxt eg3 ∧ Own rByte ev4 rz7.blk eg4 ∧ Own rByte ev5 rz7.base eg5 ∧ Own rInt ev6 rz7.at_ eg6 ∧ Own rByte ev7 rz7.data eg7) := by
  refine fn_entry (args := [.pointer (some ⟨b1, 0, none⟩)]) Tryz.func24 rfl Tryz.ntmps24 rfl (fun w0 => ?_)
  refine c_seq ?_
  refine c_region ?_
  refine o_alloc ze_35 rfl rfl (fun b2 => ?_)
  refine o_nil0 rfl ?_
  refine c_seq ?_
  refine c_region ?_
  refine o_alloc ze_35 rfl rfl (fun b3 => ?_)
  refine o_nil0 rfl ?_
  refine c_seq ?_
  refine c_region ?_
  refine o_T (y_move rfl) rfl ?_
  obtain ⟨z1, hx1, hm⟩ := bd1 hm
  refine o_callC en_72 rfl (s_skip (s_skip (s_take (s_take (s_take (s_take (s_take s_nil))))))) (t72 ho1 ho2 ho3 ho4 hx1) rfl (fun u1 S1 hR1 => ?_)
  obtain ⟨b4, rfl, rfl⟩ := hR1
  refine o_rest ?_
  refine o_T (y_fa fl_35_0 rfl) rfl ?_
  refine o_stN one_28 rfl rfl rfl (Upd.z Tower.u_o) (rs (rs (rs (rs (rs (rs r0)))))) rfl ?_
  refine o_nil0 rfl ?_
  refine c_seq ?_
  refine c_region ?_
  refine o_T (y_fa fl_35_0 rfl) rfl ?_
  refine o_ld one_28 rfl (ms (ms (ms (ms (ms (ms m0)))))) (At.got (At.refl.comp Tower.a_o)) rfl ?_
  obtain ⟨z2, hx2, hm⟩ := bd1 hm
  refine o_callC en_73 rfl (s_get (ks (ks (ks (ks (ks k0))))) (s_take (s_take (s_take (s_take (s_take s_nil)))))) (t73 ho1 ho2 ho3 ho4 hx2) rfl (fun u2 S2 hR2 => ?_)
  obtain ⟨b5, rfl, rfl⟩ := hR2
  refine o_rest ?_
  refine o_T (y_fa fl_35_1 rfl) rfl ?_
  refine o_stN one_29 rfl rfl rfl (Upd.z Tower.u_t) (rs (rs (rs (rs (rs (rs (rs r0))))))) rfl ?_
  refine o_nil0 rfl ?_
  refine c_seq ?_
  refine c_region ?_
  refine o_T (y_fa fl_35_1 rfl) rfl ?_
  refine o_ld one_29 rfl (ms (ms (ms (ms (ms (ms (ms m0))))))) (At.got (At.refl.comp Tower.a_t)) rfl ?_
  obtain ⟨z3, z4, z5, z6, hx3, hm⟩ := bd4 hm
  refine o_callC en_74 rfl (s_get (ks (ks (ks (ks (ks (ks k0)))))) (s_take (s_take (s_take (s_take (s_take (s_take s_nil))))))) (t74 ho1 ho2 ho3 ho4 hx3) rfl (fun u3 S3 hR3 => ?_)
  obtain ⟨b6, v5, g5, v6, g6, v7, g7, v8, g8, rfl, rfl, ho5, ho6, ho7, ho8⟩ := hR3
  refine o_rest ?_
  refine o_T (y_fa fl_35_2 rfl) rfl ?_
  refine o_stN one_30 rfl rfl rfl (Upd.z Tower.u_g) (rs (rs (rs (rs (rs (rs (rs (rs r0)))))))) rfl ?_
  refine o_nil0 rfl ?_
  refine c_seq ?_
  refine c_region ?_
  obtain ⟨z7, hx4, hm⟩ := bd1 hm
  refine o_callC en_75 rfl s_nil (t75 hx4) rfl (fun u4 S4 hR4 => ?_)
  obtain ⟨b7, rfl, rfl⟩ := hR4
  refine o_rest ?_
  refine o_T (y_fa fl_35_3 rfl) rfl ?_
  refine o_stN one_31 rfl rfl rfl (Upd.z Tower.u_x) (rs (rs (rs (rs (rs (rs (rs (rs (rs r0))))))))) rfl ?_
  refine o_nil0 rfl ?_
  refine c_seq ?_
  refine c_region ?_
  obtain ⟨z8, hx5, hm⟩ := bd1 hm
  refine o_callC en_76 rfl s_nil (t76 hx5) rfl (fun u5 S5 hR5 => ?_)
  obtain ⟨b8, v9, g9, v10, g10, v11, g11, rfl, rfl, ho9, ho10, ho11⟩ := hR5
  refine o_rest ?_
  refine o_T (y_fa fl_35_4 rfl) rfl ?_
  refine o_stN one_32 rfl rfl rfl (Upd.z Tower.u_e) (rs (rs (rs (rs (rs (rs (rs (rs (rs (rs (rs (rs (rs r0))))))))))))) rfl ?_
  refine o_nil0 rfl ?_
  refine c_seq ?_
  refine c_region ?_
  refine o_T (y_fa fl_35_2 rfl) rfl ?_
  refine o_ld one_30 rfl (ms (ms (ms (ms (ms (ms (ms (ms (ms (ms (ms (ms (ms m0))))))))))))) (At.got (At.refl.comp Tower.a_g)) rfl ?_
  refine o_T (y_fa fl_35_3 rfl) rfl ?_
  refine o_ld one_31 rfl (ms (ms (ms (ms (ms (ms (ms (ms (ms (ms (ms (ms (ms m0))))))))))))) (At.got (At.refl.comp Tower.a_x)) rfl ?_
  refine o_T (y_fa fl_35_4 rfl) rfl ?_
  refine o_ld one_32 rfl (ms (ms (ms (ms (ms (ms (ms (ms (ms (ms (ms (ms (ms m0))))))))))))) (At.got (At.refl.comp Tower.a_e)) rfl ?_
  obtain ⟨z9, z10, hx6, hm⟩ := bd2 hm
  refine o_callC en_77 rfl (s_get (ks (ks (ks (ks (ks (ks (ks (ks (ks (ks (ks (ks k0)))))))))))) (s_get (ks (ks (ks (ks (ks k0))))) (s_get (ks (ks (ks (ks (ks k0))))) (s_get (ks (ks (ks (ks (ks k0))))) (s_get (ks (ks (ks (ks (ks k0))))) (s_get (ks (ks (ks (ks (ks k0))))) (s_get (ks (ks (ks (ks (ks k0))))) (s_get (ks (ks (ks (ks (ks k0))))) (s_get (ks (ks (ks (ks k0)))) (s_take (s_take (s_take (s_take s_nil))))))))))))) (t77 ho5 ho6 ho7 ho8 ho9 ho10 ho11 hx6) rfl (fun u6 S6 hR6 => ?_)
  obtain ⟨b9, rfl, rfl⟩ := hR6
  refine o_rest ?_
  refine o_T (y_fa fl_35_5 rfl) rfl ?_
  refine o_stN one_33 rfl rfl rfl (Upd.z Tower.u_r) (rs (rs (rs (rs (rs (rs (rs (rs (rs (rs (rs (rs (rs (rs r0)))))))))))))) rfl ?_
  refine o_nil0 rfl ?_
  refine c_seq ?_
  refine c_region ?_
  refine o_lda ag_35 rfl (ms (ms (ms (ms (ms (ms (ms (ms (ms (ms (ms (ms (ms (ms m0)))))))))))))) (At.exs At.refl (Tower.len _ _ _ _ _ _)) (At.fits At.refl (Tower.len _ _ _ _ _ _)) rfl ?_
  refine o_stNA ag_35 rfl rfl (Tower.plain rfl rfl rfl rfl rfl rfl) (Tower.len _ _ _ _ _ _) (Upd.refl ((Tower.len _ _ _ _ _ _).trans (Tower.len _ _ _ _ _ _).symm)) (rs (rs (rs (rs (rs (rs (rs (rs (rs (rs (rs (rs (rs (rs (rs r0))))))))))))))) rfl ?_
  refine o_nil0 rfl ?_
  refine c_ret ?_
  obtain ⟨rfl, rfl, rfl, rfl, rfl, rfl, rfl⟩ := pr7 hm
  refine fun aX wX heX hsX => retc Tryz.results24 heX hsX rfl ag_35 (ms (ms (ms (ms (ms (ms (ms (ms (ms (ms (ms (ms (ms (ms (ms m0))))))))))))))) (by simp [Tower.len]) (s_get (ks (ks (ks k0))) (s_get (ks (ks (ks k0))) (s_get (ks (ks (ks k0))) (s_get (ks (ks (ks k0))) (s_get (ks (ks (ks k0))) (s_get (ks (ks k0)) (s_get (ks k0) (s_take (s_take (s_take (s_take (s_take (s_take (s_take (s_skip (s_skip (s_take s_nil))))))))))))))))) ?_
  exact ⟨b4, b5, b6, b7, b8, v9, _, v10, _, v11, _, b9, v5, _, v6, _, v7, _, v8, _, rfl, rfl, ho9, ho10, ho11, ho5, ho6, ho7, ho8⟩
end Go.Proofs.Qxb6500350aGreat
