/- MADE BY PROGRAM (tools350/mir.py): mirror and walk. -/
import Derived.Test.Qxb6500350aGreatF2
import Derived.Test.Qxb6500350aGreatT69
import Derived.Test.Qxb6500350aGreatT45
import Derived.Test.Qxb6500350aGreatT70
import Derived.Test.Qxb6500350aGreatT24
set_option linter.unusedVariables false
set_option linter.unusedSimpArgs false
set_option maxRecDepth 20000
set_option maxHeartbeats 4000000
namespace Go.Proofs.Qxb6500350aGreat
open Go.Eng

/- towerlaw.After -/
def m21 (n : Nat) (d : Dev) (b_ : Below) (k : Int) : Option (Below × Dev × Store × Trees × Graph × Index × Engine × RepoR) :=
ob1 (m69 n d k) fun z1 =>
ob1 (m45 n z1) fun z2 =>
ob2 (m70 n z2 0) fun l1 c1 =>
Option.bind (ixL l1 0) fun x1 =>
ob7 (m24 n z2) fun z4 z5 z6 z7 z8 z9 z10 =>
nm (({ rooted := (decide (¬ ((x1.toNat : Int) = 0))) } : Below) : Below) fun z11 =>
some (z11, z10, z4, z5, z6, z7, z8, z9)
theorem t21 {n : Nat} {C : List Chunk} {rx1 : Below} {rz1 : Dev} {rz2 : Store} {rz3 : Trees} {rz4 : Graph} {rz5 : Index} {rz6 : Engine} {rz7 : RepoR} {b_ : Below} {b1 : Nat} {d : Dev} {v1 : Value} {g1 : List Chunk} {v2 : Value} {g2 : List Chunk} {v3 : Value} {g3 : List Chunk} {v4 : Value} {g4 : List Chunk} {q1 : Option Addr} {q2 : Option Addr} {q3 : Option Addr} {q4 : Option Addr} {q5 : Option Addr} {q6 : Option Addr} {k : Int} (ho1 : Own rByte v1 d.blk g1) (ho2 : Own rByte v2 d.base g2) (ho3 : Own rInt v3 d.at_ g3) (ho4 : Own rByte v4 d.data g4)  (hm : m21 n d b_ k = some (rx1, rz1, rz2, rz3, rz4, rz5, rz6, rz7)) : Trip Tryz.prog 21 #[.agg (Below.enc (.pointer (some ⟨b1, 0, none⟩)) ((.pointer q1)) ((.pointer q2)) ((.pointer q3)) ((.pointer q4)) ((.pointer q5)) ((.pointer q6)) b_).toArray, .int .i64 k] ([[(b1, .cells (Dev.enc (v1) (v2) (v3) (v4) d).toArray 85 (0, 0))], g1, g2, g3, g4] ++ [C]) (fun u S' => ∃ (eb1 : Nat), ∃ (ev1 : Value), ∃ (eg1 : List Chunk), ∃ (ev2 : Value), ∃ (eg2 : List Chunk), ∃ (ev3 : Value), ∃ (eg3 : List Chunk), ∃ (ev4 : Value), ∃ (eg4 : List Chunk), ∃ (eb2 : Nat), ∃ (eb3 : Nat), ∃ (eb4 : Nat), ∃ (eb5 : Nat), ∃ (eb6 : Nat), ∃ (ev5 : Value), ∃ (eg5 : List Chunk), ∃ (ev6 : Value), ∃ (eg6 : List Chunk), ∃ (ev7 : Value), ∃ (eg7 : List Chunk), ∃ (eb7 : Nat), .agg (Below.enc (.pointer (some ⟨eb1, 0, none⟩)) (.pointer (some ⟨eb2, 0, none⟩)) (.pointer (some ⟨eb3, 0, none⟩)) (.pointer (some ⟨eb4, 0, none⟩)) (.pointer (some ⟨eb5, 0, none⟩)) (.pointer (some ⟨eb6, 0, none⟩)) (.pointer (some ⟨eb7, 0, none⟩)) rx1).toArray = u ∧ S' = [[(b1, .cells (Dev.enc (v1) (v2) (v3) (v4) d).toArray 85 (0, 0))], g1, g2, g3, g4, [(eb1, .cells (Dev.enc (ev1) (ev2) (ev3) (ev4) rz1).toArray 85 (0, 0))], eg1, eg2, eg3, eg4, [(eb2, .cells (Store.enc (.pointer (some ⟨eb1, 0, none⟩)) rz2).toArray 126 (0, 0))], [(eb3, .cells (Trees.enc (.pointer (some ⟨eb2, 0, none⟩)) rz3).toArray 169 (0, 0))], [(eb4, .cells (Graph.enc (.pointer (some ⟨eb3, 0, none⟩)) rz4).toArray 179 (0, 0))], [(eb5, .cells (Index.enc rz5).toArray 184 (0, 0))], [(eb6, .cells (Engine.enc (ev5) (ev6) (ev7) rz6).toArray 187 (0, 0))], eg5, eg6, eg7, [(eb7, .cells (RepoR.enc (.pointer (some ⟨eb4, 0, none⟩)) (.pointer (some ⟨eb5, 0, none⟩)) (.pointer (some ⟨eb6, 0, none⟩)) rz7).toArray 130 (0, 0))]] ++ [C] ∧ Own rByte ev1 rz1.blk eg1 ∧ Own rByte ev2 rz1.base eg2 ∧ Own rInt ev3 rz1.at_ eg3 ∧ Own rByte ev4 rz1.data eg4 ∧ Own rStr ev5 rz6.line_ eg5 ∧ Own rInt ev6 rz6.sum eg6 ∧ Own rInt ev7 rz6.nxt eg7) := by
  refine fn_entry (args := [.agg (Below.enc (.pointer (some ⟨b1, 0, none⟩)) ((.pointer q1)) ((.pointer q2)) ((.pointer q3)) ((.pointer q4)) ((.pointer q5)) ((.pointer q6)) b_).toArray, .int .i64 k]) Tryz.func21 rfl Tryz.ntmps21 rfl (fun w0 => ?_)
  refine c_seq ?_
  refine c_region ?_
  refine o_box rfl rfl rfl rfl (fun b2 => ?_)
  refine o_alloc ze_37 rfl rfl (fun b3 => ?_)
  refine o_nil0 rfl ?_
  refine c_seq ?_
  refine c_region ?_
  refine o_T (y_fa fl_37_0 rfl) rfl ?_
  refine o_ld one_27 rfl (ms m0) (At.got (At.refl.comp Below.a_d)) rfl ?_
  refine o_T (y_move rfl) rfl ?_
  obtain ⟨z1, hx1, hm⟩ := bd1 hm
  refine o_callC en_69 rfl (s_skip (s_skip (s_take (s_take (s_take (s_take (s_take s_nil))))))) (t69 ho1 ho2 ho3 ho4 hx1) rfl (fun u1 S1 hR1 => ?_)
  obtain ⟨b4, v5, g5, v6, g6, v7, g7, v8, g8, rfl, rfl, ho5, ho6, ho7, ho8⟩ := hR1
  refine o_rest ?_
  refine o_L (y_assign rfl) rfl rfl ?_
  refine o_nil0 rfl ?_
  refine c_seq ?_
  refine c_region ?_
  refine o_T (y_move rfl) rfl ?_
  obtain ⟨z2, hx2, hm⟩ := bd1 hm
  refine o_callC en_45 rfl (s_skip (s_skip (s_skip (s_skip (s_skip (s_take (s_take (s_take (s_take (s_take s_nil)))))))))) (t45 ho5 ho6 ho7 ho8 hx2) rfl (fun u2 S2 hR2 => ?_)
  obtain ⟨v9, g9, v10, g10, v11, g11, v12, g12, rfl, rfl, ho9, ho10, ho11, ho12⟩ := hR2
  refine o_rest ?_
  refine o_nil0 rfl ?_
  refine c_seq ?_
  refine c_region ?_
  refine o_T (y_move rfl) rfl ?_
  obtain ⟨l1, c1, hx3, hm⟩ := bd2 hm
  refine o_callC en_70 rfl (s_take (s_take (s_take (s_take (s_take s_nil))))) (t70 ho9 ho10 ho11 ho12 hx3) rfl (fun u3 S3 hR3 => ?_)
  obtain ⟨v13, g13, rfl, rfl, ho13⟩ := hR3
  refine o_rest ?_
  refine o_T (y_move rfl) rfl ?_
  refine o_T (y_extract rfl rfl) rfl ?_
  refine o_T (y_extract rfl rfl) rfl ?_
  refine o_L (y_assign rfl) rfl rfl ?_
  refine o_L (y_assign rfl) rfl rfl ?_
  refine o_nil0 rfl ?_
  refine c_seq ?_
  refine c_region ?_
  refine o_T (y_move rfl) rfl ?_
  obtain ⟨x1, hx4, hm⟩ := bd hm
  obtain ⟨b5, w1, cs1, y1, z3, vs1, hc1, ha1, hr1, hy1⟩ := ho13.rd.ix hx4
  obtain rfl : vs1 = (enc8 x1) := hr1
  refine o_T (hy1 sl_81 rfl rfl rfl) rfl ?_
  refine o_ld one_5 rfl (ms (ms (ms (ms (ms (mg hc1)))))) (At.getA (ha1)) rfl ?_
  refine o_T (y_neq rfl rfl) rfl ?_
  refine o_L (y_assign rfl) rfl rfl ?_
  refine o_nil0 rfl ?_
  refine c_seq ?_
  refine c_region ?_
  refine o_T (y_move rfl) rfl ?_
  obtain ⟨z4, z5, z6, z7, z8, z9, z10, hx5, hm⟩ := bd7 hm
  refine o_callC en_24 rfl (s_take (s_take (s_take (s_take (s_take s_nil))))) (t24 ho9 ho10 ho11 ho12 hx5) rfl (fun u4 S4 hR4 => ?_)
  obtain ⟨b6, b7, b8, b9, b10, v14, g14, v15, g15, v16, g16, b11, v17, g17, v18, g18, v19, g19, v20, g20, rfl, rfl, ho14, ho15, ho16, ho17, ho18, ho19, ho20⟩ := hR4
  refine o_rest ?_
  refine o_alloc ze_35 rfl rfl (fun b12 => ?_)
  refine o_stNA ag_35 rfl rfl (Tower.plain rfl rfl rfl rfl rfl rfl) (Tower.len _ _ _ _ _ _) (Upd.refl ((Tower.len _ _ _ _ _ _).trans (Tower.len _ _ _ _ _ _).symm)) r0 rfl ?_
  refine o_nil0 rfl ?_
  refine c_seq ?_
  refine c_region ?_
  refine o_T (y_move rfl) rfl ?_
  refine o_lda ag_35 rfl m0 (At.exs At.refl (Tower.len _ _ _ _ _ _)) (At.fits At.refl (Tower.len _ _ _ _ _ _)) rfl ?_
  refine o_T (y_move rfl) rfl ?_
  refine o_T (y_build st_37 rfl (fbU rfl Below.u_d rfl rfl (fbU rfl Below.u_w rfl rfl (fbU rfl Below.u_rooted rfl rfl fbU0)))) rfl ?_
  obtain ⟨z11, hn1, hm⟩ := nm_s hm
  refine o_stNA ag_37 rfl rfl (Below.plain rfl rfl rfl rfl rfl rfl rfl _) (Below.len _ _ _ _ _ _ _ _) (Upd.refl ((Below.len _ _ _ _ _ _ _ _).trans (Below.len _ _ _ _ _ _ _ _).symm)) (rs (rs (rs (rs (rs (rs (rs (rs (rs (rs (rs (rs (rs (rs (rs (rs (rs (rs (rs (rs (rs r0))))))))))))))))))))) (show (Below.enc (.pointer (some ⟨b4, 0, none⟩)) (.pointer (some ⟨b6, 0, none⟩)) (.pointer (some ⟨b7, 0, none⟩)) (.pointer (some ⟨b8, 0, none⟩)) (.pointer (some ⟨b9, 0, none⟩)) (.pointer (some ⟨b10, 0, none⟩)) (.pointer (some ⟨b11, 0, none⟩)) z11) = _ from by subst hn1; rfl) ?_
  refine o_nil0 rfl ?_
  refine c_ret ?_
  obtain ⟨rfl, rfl, rfl, rfl, rfl, rfl, rfl, rfl⟩ := pr8 hm
  refine fun aX wX heX hsX => retc Tryz.results21 heX hsX rfl ag_37 (ms (ms (ms (ms (ms (ms (ms (ms (ms (ms (ms (ms (ms (ms (ms (ms (ms (ms (ms (ms (ms m0))))))))))))))))))))) (by simp [Below.len]) (s_skip (s_get (ks (ks (ks (ks (ks (ks (ks (ks (ks (ks (ks (ks (ks (ks (ks k0))))))))))))))) (s_get (ks (ks (ks (ks (ks (ks (ks (ks (ks (ks (ks (ks (ks (ks (ks k0))))))))))))))) (s_get (ks (ks (ks (ks (ks (ks (ks (ks (ks (ks (ks (ks (ks (ks (ks k0))))))))))))))) (s_get (ks (ks (ks (ks (ks (ks (ks (ks (ks (ks (ks (ks (ks (ks (ks k0))))))))))))))) (s_get (ks (ks (ks (ks (ks (ks (ks (ks (ks (ks (ks (ks (ks (ks (ks k0))))))))))))))) (s_take (s_take (s_take (s_take (s_take (s_take (s_take (s_take (s_take (s_take (s_take (s_take (s_take (s_take (s_skip (s_skip (s_skip (s_take s_nil)))))))))))))))))))))))) ?_
  exact ⟨b4, v17, _, v18, _, v19, _, v20, _, b6, b7, b8, b9, b10, v14, _, v15, _, v16, _, b11, rfl, rfl, ho17, ho18, ho19, ho20, ho14, ho15, ho16⟩
end Go.Proofs.Qxb6500350aGreat
