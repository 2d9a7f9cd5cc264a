/- MADE BY PROGRAM (tools350/mir.py): mirror and walk. -/
import Derived.Test.Qxb6500350aGreatF2
import Derived.Test.Qxb6500350aGreatT247
import Derived.Test.Qxb6500350aGreatT248
import Derived.Test.Qxb6500350aGreatT234
import Derived.Test.Qxb6500350aGreatT214
import Derived.Test.Qxb6500350aGreatT237
set_option linter.unusedVariables false
set_option linter.unusedSimpArgs false
set_option maxRecDepth 20000
set_option maxHeartbeats 4000000
namespace Go.Proofs.Qxb6500350aGreat
open Go.Eng

/- (*graph.Graph).format -/
def m169 (n : Nat) (g : Graph) (t : Trees) (s : Store) (d : Dev) : Option (Graph × Trees × Store × Dev) :=
ob1 (m247 n g) fun z1 =>
ob5 (m248 n t s d []) fun c1 c2 z2 z3 z4 =>
nm ({ z1 with aux := c1 } : Graph) fun z5 =>
ob1 (m234 n z5) fun l1 =>
ob5 (m214 n z2 z3 z4 4 l1) fun c3 c4 z6 z7 z8 =>
ob3 (m237 n z6 z7 z8 c3) fun c5 z9 z10 =>
some (z5, z6, z9, z10)
theorem t169 {n : Nat} {C : List Chunk} {rz1 : Graph} {rz2 : Trees} {rz3 : Store} {rz4 : Dev} {b1 : Nat} {g : Graph} {b2 : Nat} {t : Trees} {b3 : Nat} {s : Store} {b4 : Nat} {d : Dev} {v1 : Value} {g1 : List Chunk} {v2 : Value} {g2 : List Chunk} {v3 : Value} {g3 : List Chunk} {v4 : Value} {g4 : List Chunk} (ho1 : Own rByte v1 d.blk g1) (ho2 : Own rByte v2 d.base g2) (ho3 : Own rInt v3 d.at_ g3) (ho4 : Own rByte v4 d.data g4)  (hm : m169 n g t s d = some (rz1, rz2, rz3, rz4)) : Trip Tryz.prog 169 #[.pointer (some ⟨b1, 0, none⟩)] ([[(b1, .cells (Graph.enc (.pointer (some ⟨b2, 0, none⟩)) g).toArray 179 (0, 0))], [(b2, .cells (Trees.enc (.pointer (some ⟨b3, 0, none⟩)) t).toArray 169 (0, 0))], [(b3, .cells (Store.enc (.pointer (some ⟨b4, 0, none⟩)) s).toArray 126 (0, 0))], [(b4, .cells (Dev.enc (v1) (v2) (v3) (v4) d).toArray 85 (0, 0))], g1, g2, g3, g4] ++ [C]) (fun u S' => ∃ (ev1 : Value), ∃ (eg1 : List Chunk), ∃ (ev2 : Value), ∃ (eg2 : List Chunk), ∃ (ev3 : Value), ∃ (eg3 : List Chunk), ∃ (ev4 : Value), ∃ (eg4 : List Chunk), .tuple #[] = u ∧ S' = [[(b1, .cells (Graph.enc (.pointer (some ⟨b2, 0, none⟩)) rz1).toArray 179 (0, 0))], [(b2, .cells (Trees.enc (.pointer (some ⟨b3, 0, none⟩)) rz2).toArray 169 (0, 0))], [(b3, .cells (Store.enc (.pointer (some ⟨b4, 0, none⟩)) rz3).toArray 126 (0, 0))], [(b4, .cells (Dev.enc (ev1) (ev2) (ev3) (ev4) rz4).toArray 85 (0, 0))], eg1, eg2, eg3, eg4] ++ [C] ∧ Own rByte ev1 rz4.blk eg1 ∧ Own rByte ev2 rz4.base eg2 ∧ Own rInt ev3 rz4.at_ eg3 ∧ Own rByte ev4 rz4.data eg4) := by
  refine fn_entry (args := [.pointer (some ⟨b1, 0, none⟩)]) Tryz.func169 rfl Tryz.ntmps169 rfl (fun w0 => ?_)
  refine c_seq ?_
  refine c_region ?_
  refine o_T (y_move rfl) rfl ?_
  obtain ⟨z1, hx1, hm⟩ := bd1 hm
  refine o_callC en_247 rfl (s_take s_nil) (t247 hx1) rfl (fun u1 S1 hR1 => ?_)
  obtain ⟨rfl, rfl⟩ := hR1
  refine o_rest ?_
  refine o_nil0 rfl ?_
  refine c_seq ?_
  refine c_region ?_
  refine o_T (y_move rfl) rfl ?_
  refine o_T (y_nilck rfl) rfl ?_
  refine o_T (y_fa fl_179_0 rfl) rfl ?_
  refine o_ld one_29 rfl m0 (At.got (At.refl.comp Graph.a_t)) rfl ?_
  obtain ⟨c1, c2, z2, z3, z4, hx2, hm⟩ := bd5 hm
  refine o_callC en_248 rfl (s_skip (s_take (s_take (s_take (s_take (s_take (s_take (s_take s_nil)))))))) (t248 ho1 ho2 ho3 ho4 Rd.nil hx2) rfl (fun u2 S2 hR2 => ?_)
  obtain ⟨v5, g5, v6, g6, v7, g7, v8, g8, rfl, rfl, ho5, ho6, ho7, ho8⟩ := hR2
  refine o_rest ?_
  refine o_T (y_move rfl) rfl ?_
  refine o_T (y_extract rfl rfl) rfl ?_
  refine o_T (y_extract rfl rfl) rfl ?_
  refine o_L (y_assign rfl) rfl rfl ?_
  refine o_L (y_assign rfl) rfl rfl ?_
  refine o_nil0 rfl ?_
  refine c_seq ?_
  refine c_region ?_
  refine o_T (y_move rfl) rfl ?_
  refine o_T (y_move rfl) rfl ?_
  refine o_T (y_nilck rfl) rfl ?_
  refine o_T (y_fa fl_179_9 rfl) rfl ?_
  obtain ⟨z5, hn1, hm⟩ := nm_s hm
  refine o_stN one_3 rfl rfl rfl (Upd.z Graph.u_aux) (rs (rs (rs (rs (rs (rs (rs r0))))))) (show (Graph.enc (.pointer (some ⟨b2, 0, none⟩)) z5) = _ from by subst hn1; rfl) ?_
  refine o_nil0 rfl ?_
  refine c_seq ?_
  refine c_region ?_
  refine o_T (y_move rfl) rfl ?_
  obtain ⟨l1, hx3, hm⟩ := bd1 hm
  refine o_callC en_234 rfl (s_skip (s_skip (s_skip (s_skip (s_skip (s_skip (s_skip (s_take s_nil)))))))) (t234 hx3) rfl (fun u3 S3 hR3 => ?_)
  obtain ⟨v9, g9, rfl, rfl, ho9⟩ := hR3
  refine o_rest ?_
  refine o_L (y_assign rfl) rfl rfl ?_
  refine o_nil0 rfl ?_
  refine c_seq ?_
  refine c_region ?_
  refine o_T (y_move rfl) rfl ?_
  refine o_T (y_nilck rfl) rfl ?_
  refine o_T (y_fa fl_179_0 rfl) rfl ?_
  refine o_ld one_29 rfl m0 (At.got (At.refl.comp Graph.a_t)) rfl ?_
  refine o_T (y_move rfl) rfl ?_
  obtain ⟨c3, c4, z6, z7, z8, hx4, hm⟩ := bd5 hm
  refine o_callC en_214 rfl (s_skip (s_skip (s_take (s_take (s_take (s_take (s_take (s_take (s_take s_nil))))))))) (t214 ho5 ho6 ho7 ho8 (ho9.rd.mono (fun _ hz => (ms (mg hz)))) hx4) rfl (fun u4 S4 hR4 => ?_)
  obtain ⟨v10, g10, v11, g11, v12, g12, v13, g13, rfl, rfl, ho10, ho11, ho12, ho13⟩ := hR4
  refine o_rest ?_
  refine o_T (y_move rfl) rfl ?_
  refine o_T (y_extract rfl rfl) rfl ?_
  refine o_T (y_extract rfl rfl) rfl ?_
  refine o_L (y_assign rfl) rfl rfl ?_
  refine o_L (y_assign rfl) rfl rfl ?_
  refine o_nil0 rfl ?_
  refine c_region ?_
  refine o_T (y_move rfl) rfl ?_
  refine o_T (y_nilck rfl) rfl ?_
  refine o_T (y_fa fl_179_0 rfl) rfl ?_
  refine o_ld one_29 rfl (ms (ms (ms (ms (ms (ms (ms m0))))))) (At.got (At.refl.comp Graph.a_t)) rfl ?_
  refine o_T (y_move rfl) rfl ?_
  obtain ⟨c5, z9, z10, hx5, hm⟩ := bd3 hm
  refine o_callC en_237 rfl (s_take (s_take (s_take (s_take (s_take (s_take (s_take s_nil))))))) (t237 ho10 ho11 ho12 ho13 hx5) rfl (fun u5 S5 hR5 => ?_)
  obtain ⟨v14, g14, v15, g15, v16, g16, v17, g17, rfl, rfl, ho14, ho15, ho16, ho17⟩ := hR5
  refine o_rest ?_
  refine o_nil0 rfl ?_
  obtain ⟨rfl, rfl, rfl, rfl⟩ := pr4 hm
  refine fun aX wX heX hsX => ret0 Tryz.results169 (s_get (ks (ks (ks (ks (ks (ks (ks k0))))))) (s_take (s_take (s_take (s_take (s_take (s_take (s_take (s_skip (s_take s_nil)))))))))) ?_
  exact ⟨v14, _, v15, _, v16, _, v17, _, rfl, rfl, ho14, ho15, ho16, ho17⟩
end Go.Proofs.Qxb6500350aGreat
