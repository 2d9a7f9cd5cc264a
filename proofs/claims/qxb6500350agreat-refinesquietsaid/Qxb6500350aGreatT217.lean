/- MADE BY PROGRAM (tools350/mir.py): mirror and walk. -/
import Derived.Test.Qxb6500350aGreatF2
import Derived.Test.Qxb6500350aGreatT234
import Derived.Test.Qxb6500350aGreatT214
import Derived.Test.Qxb6500350aGreatT168
import Derived.Test.Qxb6500350aGreatT276
import Derived.Test.Qxb6500350aGreatT237
set_option linter.unusedVariables false
set_option linter.unusedSimpArgs false
set_option maxRecDepth 20000
set_option maxHeartbeats 4000000
namespace Go.Proofs.Qxb6500350aGreat
open Go.Eng

/- (*graph.Graph).Save -/
def m217 (n : Nat) (g : Graph) (t : Trees) (s : Store) (d : Dev) : Option (Int × Trees × Store × Dev) :=
ob1 (m234 n g) fun l1 =>
ob5 (m214 n t s d 4 l1) fun c1 c2 z1 z2 z3 =>
cond (decide (¬ (c2 = 0))) (
some (c2, z1, z2, z3)) (
ob1 (m168 n z1 z2) fun c3 =>
cond (decide (¬ (c1 = c3))) (
ob3 (m276 n z1 z2 z3 c3) fun c4 z4 z5 =>
ob3 (m237 n z4 z5 z3 c1) fun c5 z6 z7 =>
some (0, z4, z6, z7)) (
ob3 (m237 n z1 z2 z3 c1) fun c6 z8 z9 =>
some (0, z1, z8, z9)))
theorem t217 {n : Nat} {C : List Chunk} {rc1 : Int} {rz1 : Trees} {rz2 : Store} {rz3 : Dev} {b1 : Nat} {g : Graph} {b2 : Nat} {t : Trees} {b3 : Nat} {s : Store} {b4 : Nat} {d : Dev} {v1 : Value} {g1 : List Chunk} {v2 : Value} {g2 : List Chunk} {v3 : Value} {g3 : List Chunk} {v4 : Value} {g4 : List Chunk} (ho1 : Own rByte v1 d.blk g1) (ho2 : Own rByte v2 d.base g2) (ho3 : Own rInt v3 d.at_ g3) (ho4 : Own rByte v4 d.data g4)  (hm : m217 n g t s d = some (rc1, rz1, rz2, rz3)) : Trip Tryz.prog 217 #[.pointer (some ⟨b1, 0, none⟩)] ([[(b1, .cells (Graph.enc (.pointer (some ⟨b2, 0, none⟩)) g).toArray 179 (0, 0))], [(b2, .cells (Trees.enc (.pointer (some ⟨b3, 0, none⟩)) t).toArray 169 (0, 0))], [(b3, .cells (Store.enc (.pointer (some ⟨b4, 0, none⟩)) s).toArray 126 (0, 0))], [(b4, .cells (Dev.enc (v1) (v2) (v3) (v4) d).toArray 85 (0, 0))], g1, g2, g3, g4] ++ [C]) (fun u S' => ∃ (ev1 : Value), ∃ (eg1 : List Chunk), ∃ (ev2 : Value), ∃ (eg2 : List Chunk), ∃ (ev3 : Value), ∃ (eg3 : List Chunk), ∃ (ev4 : Value), ∃ (eg4 : List Chunk), .int .i64 rc1 = u ∧ S' = [[(b1, .cells (Graph.enc (.pointer (some ⟨b2, 0, none⟩)) g).toArray 179 (0, 0))], [(b2, .cells (Trees.enc (.pointer (some ⟨b3, 0, none⟩)) rz1).toArray 169 (0, 0))], [(b3, .cells (Store.enc (.pointer (some ⟨b4, 0, none⟩)) rz2).toArray 126 (0, 0))], [(b4, .cells (Dev.enc (ev1) (ev2) (ev3) (ev4) rz3).toArray 85 (0, 0))], eg1, eg2, eg3, eg4] ++ [C] ∧ Own rByte ev1 rz3.blk eg1 ∧ Own rByte ev2 rz3.base eg2 ∧ Own rInt ev3 rz3.at_ eg3 ∧ Own rByte ev4 rz3.data eg4) := by
  refine fn_entry (args := [.pointer (some ⟨b1, 0, none⟩)]) Tryz.func217 rfl Tryz.ntmps217 rfl (fun w0 => ?_)
  refine c_seq ?_
  refine c_region ?_
  refine o_L (y_assign rfl) rfl rfl ?_
  refine o_nil0 rfl ?_
  refine c_seq ?_
  refine c_region ?_
  refine o_T (y_move rfl) rfl ?_
  obtain ⟨l1, hx1, hm⟩ := bd1 hm
  refine o_callC en_234 rfl (s_take s_nil) (t234 hx1) rfl (fun u1 S1 hR1 => ?_)
  obtain ⟨v5, g5, rfl, rfl, ho5⟩ := hR1
  refine o_rest ?_
  refine o_L (y_assign rfl) rfl rfl ?_
  refine o_nil0 rfl ?_
  refine c_seq ?_
  refine c_region ?_
  refine o_T (y_move rfl) rfl ?_
  refine o_T (y_nilck rfl) rfl ?_
  refine o_T (y_fa fl_179_0 rfl) rfl ?_
  refine o_ld one_29 rfl m0 (At.got (At.refl.comp Graph.a_t)) rfl ?_
  refine o_T (y_move rfl) rfl ?_
  obtain ⟨c1, c2, z1, z2, z3, hx2, hm⟩ := bd5 hm
  refine o_callC en_214 rfl (s_skip (s_skip (s_take (s_take (s_take (s_take (s_take (s_take (s_take s_nil))))))))) (t214 ho1 ho2 ho3 ho4 (ho5.rd.mono (fun _ hz => (ms (mg hz)))) hx2) rfl (fun u2 S2 hR2 => ?_)
  obtain ⟨v6, g6, v7, g7, v8, g8, v9, g9, rfl, rfl, ho6, ho7, ho8, ho9⟩ := hR2
  refine o_rest ?_
  refine o_T (y_move rfl) rfl ?_
  refine o_T (y_extract rfl rfl) rfl ?_
  refine o_T (y_extract rfl rfl) rfl ?_
  refine o_L (y_assign rfl) rfl rfl ?_
  refine o_L (y_assign rfl) rfl rfl ?_
  refine o_nil0 rfl ?_
  refine c_seq ?_
  refine c_seq ?_
  refine c_region ?_
  refine o_T (y_move rfl) rfl ?_
  refine o_T (y_neq rfl rfl) rfl ?_
  refine o_nil1 19 rfl rfl ?_
  refine c_cond rfl (fun h1 => ?_) (fun h1 => ?_)
  · have hm := cd_t h1 hm
    refine c_seq ?_
    refine c_region ?_
    refine o_T (y_move rfl) rfl ?_
    refine o_L (y_assign rfl) rfl rfl ?_
    refine o_nil0 rfl ?_
    refine c_ret ?_
    obtain ⟨rfl, rfl, rfl, rfl⟩ := pr4 hm
    refine fun aX wX heX hsX => ret1 Tryz.results217 heX rfl (s_get (ks (ks (ks (ks (ks (ks (ks k0))))))) (s_take (s_take (s_take (s_take (s_take (s_take (s_take (s_skip (s_take s_nil)))))))))) ?_
    exact ⟨v6, _, v7, _, v8, _, v9, _, rfl, rfl, ho6, ho7, ho8, ho9⟩
  · have hm := cd_f h1 hm
    refine c_skip ?_
    refine c_seq ?_
    refine c_region ?_
    refine o_T (y_move rfl) rfl ?_
    refine o_T (y_nilck rfl) rfl ?_
    refine o_T (y_fa fl_179_0 rfl) rfl ?_
    refine o_ld one_29 rfl (ms (ms (ms (ms (ms (ms (ms m0))))))) (At.got (At.refl.comp Graph.a_t)) rfl ?_
    obtain ⟨c3, hx3, hm⟩ := bd1 hm
    refine o_callC en_168 rfl (s_take (s_take s_nil)) (t168 hx3) rfl (fun u3 S3 hR3 => ?_)
    obtain ⟨rfl, rfl⟩ := hR3
    refine o_rest ?_
    refine o_L (y_assign rfl) rfl rfl ?_
    refine o_nil0 rfl ?_
    refine c_seq ?_
    refine c_seq ?_
    refine c_region ?_
    refine o_T (y_move rfl) rfl ?_
    refine o_T (y_move rfl) rfl ?_
    refine o_T (y_neq rfl rfl) rfl ?_
    refine o_nil1 28 rfl rfl ?_
    refine c_cond rfl (fun h2 => ?_) (fun h2 => ?_)
    · have hm := cd_t h2 hm
      refine c_region ?_
      refine o_T (y_move rfl) rfl ?_
      refine o_T (y_nilck rfl) rfl ?_
      refine o_T (y_fa fl_179_0 rfl) rfl ?_
      refine o_ld one_29 rfl (ms (ms (ms (ms (ms (ms (ms m0))))))) (At.got (At.refl.comp Graph.a_t)) rfl ?_
      refine o_T (y_move rfl) rfl ?_
      obtain ⟨c4, z4, z5, hx4, hm⟩ := bd3 hm
      refine o_callC en_276 rfl (s_take (s_take (s_take (s_take (s_take (s_take (s_take s_nil))))))) (t276 ho6 ho7 ho8 ho9 hx4) rfl (fun u4 S4 hR4 => ?_)
      obtain ⟨rfl, rfl⟩ := hR4
      refine o_rest ?_
      refine o_nil0 rfl ?_
      refine c_seq ?_
      refine c_region ?_
      refine o_T (y_move rfl) rfl ?_
      refine o_T (y_nilck rfl) rfl ?_
      refine o_T (y_fa fl_179_0 rfl) rfl ?_
      refine o_ld one_29 rfl (ms (ms (ms (ms (ms (ms (ms m0))))))) (At.got (At.refl.comp Graph.a_t)) rfl ?_
      refine o_T (y_move rfl) rfl ?_
      obtain ⟨c5, z6, z7, hx5, hm⟩ := bd3 hm
      refine o_callC en_237 rfl (s_take (s_take (s_take (s_take (s_take (s_take (s_take s_nil))))))) (t237 ho6 ho7 ho8 ho9 hx5) rfl (fun u5 S5 hR5 => ?_)
      obtain ⟨v10, g10, v11, g11, v12, g12, v13, g13, rfl, rfl, ho10, ho11, ho12, ho13⟩ := hR5
      refine o_rest ?_
      refine o_nil0 rfl ?_
      refine c_seq ?_
      refine c_region ?_
      refine o_L (y_assign rfl) rfl rfl ?_
      refine o_nil0 rfl ?_
      refine c_ret ?_
      obtain ⟨rfl, rfl, rfl, rfl⟩ := pr4 hm
      refine fun aX wX heX hsX => ret1 Tryz.results217 heX rfl (s_get (ks (ks (ks (ks (ks (ks (ks k0))))))) (s_take (s_take (s_take (s_take (s_take (s_take (s_take (s_skip (s_take s_nil)))))))))) ?_
      exact ⟨v10, _, v11, _, v12, _, v13, _, rfl, rfl, ho10, ho11, ho12, ho13⟩
    · have hm := cd_f h2 hm
      refine c_skip ?_
      refine c_seq ?_
      refine c_region ?_
      refine o_T (y_move rfl) rfl ?_
      refine o_T (y_nilck rfl) rfl ?_
      refine o_T (y_fa fl_179_0 rfl) rfl ?_
      refine o_ld one_29 rfl (ms (ms (ms (ms (ms (ms (ms m0))))))) (At.got (At.refl.comp Graph.a_t)) rfl ?_
      refine o_T (y_move rfl) rfl ?_
      obtain ⟨c6, z8, z9, hx6, hm⟩ := bd3 hm
      refine o_callC en_237 rfl (s_take (s_take (s_take (s_take (s_take (s_take (s_take s_nil))))))) (t237 ho6 ho7 ho8 ho9 hx6) rfl (fun u6 S6 hR6 => ?_)
      obtain ⟨v14, g14, v15, g15, v16, g16, v17, g17, rfl, rfl, ho14, ho15, ho16, ho17⟩ := hR6
      refine o_rest ?_
      refine o_nil0 rfl ?_
      refine c_seq ?_
      refine c_region ?_
      refine o_L (y_assign rfl) rfl rfl ?_
      refine o_nil0 rfl ?_
      refine c_ret ?_
      obtain ⟨rfl, rfl, rfl, rfl⟩ := pr4 hm
      refine fun aX wX heX hsX => ret1 Tryz.results217 heX rfl (s_get (ks (ks (ks (ks (ks (ks (ks k0))))))) (s_take (s_take (s_take (s_take (s_take (s_take (s_take (s_skip (s_take s_nil)))))))))) ?_
      exact ⟨v14, _, v15, _, v16, _, v17, _, rfl, rfl, ho14, ho15, ho16, ho17⟩
end Go.Proofs.Qxb6500350aGreat
