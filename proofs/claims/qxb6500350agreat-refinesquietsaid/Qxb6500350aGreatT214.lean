/- MADE BY PROGRAM (tools350/mir.py): mirror and walk. -/
import Derived.Test.Qxb6500350aGreatF2
import Derived.Test.Qxb6500350aGreatT274
set_option linter.unusedVariables false
set_option linter.unusedSimpArgs false
set_option maxRecDepth 20000
set_option maxHeartbeats 4000000
namespace Go.Proofs.Qxb6500350aGreat
open Go.Eng

/- (*tree.Trees).Put -/
def m214 (n : Nat) (t : Trees) (s : Store) (d : Dev) (kind : Int) (data : (List UInt8)) : Option (Int × Int × Trees × Store × Dev) :=
cond (decide (kind = 2)) (
some (0, 3, t, s, d)) (
ob4 (m274 n s d kind data) fun c1 c2 z1 z2 =>
cond (decide (c2 = 0)) (
Option.bind (ckA c1 49) fun _ =>
nm ({ t with kind := (upI t.kind c1 kind) } : Trees) fun z3 =>
some (c1, c2, z3, z1, z2)) (
some (c1, c2, t, z1, z2)))
theorem t214 {n : Nat} {C : List Chunk} {rc1 : Int} {rc2 : Int} {rz1 : Trees} {rz2 : Store} {rz3 : Dev} {b1 : Nat} {t : Trees} {b2 : Nat} {s : Store} {b3 : Nat} {d : Dev} {v1 : Value} {g1 : List Chunk} {v2 : Value} {g2 : List Chunk} {v3 : Value} {g3 : List Chunk} {v4 : Value} {g4 : List Chunk} {kind : Int} {v5 : Value} {data : (List UInt8)} (ho1 : Own rByte v1 d.blk g1) (ho2 : Own rByte v2 d.base g2) (ho3 : Own rInt v3 d.at_ g3) (ho4 : Own rByte v4 d.data g4) (hr1 : Rd rByte C v5 data)  (hm : m214 n t s d kind data = some (rc1, rc2, rz1, rz2, rz3)) : Trip Tryz.prog 214 #[.pointer (some ⟨b1, 0, none⟩), .int .i64 kind, v5] ([[(b1, .cells (Trees.enc (.pointer (some ⟨b2, 0, none⟩)) t).toArray 169 (0, 0))], [(b2, .cells (Store.enc (.pointer (some ⟨b3, 0, none⟩)) s).toArray 126 (0, 0))], [(b3, .cells (Dev.enc (v1) (v2) (v3) (v4) d).toArray 85 (0, 0))], g1, g2, g3, g4] ++ [C]) (fun u S' => ∃ (ev1 : Value), ∃ (eg1 : List Chunk), ∃ (ev2 : Value), ∃ (eg2 : List Chunk), ∃ (ev3 : Value), ∃ (eg3 : List Chunk), ∃ (ev4 : Value), ∃ (eg4 : List Chunk), .tuple #[.int .i64 rc1, .int .i64 rc2] = u ∧ S' = [[(b1, .cells (Trees.enc (.pointer (some ⟨b2, 0, none⟩)) rz1).toArray 169 (0, 0))], [(b2, .cells (Store.enc (.pointer (some ⟨b3, 0, none⟩)) rz2).toArray 126 (0, 0))], [(b3, .cells (Dev.enc (ev1) (ev2) (ev3) (ev4) rz3).toArray 85 (0, 0))], eg1, eg2, eg3, eg4] ++ [C] ∧ Own rByte ev1 rz3.blk eg1 ∧ Own rByte ev2 rz3.base eg2 ∧ Own rInt ev3 rz3.at_ eg3 ∧ Own rByte ev4 rz3.data eg4) := by
  refine fn_entry (args := [.pointer (some ⟨b1, 0, none⟩), .int .i64 kind, v5]) Tryz.func214 rfl Tryz.ntmps214 rfl (fun w0 => ?_)
  refine c_seq ?_
  refine c_region ?_
  refine o_L (y_assign rfl) rfl rfl ?_
  refine o_L (y_assign rfl) rfl rfl ?_
  refine o_nil0 rfl ?_
  refine c_seq ?_
  refine c_seq ?_
  refine c_region ?_
  refine o_T (y_move rfl) rfl ?_
  refine o_T (y_eql rfl rfl) rfl ?_
  refine o_nil1 11 rfl rfl ?_
  refine c_cond rfl (fun h1 => ?_) (fun h1 => ?_)
  · have hm := cd_t h1 hm
    refine c_seq ?_
    refine c_region ?_
    refine o_L (y_assign rfl) rfl rfl ?_
    refine o_L (y_assign rfl) rfl rfl ?_
    refine o_nil0 rfl ?_
    refine c_ret ?_
    obtain ⟨rfl, rfl, rfl, rfl, rfl⟩ := pr5 hm
    refine fun aX wX heX hsX => ret2 Tryz.results214 heX rfl rfl (s_take (s_take (s_take (s_take (s_take (s_take (s_take (s_take s_nil)))))))) ?_
    exact ⟨v1, _, v2, _, v3, _, v4, _, rfl, rfl, ho1, ho2, ho3, ho4⟩
  · have hm := cd_f h1 hm
    refine c_skip ?_
    refine c_seq ?_
    refine c_region ?_
    refine o_T (y_move rfl) rfl ?_
    refine o_T (y_nilck rfl) rfl ?_
    refine o_T (y_fa fl_169_0 rfl) rfl ?_
    refine o_ld one_28 rfl m0 (At.got (At.refl.comp Trees.a_o)) rfl ?_
    refine o_T (y_move rfl) rfl ?_
    refine o_T (y_move rfl) rfl ?_
    obtain ⟨c1, c2, z1, z2, hx1, hm⟩ := bd4 hm
    refine o_callC en_274 rfl (s_skip (s_take (s_take (s_take (s_take (s_take (s_take s_nil))))))) (t274 ho1 ho2 ho3 ho4 (hr1.mono (fun _ hz => (ms (mg hz)))) hx1) rfl (fun u1 S1 hR1 => ?_)
    obtain ⟨v6, g5, v7, g6, v8, g7, v9, g8, rfl, rfl, ho5, ho6, ho7, ho8⟩ := hR1
    refine o_rest ?_
    refine o_T (y_move rfl) rfl ?_
    refine o_T (y_extract rfl rfl) rfl ?_
    refine o_T (y_extract rfl rfl) rfl ?_
    refine o_L (y_assign rfl) rfl rfl ?_
    refine o_L (y_assign rfl) rfl rfl ?_
    refine o_nil0 rfl ?_
    refine c_seq ?_
    refine c_seq ?_
    refine c_region ?_
    refine o_T (y_move rfl) rfl ?_
    refine o_T (y_eql rfl rfl) rfl ?_
    refine o_nil1 23 rfl rfl ?_
    refine c_cond rfl (fun h2 => ?_) (fun h2 => ?_)
    · have hm := cd_t h2 hm
      refine c_region ?_
      refine o_T (y_move rfl) rfl ?_
      refine o_T (y_move rfl) rfl ?_
      refine o_T (y_move rfl) rfl ?_
      refine o_T (y_nilck rfl) rfl ?_
      refine o_T (y_fa fl_169_1 rfl) rfl ?_
      obtain ⟨_, hx2, hm⟩ := bd hm
      have hx2 := ckA_some hx2
      refine o_T (y_ia ar_167 rfl rfl hx2.1 hx2.2) rfl ?_
      obtain ⟨z3, hn1, hm⟩ := nm_s hm
      refine o_stN one_3 rfl rfl rfl ((Upd.z Trees.u_kind).comp (encN_u encI_len _ _ _ hx2.1 _ hx2.2)) (rs (rs (rs (rs (rs (rs r0)))))) (show (Trees.enc (.pointer (some ⟨b2, 0, none⟩)) z3) = _ from by subst hn1; rfl) ?_
      refine o_nil0 rfl ?_
      refine c_seq ?_
      refine c_region ?_
      refine o_T (y_move rfl) rfl ?_
      refine o_T (y_move rfl) rfl ?_
      refine o_L (y_assign rfl) rfl rfl ?_
      refine o_L (y_assign rfl) rfl rfl ?_
      refine o_nil0 rfl ?_
      refine c_ret ?_
      obtain ⟨rfl, rfl, rfl, rfl, rfl⟩ := pr5 hm
      refine fun aX wX heX hsX => ret2 Tryz.results214 heX rfl rfl (s_get (ks (ks (ks (ks (ks (ks k0)))))) (s_take (s_take (s_take (s_take (s_take (s_take (s_take s_nil)))))))) ?_
      exact ⟨v6, _, v7, _, v8, _, v9, _, rfl, rfl, ho5, ho6, ho7, ho8⟩
    · have hm := cd_f h2 hm
      refine c_skip ?_
      refine c_seq ?_
      refine c_region ?_
      refine o_T (y_move rfl) rfl ?_
      refine o_T (y_move rfl) rfl ?_
      refine o_L (y_assign rfl) rfl rfl ?_
      refine o_L (y_assign rfl) rfl rfl ?_
      refine o_nil0 rfl ?_
      refine c_ret ?_
      obtain ⟨rfl, rfl, rfl, rfl, rfl⟩ := pr5 hm
      refine fun aX wX heX hsX => ret2 Tryz.results214 heX rfl rfl (s_get (ks (ks (ks (ks (ks (ks k0)))))) (s_take (s_take (s_take (s_take (s_take (s_take (s_take s_nil)))))))) ?_
      exact ⟨v6, _, v7, _, v8, _, v9, _, rfl, rfl, ho5, ho6, ho7, ho8⟩
end Go.Proofs.Qxb6500350aGreat
