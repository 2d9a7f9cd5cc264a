/- MADE BY PROGRAM (tools350/mir.py): mirror and walk. -/
import Derived.Test.Qxb6500350aGreatF2
import Derived.Test.Qxb6500350aGreatT152
import Derived.Test.Qxb6500350aGreatT212
set_option linter.unusedVariables false
set_option linter.unusedSimpArgs false
set_option maxRecDepth 20000
set_option maxHeartbeats 4000000
namespace Go.Proofs.Qxb6500350aGreat
open Go.Eng

/- (*graph.Graph).SetAux -/
def m208 (n : Nat) (g : Graph) (t : Trees) (s : Store) (d : Dev) (files : (List File)) : Option (Int × Graph × Trees × Store × Dev) :=
ob1 (m152 n files) fun c1 =>
cond (decide (¬ (c1 = 0))) (
some (c1, g, t, s, d)) (
ob5 (m212 n g t s d files) fun c2 c3 z1 z2 z3 =>
cond (decide (¬ (c3 = 0))) (
some (c3, g, z1, z2, z3)) (
nm ({ g with aux := c2 } : Graph) fun z4 =>
some (0, z4, z1, z2, z3)))
theorem t208 {n : Nat} {C : List Chunk} {rc1 : Int} {rz1 : Graph} {rz2 : Trees} {rz3 : Store} {rz4 : Dev} {b1 : Nat} {g : Graph} {b2 : Nat} {t : Trees} {b3 : Nat} {s : Store} {b4 : Nat} {d : Dev} {v1 : Value} {g1 : List Chunk} {v2 : Value} {g2 : List Chunk} {v3 : Value} {g3 : List Chunk} {v4 : Value} {g4 : List Chunk} {v5 : Value} {files : (List File)} (ho1 : Own rByte v1 d.blk g1) (ho2 : Own rByte v2 d.base g2) (ho3 : Own rInt v3 d.at_ g3) (ho4 : Own rByte v4 d.data g4) (hr1 : Rd rFile C v5 files)  (hm : m208 n g t s d files = some (rc1, rz1, rz2, rz3, rz4)) : Trip Tryz.prog 208 #[.pointer (some ⟨b1, 0, none⟩), v5] ([[(b1, .cells (Graph.enc (.pointer (some ⟨b2, 0, none⟩)) g).toArray 179 (0, 0))], [(b2, .cells (Trees.enc (.pointer (some ⟨b3, 0, none⟩)) t).toArray 169 (0, 0))], [(b3, .cells (Store.enc (.pointer (some ⟨b4, 0, none⟩)) s).toArray 126 (0, 0))], [(b4, .cells (Dev.enc (v1) (v2) (v3) (v4) d).toArray 85 (0, 0))], g1, g2, g3, g4] ++ [C]) (fun u S' => ∃ (ev1 : Value), ∃ (eg1 : List Chunk), ∃ (ev2 : Value), ∃ (eg2 : List Chunk), ∃ (ev3 : Value), ∃ (eg3 : List Chunk), ∃ (ev4 : Value), ∃ (eg4 : List Chunk), .int .i64 rc1 = u ∧ S' = [[(b1, .cells (Graph.enc (.pointer (some ⟨b2, 0, none⟩)) rz1).toArray 179 (0, 0))], [(b2, .cells (Trees.enc (.pointer (some ⟨b3, 0, none⟩)) rz2).toArray 169 (0, 0))], [(b3, .cells (Store.enc (.pointer (some ⟨b4, 0, none⟩)) rz3).toArray 126 (0, 0))], [(b4, .cells (Dev.enc (ev1) (ev2) (ev3) (ev4) rz4).toArray 85 (0, 0))], eg1, eg2, eg3, eg4] ++ [C] ∧ Own rByte ev1 rz4.blk eg1 ∧ Own rByte ev2 rz4.base eg2 ∧ Own rInt ev3 rz4.at_ eg3 ∧ Own rByte ev4 rz4.data eg4) := by
  refine fn_entry (args := [.pointer (some ⟨b1, 0, none⟩), v5]) Tryz.func208 rfl Tryz.ntmps208 rfl (fun w0 => ?_)
  refine c_seq ?_
  refine c_region ?_
  refine o_L (y_assign rfl) rfl rfl ?_
  refine o_nil0 rfl ?_
  refine c_seq ?_
  refine c_region ?_
  refine o_T (y_move rfl) rfl ?_
  obtain ⟨c1, hx1, hm⟩ := bd1 hm
  refine o_callC en_152 rfl s_nil (t152 (hr1.mono (fun _ hz => (ms (ms (ms (ms (ms (ms (ms (ms (mg hz))))))))))) hx1) rfl (fun u1 S1 hR1 => ?_)
  obtain ⟨rfl, rfl⟩ := hR1
  refine o_rest ?_
  refine o_L (y_assign rfl) rfl rfl ?_
  refine o_nil0 rfl ?_
  refine c_seq ?_
  refine c_seq ?_
  refine c_region ?_
  refine o_T (y_move rfl) rfl ?_
  refine o_T (y_neq rfl rfl) rfl ?_
  refine o_nil1 10 rfl rfl ?_
  refine c_cond rfl (fun h1 => ?_) (fun h1 => ?_)
  · have hm := cd_t h1 hm
    refine c_seq ?_
    refine c_region ?_
    refine o_T (y_move rfl) rfl ?_
    refine o_L (y_assign rfl) rfl rfl ?_
    refine o_nil0 rfl ?_
    refine c_ret ?_
    obtain ⟨rfl, rfl, rfl, rfl, rfl⟩ := pr5 hm
    refine fun aX wX heX hsX => ret1 Tryz.results208 heX rfl (s_take (s_take (s_take (s_take (s_take (s_take (s_take (s_take (s_take s_nil))))))))) ?_
    exact ⟨v1, _, v2, _, v3, _, v4, _, rfl, rfl, ho1, ho2, ho3, ho4⟩
  · have hm := cd_f h1 hm
    refine c_skip ?_
    refine c_seq ?_
    refine c_region ?_
    refine o_T (y_move rfl) rfl ?_
    refine o_T (y_move rfl) rfl ?_
    obtain ⟨c2, c3, z1, z2, z3, hx2, hm⟩ := bd5 hm
    refine o_callC en_212 rfl (s_take (s_take (s_take (s_take (s_take (s_take (s_take (s_take s_nil)))))))) (t212 ho1 ho2 ho3 ho4 (hr1.mono (fun _ hz => (mg hz))) hx2) rfl (fun u2 S2 hR2 => ?_)
    obtain ⟨v6, g5, v7, g6, v8, g7, v9, g8, rfl, rfl, ho5, ho6, ho7, ho8⟩ := hR2
    refine o_rest ?_
    refine o_T (y_move rfl) rfl ?_
    refine o_T (y_extract rfl rfl) rfl ?_
    refine o_T (y_extract rfl rfl) rfl ?_
    refine o_L (y_assign rfl) rfl rfl ?_
    refine o_L (y_assign rfl) rfl rfl ?_
    refine o_nil0 rfl ?_
    refine c_seq ?_
    refine c_seq ?_
    refine c_region ?_
    refine o_T (y_move rfl) rfl ?_
    refine o_T (y_neq rfl rfl) rfl ?_
    refine o_nil1 19 rfl rfl ?_
    refine c_cond rfl (fun h2 => ?_) (fun h2 => ?_)
    · have hm := cd_t h2 hm
      refine c_seq ?_
      refine c_region ?_
      refine o_T (y_move rfl) rfl ?_
      refine o_L (y_assign rfl) rfl rfl ?_
      refine o_nil0 rfl ?_
      refine c_ret ?_
      obtain ⟨rfl, rfl, rfl, rfl, rfl⟩ := pr5 hm
      refine fun aX wX heX hsX => ret1 Tryz.results208 heX rfl (s_take (s_take (s_take (s_take (s_take (s_take (s_take (s_take (s_take s_nil))))))))) ?_
      exact ⟨v6, _, v7, _, v8, _, v9, _, rfl, rfl, ho5, ho6, ho7, ho8⟩
    · have hm := cd_f h2 hm
      refine c_skip ?_
      refine c_seq ?_
      refine c_region ?_
      refine o_T (y_move rfl) rfl ?_
      refine o_T (y_move rfl) rfl ?_
      refine o_T (y_nilck rfl) rfl ?_
      refine o_T (y_fa fl_179_9 rfl) rfl ?_
      obtain ⟨z4, hn1, hm⟩ := nm_s hm
      refine o_stN one_3 rfl rfl rfl (Upd.z Graph.u_aux) r0 (show (Graph.enc (.pointer (some ⟨b2, 0, none⟩)) z4) = _ from by subst hn1; rfl) ?_
      refine o_nil0 rfl ?_
      refine c_seq ?_
      refine c_region ?_
      refine o_L (y_assign rfl) rfl rfl ?_
      refine o_nil0 rfl ?_
      refine c_ret ?_
      obtain ⟨rfl, rfl, rfl, rfl, rfl⟩ := pr5 hm
      refine fun aX wX heX hsX => ret1 Tryz.results208 heX rfl (s_take (s_take (s_take (s_take (s_take (s_take (s_take (s_take (s_take s_nil))))))))) ?_
      exact ⟨v6, _, v7, _, v8, _, v9, _, rfl, rfl, ho5, ho6, ho7, ho8⟩
end Go.Proofs.Qxb6500350aGreat
