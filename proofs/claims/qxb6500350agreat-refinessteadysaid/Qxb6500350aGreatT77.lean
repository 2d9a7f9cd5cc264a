/- MADE BY PROGRAM (tools350/mir.py): mirror and walk. -/
import Derived.Test.Qxb6500350aGreatF2
import Derived.Test.Qxb6500350aGreatT172
import Derived.Test.Qxb6500350aGreatT173
import Derived.Test.Qxb6500350aGreatT174
set_option linter.unusedVariables false
set_option linter.unusedSimpArgs false
set_option maxRecDepth 20000
set_option maxHeartbeats 4000000
namespace Go.Proofs.Qxb6500350aGreat
open Go.Eng

/- repo.Open -/
def m77 (n : Nat) (g : Graph) (t : Trees) (s : Store) (d : Dev) (x : Index) (e : Engine) : Option (RepoR × Index) :=
ob1 (m172 n g t s d) fun l1 =>
ob2 (m173 n x l1) fun c1 z1 =>
ob1 (m174 n RepoR.zero l1) fun z2 =>
some (z2, z1)
theorem t77 {n : Nat} {C : List Chunk} {rz1 : RepoR} {rz2 : Index} {b1 : Nat} {g : Graph} {b2 : Nat} {t : Trees} {b3 : Nat} {s : Store} {b4 : Nat} {d : Dev} {v1 : Value} {g1 : List Chunk} {v2 : Value} {g2 : List Chunk} {v3 : Value} {g3 : List Chunk} {v4 : Value} {g4 : List Chunk} {b5 : Nat} {x : Index} {b6 : Nat} {e : Engine} {v5 : Value} {g5 : List Chunk} {v6 : Value} {g6 : List Chunk} {v7 : Value} {g7 : List Chunk} (ho1 : Own rByte v1 d.blk g1) (ho2 : Own rByte v2 d.base g2) (ho3 : Own rInt v3 d.at_ g3) (ho4 : Own rByte v4 d.data g4) (ho5 : Own rStr v5 e.line_ g5) (ho6 : Own rInt v6 e.sum g6) (ho7 : Own rInt v7 e.nxt g7)  (hm : m77 n g t s d x e = some (rz1, rz2)) : Trip Tryz.prog 77 #[.pointer (some ⟨b1, 0, none⟩), .pointer (some ⟨b5, 0, none⟩), .pointer (some ⟨b6, 0, none⟩)] ([[(b1, .cells (Graph.enc (.pointer (some ⟨b2, 0, none⟩)) g).toArray 179 (0, 0))], [(b2, .cells (Trees.enc (.pointer (some ⟨b3, 0, none⟩)) t).toArray 169 (0, 0))], [(b3, .cells (Store.enc (.pointer (some ⟨b4, 0, none⟩)) s).toArray 126 (0, 0))], [(b4, .cells (Dev.enc (v1) (v2) (v3) (v4) d).toArray 85 (0, 0))], g1, g2, g3, g4, [(b5, .cells (Index.enc x).toArray 184 (0, 0))], [(b6, .cells (Engine.enc (v5) (v6) (v7) e).toArray 187 (0, 0))], g5, g6, g7] ++ [C]) (fun u S' => ∃ (eb1 : Nat), .pointer (some ⟨eb1, 0, none⟩) = u ∧ S' = [[(b1, .cells (Graph.enc (.pointer (some ⟨b2, 0, none⟩)) g).toArray 179 (0, 0))], [(b2, .cells (Trees.enc (.pointer (some ⟨b3, 0, none⟩)) t).toArray 169 (0, 0))], [(b3, .cells (Store.enc (.pointer (some ⟨b4, 0, none⟩)) s).toArray 126 (0, 0))], [(b4, .cells (Dev.enc (v1) (v2) (v3) (v4) d).toArray 85 (0, 0))], g1, g2, g3, g4, [(b5, .cells (Index.enc rz2).toArray 184 (0, 0))], [(b6, .cells (Engine.enc (v5) (v6) (v7) e).toArray 187 (0, 0))], g5, g6, g7, [(eb1, .cells (RepoR.enc (.pointer (some ⟨b1, 0, none⟩)) (.pointer (some ⟨b5, 0, none⟩)) (.pointer (some ⟨b6, 0, none⟩)) rz1).toArray 130 (0, 0))]] ++ [C]) := by
  refine fn_entry (args := [.pointer (some ⟨b1, 0, none⟩), .pointer (some ⟨b5, 0, none⟩), .pointer (some ⟨b6, 0, none⟩)]) Tryz.func77 rfl Tryz.ntmps77 rfl (fun w0 => ?_)
  refine c_seq ?_
  refine c_region ?_
  refine o_L (y_assign rfl) rfl rfl ?_
  refine o_nil0 rfl ?_
  refine c_seq ?_
  refine c_region ?_
  refine o_T (y_move rfl) rfl ?_
  refine o_T (y_move rfl) rfl ?_
  refine o_T (y_move rfl) rfl ?_
  refine o_T (y_build st_130 rfl (fbU rfl RepoR.u_g rfl rfl (fbU rfl RepoR.u_x rfl rfl (fbU rfl RepoR.u_d rfl rfl fbU0)))) rfl ?_
  refine o_box rfl rfl rfl rfl (fun b7 => ?_)
  refine o_L (y_assign rfl) rfl rfl ?_
  refine o_nil0 rfl ?_
  refine c_seq ?_
  refine c_region ?_
  refine o_T (y_move rfl) rfl ?_
  obtain ⟨l1, hx1, hm⟩ := bd1 hm
  refine o_callC en_172 rfl (s_skip (s_take (s_take (s_take (s_take (s_take (s_take (s_take (s_take s_nil))))))))) (t172 ho1 ho2 ho3 ho4 hx1) rfl (fun u1 S1 hR1 => ?_)
  obtain ⟨v8, g8, rfl, rfl, ho8⟩ := hR1
  refine o_rest ?_
  refine o_L (y_assign rfl) rfl rfl ?_
  refine o_nil0 rfl ?_
  refine c_seq ?_
  refine c_region ?_
  refine o_T (y_move rfl) rfl ?_
  refine o_T (y_move rfl) rfl ?_
  obtain ⟨c1, z1, hx2, hm⟩ := bd2 hm
  refine o_callC en_173 rfl (s_skip (s_skip (s_skip (s_skip (s_skip (s_skip (s_skip (s_skip (s_skip (s_skip (s_take s_nil))))))))))) (t173 (ho8.rd.mono (fun _ hz => (ms (ms (ms (ms (ms (ms (ms (ms (mg hz))))))))))) hx2) rfl (fun u2 S2 hR2 => ?_)
  obtain ⟨rfl, rfl⟩ := hR2
  refine o_rest ?_
  refine o_nil0 rfl ?_
  refine c_seq ?_
  refine c_region ?_
  refine o_T (y_move rfl) rfl ?_
  refine o_T (y_move rfl) rfl ?_
  obtain ⟨z2, hx3, hm⟩ := bd1 hm
  refine o_callC en_174 rfl (s_skip (s_skip (s_skip (s_skip (s_skip (s_skip (s_skip (s_skip (s_skip (s_skip (s_take s_nil))))))))))) (t174 (ho8.rd.mono (fun _ hz => (ms (ms (ms (ms (ms (ms (ms (ms (ms (mg hz)))))))))))) hx3) rfl (fun u3 S3 hR3 => ?_)
  obtain ⟨rfl, rfl⟩ := hR3
  refine o_rest ?_
  refine o_nil0 rfl ?_
  refine c_seq ?_
  refine c_region ?_
  refine o_T (y_move rfl) rfl ?_
  refine o_L (y_assign rfl) rfl rfl ?_
  refine o_nil0 rfl ?_
  refine c_ret ?_
  obtain ⟨rfl, rfl⟩ := pr2 hm
  refine fun aX wX heX hsX => ret1 Tryz.results77 heX rfl (s_get (ks (ks k0)) (s_get (ks (ks k0)) (s_get (ks (ks k0)) (s_get (ks (ks k0)) (s_get (ks (ks k0)) (s_get (ks (ks k0)) (s_get (ks (ks k0)) (s_get (ks (ks k0)) (s_get (ks k0) (s_get (ks (ks k0)) (s_get (ks (ks k0)) (s_get (ks (ks k0)) (s_get (ks (ks k0)) (s_take (s_skip (s_take s_nil)))))))))))))))) ?_
  exact ⟨b7, rfl, rfl⟩
end Go.Proofs.Qxb6500350aGreat
