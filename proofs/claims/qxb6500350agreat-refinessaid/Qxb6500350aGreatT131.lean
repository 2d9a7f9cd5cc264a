/- MADE BY PROGRAM (tools350/mir.py): mirror and walk. -/
import Derived.Test.Qxb6500350aGreatF2
import Derived.Test.Qxb6500350aGreatT216
import Derived.Test.Qxb6500350aGreatT172
import Derived.Test.Qxb6500350aGreatT173
set_option linter.unusedVariables false
set_option linter.unusedSimpArgs false
set_option maxRecDepth 20000
set_option maxHeartbeats 4000000
namespace Go.Proofs.Qxb6500350aGreat
open Go.Eng

/- (*repo.Repo).back -/
def m131 (n : Nat) (r : RepoR) (g : Graph) (t : Trees) (s : Store) (d : Dev) (x : Index) (e_ : Int) : Option (Int × Graph × Trees × Store × Index) :=
ob3 (m216 n g t s d) fun z1 z2 z3 =>
ob1 (m172 n z1 z2 z3 d) fun l1 =>
ob2 (m173 n x l1) fun c1 z4 =>
some (e_, z1, z2, z3, z4)
theorem t131 {n : Nat} {C : List Chunk} {rc1 : Int} {rz1 : Graph} {rz2 : Trees} {rz3 : Store} {rz4 : Index} {b1 : Nat} {r : RepoR} {b2 : Nat} {g : Graph} {b3 : Nat} {t : Trees} {b4 : Nat} {s : Store} {b5 : Nat} {d : Dev} {v1 : Value} {g1 : List Chunk} {v2 : Value} {g2 : List Chunk} {v3 : Value} {g3 : List Chunk} {v4 : Value} {g4 : List Chunk} {b6 : Nat} {x : Index} {q1 : Option Addr} {e_ : Int} (ho1 : Own rByte v1 d.blk g1) (ho2 : Own rByte v2 d.base g2) (ho3 : Own rInt v3 d.at_ g3) (ho4 : Own rByte v4 d.data g4)  (hm : m131 n r g t s d x e_ = some (rc1, rz1, rz2, rz3, rz4)) : Trip Tryz.prog 131 #[.pointer (some ⟨b1, 0, none⟩), .int .i64 e_] ([[(b1, .cells (RepoR.enc (.pointer (some ⟨b2, 0, none⟩)) (.pointer (some ⟨b6, 0, none⟩)) ((.pointer q1)) r).toArray 130 (0, 0))], [(b2, .cells (Graph.enc (.pointer (some ⟨b3, 0, none⟩)) g).toArray 179 (0, 0))], [(b3, .cells (Trees.enc (.pointer (some ⟨b4, 0, none⟩)) t).toArray 169 (0, 0))], [(b4, .cells (Store.enc (.pointer (some ⟨b5, 0, none⟩)) s).toArray 126 (0, 0))], [(b5, .cells (Dev.enc (v1) (v2) (v3) (v4) d).toArray 85 (0, 0))], g1, g2, g3, g4, [(b6, .cells (Index.enc x).toArray 184 (0, 0))]] ++ [C]) (fun u S' => .int .i64 rc1 = u ∧ S' = [[(b1, .cells (RepoR.enc (.pointer (some ⟨b2, 0, none⟩)) (.pointer (some ⟨b6, 0, none⟩)) ((.pointer q1)) r).toArray 130 (0, 0))], [(b2, .cells (Graph.enc (.pointer (some ⟨b3, 0, none⟩)) rz1).toArray 179 (0, 0))], [(b3, .cells (Trees.enc (.pointer (some ⟨b4, 0, none⟩)) rz2).toArray 169 (0, 0))], [(b4, .cells (Store.enc (.pointer (some ⟨b5, 0, none⟩)) rz3).toArray 126 (0, 0))], [(b5, .cells (Dev.enc (v1) (v2) (v3) (v4) d).toArray 85 (0, 0))], g1, g2, g3, g4, [(b6, .cells (Index.enc rz4).toArray 184 (0, 0))]] ++ [C]) := by
  refine fn_entry (args := [.pointer (some ⟨b1, 0, none⟩), .int .i64 e_]) Tryz.func131 rfl Tryz.ntmps131 rfl (fun w0 => ?_)
  refine c_seq ?_
  refine c_region ?_
  refine o_L (y_assign rfl) rfl rfl ?_
  refine o_nil0 rfl ?_
  refine c_seq ?_
  refine c_region ?_
  refine o_T (y_move rfl) rfl ?_
  refine o_T (y_nilck rfl) rfl ?_
  refine o_T (y_fa fl_130_0 rfl) rfl ?_
  refine o_ld one_30 rfl m0 (At.got (At.refl.comp RepoR.a_g)) rfl ?_
  obtain ⟨z1, z2, z3, hx1, hm⟩ := bd3 hm
  refine o_callC en_216 rfl (s_skip (s_take (s_take (s_take (s_take (s_take (s_take (s_take (s_take s_nil))))))))) (t216 ho1 ho2 ho3 ho4 hx1) rfl (fun u1 S1 hR1 => ?_)
  obtain ⟨rfl, rfl⟩ := hR1
  refine o_rest ?_
  refine o_nil0 rfl ?_
  refine c_seq ?_
  refine c_region ?_
  refine o_T (y_move rfl) rfl ?_
  refine o_T (y_nilck rfl) rfl ?_
  refine o_T (y_fa fl_130_0 rfl) rfl ?_
  refine o_ld one_30 rfl (ms (ms (ms (ms (ms (ms (ms (ms m0)))))))) (At.got (At.refl.comp RepoR.a_g)) rfl ?_
  obtain ⟨l1, hx2, hm⟩ := bd1 hm
  refine o_callC en_172 rfl (s_take (s_take (s_take (s_take (s_take (s_take (s_take (s_take s_nil)))))))) (t172 ho1 ho2 ho3 ho4 hx2) rfl (fun u2 S2 hR2 => ?_)
  obtain ⟨v5, g5, rfl, rfl, ho5⟩ := hR2
  refine o_rest ?_
  refine o_L (y_assign rfl) rfl rfl ?_
  refine o_nil0 rfl ?_
  refine c_seq ?_
  refine c_region ?_
  refine o_T (y_move rfl) rfl ?_
  refine o_T (y_nilck rfl) rfl ?_
  refine o_T (y_fa fl_130_1 rfl) rfl ?_
  refine o_ld one_31 rfl (ms (ms (ms (ms (ms (ms (ms (ms (ms m0))))))))) (At.got (At.refl.comp RepoR.a_x)) rfl ?_
  refine o_T (y_move rfl) rfl ?_
  obtain ⟨c1, z4, hx3, hm⟩ := bd2 hm
  refine o_callC en_173 rfl (s_skip (s_skip (s_skip (s_skip (s_skip (s_skip (s_skip (s_skip (s_skip (s_skip (s_take s_nil))))))))))) (t173 (ho5.rd.mono (fun _ hz => (ms (ms (ms (ms (ms (ms (ms (ms (mg hz))))))))))) hx3) rfl (fun u3 S3 hR3 => ?_)
  obtain ⟨rfl, rfl⟩ := hR3
  refine o_rest ?_
  refine o_nil0 rfl ?_
  refine c_seq ?_
  refine c_region ?_
  refine o_T (y_move rfl) rfl ?_
  refine o_L (y_assign rfl) rfl rfl ?_
  refine o_nil0 rfl ?_
  refine c_ret ?_
  obtain ⟨rfl, rfl, rfl, rfl, rfl⟩ := pr5 hm
  refine fun aX wX heX hsX => ret1 Tryz.results131 heX rfl (s_get (ks (ks (ks (ks (ks (ks (ks (ks (ks (ks k0)))))))))) (s_get (ks k0) (s_get (ks k0) (s_get (ks k0) (s_get (ks k0) (s_get (ks k0) (s_get (ks k0) (s_get (ks k0) (s_get (ks k0) (s_take (s_skip (s_take s_nil)))))))))))) ?_
  exact ⟨rfl, rfl⟩
end Go.Proofs.Qxb6500350aGreat
