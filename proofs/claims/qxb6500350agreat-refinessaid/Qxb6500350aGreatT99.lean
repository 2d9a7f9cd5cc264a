/- MADE BY PROGRAM (tools350/mir.py): mirror and walk. -/
import Derived.Test.Qxb6500350aGreatF2
import Derived.Test.Qxb6500350aGreatT146
set_option linter.unusedVariables false
set_option linter.unusedSimpArgs false
set_option maxRecDepth 20000
set_option maxHeartbeats 4000000
namespace Go.Proofs.Qxb6500350aGreat
open Go.Eng

/- (*repo.Repo).Show -/
def m99 (n : Nat) (r : RepoR) (g : Graph) (t : Trees) (s : Store) (d : Dev) (seq : Int) : Option (Node × Int) :=
ob2 (m146 n g t s d seq) fun x1 c1 =>
nm (x1 : Node) fun z1 =>
some (z1, c1)
theorem t99 {n : Nat} {C : List Chunk} {rx1 : Node} {rc1 : Int} {b1 : Nat} {r : RepoR} {b2 : Nat} {g : Graph} {b3 : Nat} {t : Trees} {b4 : Nat} {s : Store} {b5 : Nat} {d : Dev} {v1 : Value} {g1 : List Chunk} {v2 : Value} {g2 : List Chunk} {v3 : Value} {g3 : List Chunk} {v4 : Value} {g4 : List Chunk} {q1 : Option Addr} {q2 : Option Addr} {seq : Int} (ho1 : Own rByte v1 d.blk g1) (ho2 : Own rByte v2 d.base g2) (ho3 : Own rInt v3 d.at_ g3) (ho4 : Own rByte v4 d.data g4)  (hm : m99 n r g t s d seq = some (rx1, rc1)) : Trip Tryz.prog 99 #[.pointer (some ⟨b1, 0, none⟩), .int .i64 seq] ([[(b1, .cells (RepoR.enc (.pointer (some ⟨b2, 0, none⟩)) ((.pointer q1)) ((.pointer q2)) r).toArray 130 (0, 0))], [(b2, .cells (Graph.enc (.pointer (some ⟨b3, 0, none⟩)) g).toArray 179 (0, 0))], [(b3, .cells (Trees.enc (.pointer (some ⟨b4, 0, none⟩)) t).toArray 169 (0, 0))], [(b4, .cells (Store.enc (.pointer (some ⟨b5, 0, none⟩)) s).toArray 126 (0, 0))], [(b5, .cells (Dev.enc (v1) (v2) (v3) (v4) d).toArray 85 (0, 0))], g1, g2, g3, g4] ++ [C]) (fun u S' => ∃ (ev1 : Value), ∃ (eg1 : List Chunk), ∃ (ev2 : Value), ∃ (eg2 : List Chunk), .tuple #[.agg (Node.enc (ev1) (ev2) rx1).toArray, .int .i64 rc1] = u ∧ S' = [[(b1, .cells (RepoR.enc (.pointer (some ⟨b2, 0, none⟩)) ((.pointer q1)) ((.pointer q2)) r).toArray 130 (0, 0))], [(b2, .cells (Graph.enc (.pointer (some ⟨b3, 0, none⟩)) g).toArray 179 (0, 0))], [(b3, .cells (Trees.enc (.pointer (some ⟨b4, 0, none⟩)) t).toArray 169 (0, 0))], [(b4, .cells (Store.enc (.pointer (some ⟨b5, 0, none⟩)) s).toArray 126 (0, 0))], [(b5, .cells (Dev.enc (v1) (v2) (v3) (v4) d).toArray 85 (0, 0))], g1, g2, g3, g4, eg1, eg2] ++ [C] ∧ Own rFile ev1 rx1.files eg1 ∧ Own rInt ev2 rx1.parents eg2) := by
  refine fn_entry (args := [.pointer (some ⟨b1, 0, none⟩), .int .i64 seq]) Tryz.func99 rfl Tryz.ntmps99 rfl (fun w0 => ?_)
  refine c_seq ?_
  refine c_region ?_
  refine o_alloc ze_93 rfl rfl (fun b6 => ?_)
  have ho5 : Own rFile (.slice none 0 0) [] [] := Own.nil
  refine o_emp ?_
  have ho6 : Own rInt (.slice none 0 0) [] [] := Own.nil
  refine o_emp ?_
  refine o_L (y_assign rfl) rfl rfl ?_
  refine o_nil0 rfl ?_
  refine c_seq ?_
  refine c_region ?_
  refine o_T (y_move rfl) rfl ?_
  refine o_T (y_nilck rfl) rfl ?_
  refine o_T (y_fa fl_130_0 rfl) rfl ?_
  refine o_ld one_30 rfl (ms (ms (ms m0))) (At.got (At.refl.comp RepoR.a_g)) rfl ?_
  refine o_T (y_move rfl) rfl ?_
  obtain ⟨x1, c1, hx1, hm⟩ := bd2 hm
  refine o_callC en_146 rfl (s_skip (s_skip (s_skip (s_skip (s_take (s_take (s_take (s_take (s_take (s_take (s_take (s_take s_nil)))))))))))) (t146 ho1 ho2 ho3 ho4 hx1) rfl (fun u1 S1 hR1 => ?_)
  obtain ⟨v5, g5, v6, g6, rfl, rfl, ho7, ho8⟩ := hR1
  refine o_rest ?_
  refine o_T (y_extract rfl rfl) rfl ?_
  refine o_T (y_extract rfl rfl) rfl ?_
  obtain ⟨z1, hn1, hm⟩ := nm_s hm
  have ho9 := ho7.to (l' := z1.files) (by subst hn1; rfl)
  have ho10 := ho8.to (l' := z1.parents) (by subst hn1; rfl)
  refine o_stNA ag_93 rfl rfl (Node.plain ho7.pl ho8.pl _) (Node.len _ _ _) (Upd.refl ((Node.len _ _ _).trans (Node.len _ _ _).symm)) (rs (rs (rs (rs (rs (rs (rs (rs (rs (rs (rs (rs r0)))))))))))) (show (Node.enc (v5) (v6) z1) = _ from by subst hn1; rfl) ?_
  refine o_L (y_assign rfl) rfl rfl ?_
  refine o_nil0 rfl ?_
  refine c_ret ?_
  obtain ⟨rfl, rfl⟩ := pr2 hm
  refine fun aX wX heX hsX => retct Tryz.results99 heX hsX rfl rfl ag_93 (ms (ms (ms (ms (ms (ms (ms (ms (ms (ms (ms (ms m0)))))))))))) (by simp [Node.len]) (s_get (ks (ks (ks (ks (ks (ks (ks (ks (ks (ks (ks (ks (ks k0))))))))))))) (s_take (s_take (s_take (s_take (s_take (s_take (s_take (s_take (s_take (s_take (s_skip (s_skip (s_skip (s_take s_nil))))))))))))))) ?_
  exact ⟨v5, _, v6, _, rfl, rfl, ho9, ho10⟩
end Go.Proofs.Qxb6500350aGreat
