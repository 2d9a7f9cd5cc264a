/- MADE BY PROGRAM (tools350/mir.py): mirror and walk. -/
import Derived.Test.Qxb6500350aGreatF2
import Derived.Test.Qxb6500350aGreatT146
import Derived.Test.Qxb6500350aGreatT144
set_option linter.unusedVariables false
set_option linter.unusedSimpArgs false
set_option maxRecDepth 20000
set_option maxHeartbeats 4000000
namespace Go.Proofs.Qxb6500350aGreat
open Go.Eng

/- (*repo.Repo).Checkout -/
def m63 (n : Nat) (r : RepoR) (g : Graph) (t : Trees) (s : Store) (d : Dev) (x : Index) (seq : Int) : Option (Int × RepoR × Graph × Trees × Store × Dev × Index) :=
ob2 (m146 n g t s d seq) fun x1 c1 =>
nm (x1 : Node) fun z1 =>
cond (decide (¬ (c1 = 0))) (
some (17, r, g, t, s, d, x)) (
ob7 (m144 n r g t s d x ({ Head.zero with seq := seq }) seq) fun c2 z2 z3 z4 z5 z6 z7 =>
some (c2, z2, z3, z4, z5, z6, z7))
theorem t63 {n : Nat} {C : List Chunk} {rc1 : Int} {rz1 : RepoR} {rz2 : Graph} {rz3 : Trees} {rz4 : Store} {rz5 : Dev} {rz6 : Index} {b1 : Nat} {r : RepoR} {b2 : Nat} {g : Graph} {b3 : Nat} {t : Trees} {b4 : Nat} {s : Store} {b5 : Nat} {d : Dev} {v1 : Value} {g1 : List Chunk} {v2 : Value} {g2 : List Chunk} {v3 : Value} {g3 : List Chunk} {v4 : Value} {g4 : List Chunk} {b6 : Nat} {x : Index} {q1 : Option Addr} {seq : Int} (ho1 : Own rByte v1 d.blk g1) (ho2 : Own rByte v2 d.base g2) (ho3 : Own rInt v3 d.at_ g3) (ho4 : Own rByte v4 d.data g4)  (hm : m63 n r g t s d x seq = some (rc1, rz1, rz2, rz3, rz4, rz5, rz6)) : Trip Tryz.prog 63 #[.pointer (some ⟨b1, 0, none⟩), .int .i64 seq] ([[(b1, .cells (RepoR.enc (.pointer (some ⟨b2, 0, none⟩)) (.pointer (some ⟨b6, 0, none⟩)) ((.pointer q1)) r).toArray 130 (0, 0))], [(b2, .cells (Graph.enc (.pointer (some ⟨b3, 0, none⟩)) g).toArray 179 (0, 0))], [(b3, .cells (Trees.enc (.pointer (some ⟨b4, 0, none⟩)) t).toArray 169 (0, 0))], [(b4, .cells (Store.enc (.pointer (some ⟨b5, 0, none⟩)) s).toArray 126 (0, 0))], [(b5, .cells (Dev.enc (v1) (v2) (v3) (v4) d).toArray 85 (0, 0))], g1, g2, g3, g4, [(b6, .cells (Index.enc x).toArray 184 (0, 0))]] ++ [C]) (fun u S' => ∃ (ev1 : Value), ∃ (eg1 : List Chunk), ∃ (ev2 : Value), ∃ (eg2 : List Chunk), ∃ (ev3 : Value), ∃ (eg3 : List Chunk), ∃ (ev4 : Value), ∃ (eg4 : List Chunk), .int .i64 rc1 = u ∧ S' = [[(b1, .cells (RepoR.enc (.pointer (some ⟨b2, 0, none⟩)) (.pointer (some ⟨b6, 0, none⟩)) ((.pointer q1)) rz1).toArray 130 (0, 0))], [(b2, .cells (Graph.enc (.pointer (some ⟨b3, 0, none⟩)) rz2).toArray 179 (0, 0))], [(b3, .cells (Trees.enc (.pointer (some ⟨b4, 0, none⟩)) rz3).toArray 169 (0, 0))], [(b4, .cells (Store.enc (.pointer (some ⟨b5, 0, none⟩)) rz4).toArray 126 (0, 0))], [(b5, .cells (Dev.enc (ev1) (ev2) (ev3) (ev4) rz5).toArray 85 (0, 0))], eg1, eg2, eg3, eg4, [(b6, .cells (Index.enc rz6).toArray 184 (0, 0))]] ++ [C] ∧ Own rByte ev1 rz5.blk eg1 ∧ Own rByte ev2 rz5.base eg2 ∧ Own rInt ev3 rz5.at_ eg3 ∧ Own rByte ev4 rz5.data eg4) := by
  refine fn_entry (args := [.pointer (some ⟨b1, 0, none⟩), .int .i64 seq]) Tryz.func63 rfl Tryz.ntmps63 rfl (fun w0 => ?_)
  refine c_seq ?_
  refine c_region ?_
  refine o_L (y_assign rfl) rfl rfl ?_
  refine o_nil0 rfl ?_
  refine c_seq ?_
  refine c_region ?_
  refine o_T (y_move rfl) rfl ?_
  refine o_T (y_nilck rfl) rfl ?_
  refine o_T (y_fa fl_130_0 rfl) rfl ?_
  refine o_ld one_30 rfl m0 (At.got (At.refl.comp RepoR.a_g)) rfl ?_
  refine o_T (y_move rfl) rfl ?_
  obtain ⟨x1, c1, hx1, hm⟩ := bd2 hm
  refine o_callC en_146 rfl (s_skip (s_take (s_take (s_take (s_take (s_take (s_take (s_take (s_take s_nil))))))))) (t146 ho1 ho2 ho3 ho4 hx1) rfl (fun u1 S1 hR1 => ?_)
  obtain ⟨v5, g5, v6, g6, rfl, rfl, ho5, ho6⟩ := hR1
  refine o_rest ?_
  refine o_T (y_move rfl) rfl ?_
  refine o_T (y_extract rfl rfl) rfl ?_
  refine o_T (y_extract rfl rfl) rfl ?_
  refine o_alloc ze_93 rfl rfl (fun b7 => ?_)
  have ho7 : Own rFile (.slice none 0 0) [] [] := Own.nil
  refine o_emp ?_
  have ho8 : Own rInt (.slice none 0 0) [] [] := Own.nil
  refine o_emp ?_
  obtain ⟨z1, hn1, hm⟩ := nm_s hm
  have ho9 := ho5.to (l' := z1.files) (by subst hn1; rfl)
  have ho10 := ho6.to (l' := z1.parents) (by subst hn1; rfl)
  refine o_stNA ag_93 rfl rfl (Node.plain ho5.pl ho6.pl _) (Node.len _ _ _) (Upd.refl ((Node.len _ _ _).trans (Node.len _ _ _).symm)) (rs (rs r0)) (show (Node.enc (v5) (v6) z1) = _ from by subst hn1; rfl) ?_
  refine o_L (y_assign rfl) rfl rfl ?_
  refine o_nil0 rfl ?_
  refine c_seq ?_
  refine c_seq ?_
  refine c_region ?_
  refine o_T (y_move rfl) rfl ?_
  refine o_T (y_neq rfl rfl) rfl ?_
  refine o_nil1 17 rfl rfl ?_
  refine c_cond rfl (fun h1 => ?_) (fun h1 => ?_)
  · have hm := cd_t h1 hm
    refine c_seq ?_
    refine c_region ?_
    refine o_L (y_assign rfl) rfl rfl ?_
    refine o_nil0 rfl ?_
    refine c_ret ?_
    obtain ⟨rfl, rfl, rfl, rfl, rfl, rfl, rfl⟩ := pr7 hm
    refine fun aX wX heX hsX => ret1 Tryz.results63 heX rfl (s_skip (s_skip (s_skip (s_get (ks (ks (ks (ks (ks (ks (ks (ks (ks (ks k0)))))))))) (s_take (s_take (s_take (s_take (s_take (s_take (s_take (s_take (s_skip (s_skip (s_take (s_take s_nil)))))))))))))))) ?_
    exact ⟨v1, _, v2, _, v3, _, v4, _, rfl, rfl, ho1, ho2, ho3, ho4⟩
  · have hm := cd_f h1 hm
    refine c_skip ?_
    refine c_seq ?_
    refine c_region ?_
    refine o_T (y_move rfl) rfl ?_
    refine o_T (y_move rfl) rfl ?_
    refine o_T (y_build st_54 rfl (fbU rfl Head.u_seq rfl rfl fbU0)) rfl ?_
    refine o_T (y_move rfl) rfl ?_
    obtain ⟨c2, z2, z3, z4, z5, z6, z7, hx2, hm⟩ := bd7 hm
    refine o_callC en_144 rfl (s_skip (s_skip (s_skip (s_get (ks (ks (ks (ks (ks (ks (ks (ks (ks (ks k0)))))))))) (s_take (s_take (s_take (s_take (s_take (s_take (s_take (s_take (s_skip (s_skip (s_take s_nil))))))))))))))) (t144 ho1 ho2 ho3 ho4 hx2) rfl (fun u2 S2 hR2 => ?_)
    obtain ⟨v7, g7, v8, g8, v9, g9, v10, g10, rfl, rfl, ho11, ho12, ho13, ho14⟩ := hR2
    refine o_rest ?_
    refine o_L (y_assign rfl) rfl rfl ?_
    refine o_nil0 rfl ?_
    refine c_ret ?_
    obtain ⟨rfl, rfl, rfl, rfl, rfl, rfl, rfl⟩ := pr7 hm
    refine fun aX wX heX hsX => ret1 Tryz.results63 heX rfl (s_take (s_take (s_take (s_take (s_take (s_take (s_take (s_take (s_take (s_take (s_skip (s_skip (s_skip (s_skip (s_skip (s_take s_nil)))))))))))))))) ?_
    exact ⟨v7, _, v8, _, v9, _, v10, _, rfl, rfl, ho11, ho12, ho13, ho14⟩
end Go.Proofs.Qxb6500350aGreat
