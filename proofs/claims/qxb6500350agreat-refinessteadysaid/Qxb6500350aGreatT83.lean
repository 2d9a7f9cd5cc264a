/- MADE BY PROGRAM (tools350/mir.py): mirror and walk. -/
import Derived.Test.Qxb6500350aGreatF2
import Derived.Test.Qxb6500350aGreatT126
import Derived.Test.Qxb6500350aGreatT127
import Derived.Test.Qxb6500350aGreatT128
import Derived.Test.Qxb6500350aGreatT178
import Derived.Test.Qxb6500350aGreatT179
set_option linter.unusedVariables false
set_option linter.unusedSimpArgs false
set_option maxRecDepth 20000
set_option maxHeartbeats 4000000
namespace Go.Proofs.Qxb6500350aGreat
open Go.Eng

/- (*repo.Repo).Status -/
def m83 (n : Nat) (r : RepoR) (g : Graph) (t : Trees) (s : Store) (d : Dev) (x : Index) : Option ((List Chg)) :=
ob1 (m126 n g) fun x1 =>
nm (x1 : Head) fun z1 =>
ob1 (m127 n r g z1) fun c1 =>
ob1 (m128 n r g t s d c1) fun l1 =>
ob1 (m178 n r) fun l2 =>
ob2 (m179 n x l1 l2) fun l3 c2 =>
some l3
theorem t83 {n : Nat} {C : List Chunk} {rl1 : List Chg} {b1 : Nat} {r : RepoR} {b2 : Nat} {g : Graph} {b3 : Nat} {t : Trees} {b4 : Nat} {s : Store} {b5 : Nat} {d : Dev} {v1 : Value} {g1 : List Chunk} {v2 : Value} {g2 : List Chunk} {v3 : Value} {g3 : List Chunk} {v4 : Value} {g4 : List Chunk} {b6 : Nat} {x : Index} {q1 : Option Addr} (ho1 : Own rByte v1 d.blk g1) (ho2 : Own rByte v2 d.base g2) (ho3 : Own rInt v3 d.at_ g3) (ho4 : Own rByte v4 d.data g4)  (hm : m83 n r g t s d x = some rl1) : Trip Tryz.prog 83 #[.pointer (some ⟨b1, 0, none⟩)] ([[(b1, .cells (RepoR.enc (.pointer (some ⟨b2, 0, none⟩)) (.pointer (some ⟨b6, 0, none⟩)) ((.pointer q1)) r).toArray 130 (0, 0))], [(b2, .cells (Graph.enc (.pointer (some ⟨b3, 0, none⟩)) g).toArray 179 (0, 0))], [(b3, .cells (Trees.enc (.pointer (some ⟨b4, 0, none⟩)) t).toArray 169 (0, 0))], [(b4, .cells (Store.enc (.pointer (some ⟨b5, 0, none⟩)) s).toArray 126 (0, 0))], [(b5, .cells (Dev.enc (v1) (v2) (v3) (v4) d).toArray 85 (0, 0))], g1, g2, g3, g4, [(b6, .cells (Index.enc x).toArray 184 (0, 0))]] ++ [C]) (fun u S' => ∃ (ev1 : Value), ∃ (eg1 : List Chunk), ev1 = u ∧ S' = [[(b1, .cells (RepoR.enc (.pointer (some ⟨b2, 0, none⟩)) (.pointer (some ⟨b6, 0, none⟩)) ((.pointer q1)) r).toArray 130 (0, 0))], [(b2, .cells (Graph.enc (.pointer (some ⟨b3, 0, none⟩)) g).toArray 179 (0, 0))], [(b3, .cells (Trees.enc (.pointer (some ⟨b4, 0, none⟩)) t).toArray 169 (0, 0))], [(b4, .cells (Store.enc (.pointer (some ⟨b5, 0, none⟩)) s).toArray 126 (0, 0))], [(b5, .cells (Dev.enc (v1) (v2) (v3) (v4) d).toArray 85 (0, 0))], g1, g2, g3, g4, [(b6, .cells (Index.enc x).toArray 184 (0, 0))], eg1] ++ [C] ∧ Own rChg ev1 rl1 eg1) := by
  refine fn_entry (args := [.pointer (some ⟨b1, 0, none⟩)]) Tryz.func83 rfl Tryz.ntmps83 rfl (fun w0 => ?_)
  refine c_seq ?_
  refine c_region ?_
  have ho5 : Own rChg (.slice none 0 0) [] [] := Own.nil
  refine o_emp ?_
  refine o_L (y_assign rfl) rfl rfl ?_
  refine o_nil0 rfl ?_
  refine c_seq ?_
  refine c_region ?_
  refine o_T (y_move rfl) rfl ?_
  refine o_T (y_nilck rfl) rfl ?_
  refine o_T (y_fa fl_130_0 rfl) rfl ?_
  refine o_ld one_30 rfl (ms m0) (At.got (At.refl.comp RepoR.a_g)) rfl ?_
  obtain ⟨x1, hx1, hm⟩ := bd1 hm
  refine o_callC en_126 rfl (s_skip (s_skip (s_take s_nil))) (t126 hx1) rfl (fun u1 S1 hR1 => ?_)
  obtain ⟨rfl, rfl⟩ := hR1
  refine o_rest ?_
  refine o_alloc ze_54 rfl rfl (fun b7 => ?_)
  obtain ⟨z1, hn1, hm⟩ := nm_s hm
  refine o_stNA ag_54 rfl rfl (Head.plain _) (Head.len _) (Upd.refl ((Head.len _).trans (Head.len _).symm)) r0 (show (Head.enc z1) = _ from by subst hn1; rfl) ?_
  refine o_nil0 rfl ?_
  refine c_seq ?_
  refine c_region ?_
  refine o_T (y_move rfl) rfl ?_
  refine o_lda ag_54 rfl m0 (At.exs At.refl (Head.len _)) (At.fits At.refl (Head.len _)) rfl ?_
  obtain ⟨c1, hx2, hm⟩ := bd1 hm
  refine o_callC en_127 rfl (s_skip (s_get (ks (ks k0)) (s_take s_nil))) (t127 hx2) rfl (fun u2 S2 hR2 => ?_)
  obtain ⟨rfl, rfl⟩ := hR2
  refine o_rest ?_
  refine o_L (y_assign rfl) rfl rfl ?_
  refine o_nil0 rfl ?_
  refine c_seq ?_
  refine c_region ?_
  refine o_T (y_move rfl) rfl ?_
  refine o_T (y_move rfl) rfl ?_
  obtain ⟨l1, hx3, hm⟩ := bd1 hm
  refine o_callC en_128 rfl (s_take (s_take (s_skip (s_skip (s_take (s_take (s_take (s_take (s_take (s_take (s_take s_nil))))))))))) (t128 ho1 ho2 ho3 ho4 hx3) rfl (fun u3 S3 hR3 => ?_)
  obtain ⟨v5, g5, rfl, rfl, ho6⟩ := hR3
  refine o_rest ?_
  refine o_L (y_assign rfl) rfl rfl ?_
  refine o_nil0 rfl ?_
  refine c_seq ?_
  refine c_region ?_
  refine o_T (y_move rfl) rfl ?_
  obtain ⟨l2, hx4, hm⟩ := bd1 hm
  refine o_callC en_178 rfl (s_take s_nil) (t178 hx4) rfl (fun u4 S4 hR4 => ?_)
  obtain ⟨v6, g6, rfl, rfl, ho7⟩ := hR4
  refine o_rest ?_
  refine o_L (y_assign rfl) rfl rfl ?_
  refine o_nil0 rfl ?_
  refine c_seq ?_
  refine c_region ?_
  refine o_T (y_move rfl) rfl ?_
  refine o_T (y_nilck rfl) rfl ?_
  refine o_T (y_fa fl_130_1 rfl) rfl ?_
  refine o_ld one_31 rfl m0 (At.got (At.refl.comp RepoR.a_x)) rfl ?_
  refine o_T (y_move rfl) rfl ?_
  refine o_T (y_move rfl) rfl ?_
  obtain ⟨l3, c2, hx5, hm⟩ := bd2 hm
  refine o_callC en_179 rfl (s_skip (s_skip (s_skip (s_skip (s_skip (s_skip (s_skip (s_skip (s_skip (s_skip (s_skip (s_skip (s_skip (s_take s_nil)))))))))))))) (t179 (ho6.rd.mono (fun _ hz => (ms (ms (ms (ms (ms (ms (ms (ms (ms (ms (mg hz))))))))))))) (ho7.rd.mono (fun _ hz => (ms (mg hz)))) hx5) rfl (fun u5 S5 hR5 => ?_)
  obtain ⟨v7, g7, rfl, rfl, ho8⟩ := hR5
  refine o_rest ?_
  refine o_T (y_move rfl) rfl ?_
  refine o_T (y_extract rfl rfl) rfl ?_
  refine o_T (y_extract rfl rfl) rfl ?_
  refine o_L (y_assign rfl) rfl rfl ?_
  refine o_L (y_assign rfl) rfl rfl ?_
  refine o_nil0 rfl ?_
  refine c_seq ?_
  refine c_region ?_
  refine o_T (y_move rfl) rfl ?_
  refine o_L (y_assign rfl) rfl rfl ?_
  refine o_nil0 rfl ?_
  refine c_ret ?_
  obtain rfl := p1 hm
  refine fun aX wX heX hsX => ret1 Tryz.results83 heX rfl (s_get (ks (ks k0)) (s_get (ks (ks (ks k0))) (s_get (ks (ks (ks k0))) (s_get (ks (ks (ks k0))) (s_get (ks (ks (ks k0))) (s_get (ks (ks (ks k0))) (s_get (ks (ks (ks k0))) (s_get (ks (ks (ks k0))) (s_get (ks (ks (ks k0))) (s_take (s_take (s_skip (s_skip (s_skip (s_skip (s_take s_nil)))))))))))))))) ?_
  exact ⟨v7, _, rfl, rfl, ho8⟩
end Go.Proofs.Qxb6500350aGreat
