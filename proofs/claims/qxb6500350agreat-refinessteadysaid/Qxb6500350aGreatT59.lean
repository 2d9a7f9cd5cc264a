/- MADE BY PROGRAM (tools350/mir.py): mirror and walk. -/
import Derived.Test.Qxb6500350aGreatF2
import Derived.Test.Qxb6500350aGreatT136
import Derived.Test.Qxb6500350aGreatT137
import Derived.Test.Qxb6500350aGreatT138
import Derived.Test.Qxb6500350aGreatT126
import Derived.Test.Qxb6500350aGreatT142
import Derived.Test.Qxb6500350aGreatT131
import Derived.Test.Qxb6500350aGreatT132
set_option linter.unusedVariables false
set_option linter.unusedSimpArgs false
set_option maxRecDepth 20000
set_option maxHeartbeats 4000000
namespace Go.Proofs.Qxb6500350aGreat
open Go.Eng

/- (*repo.Repo).Delete -/
def m59 (n : Nat) (r : RepoR) (g : Graph) (t : Trees) (s : Store) (d : Dev) (x : Index) (name : Str) : Option (Int × Graph × Trees × Store × Dev × Index) :=
ob1 (m136 n name) fun c1 =>
cond (!c1) (
some (14, g, t, s, d, x)) (
ob1 (m137 n g) fun l1 =>
ob2 (m138 n l1 name) fun c2 c3 =>
cond (!c3) (
some (16, g, t, s, d, x)) (
ob1 (m126 n g) fun x1 =>
nm (x1 : Head) fun z1 =>
cond (decide (z1.name = name)) (
some (25, g, t, s, d, x)) (
ob2 (m142 n g name) fun c4 z2 =>
cond (decide (¬ (c4 = 0))) (
ob5 (m131 n r z2 t s d x c4) fun c5 z3 z4 z5 z6 =>
some (c5, z3, z4, z5, d, z6)) (
ob6 (m132 n r z2 t s d x) fun c6 z7 z8 z9 z10 z11 =>
some (c6, z7, z8, z9, z10, z11)))))
theorem t59 {n : Nat} {C : List Chunk} {rc1 : Int} {rz1 : Graph} {rz2 : Trees} {rz3 : Store} {rz4 : Dev} {rz5 : Index} {b1 : Nat} {r : RepoR} {b2 : Nat} {g : Graph} {b3 : Nat} {t : Trees} {b4 : Nat} {s : Store} {b5 : Nat} {d : Dev} {v1 : Value} {g1 : List Chunk} {v2 : Value} {g2 : List Chunk} {v3 : Value} {g3 : List Chunk} {v4 : Value} {g4 : List Chunk} {b6 : Nat} {x : Index} {q1 : Option Addr} {name : Str} (ho1 : Own rByte v1 d.blk g1) (ho2 : Own rByte v2 d.base g2) (ho3 : Own rInt v3 d.at_ g3) (ho4 : Own rByte v4 d.data g4)  (hm : m59 n r g t s d x name = some (rc1, rz1, rz2, rz3, rz4, rz5)) : Trip Tryz.prog 59 #[.pointer (some ⟨b1, 0, none⟩), .string ⟨(name : Str).toArray⟩] ([[(b1, .cells (RepoR.enc (.pointer (some ⟨b2, 0, none⟩)) (.pointer (some ⟨b6, 0, none⟩)) ((.pointer q1)) r).toArray 130 (0, 0))], [(b2, .cells (Graph.enc (.pointer (some ⟨b3, 0, none⟩)) g).toArray 179 (0, 0))], [(b3, .cells (Trees.enc (.pointer (some ⟨b4, 0, none⟩)) t).toArray 169 (0, 0))], [(b4, .cells (Store.enc (.pointer (some ⟨b5, 0, none⟩)) s).toArray 126 (0, 0))], [(b5, .cells (Dev.enc (v1) (v2) (v3) (v4) d).toArray 85 (0, 0))], g1, g2, g3, g4, [(b6, .cells (Index.enc x).toArray 184 (0, 0))]] ++ [C]) (fun u S' => ∃ (ev1 : Value), ∃ (eg1 : List Chunk), ∃ (ev2 : Value), ∃ (eg2 : List Chunk), ∃ (ev3 : Value), ∃ (eg3 : List Chunk), ∃ (ev4 : Value), ∃ (eg4 : List Chunk), .int .i64 rc1 = u ∧ S' = [[(b1, .cells (RepoR.enc (.pointer (some ⟨b2, 0, none⟩)) (.pointer (some ⟨b6, 0, none⟩)) ((.pointer q1)) r).toArray 130 (0, 0))], [(b2, .cells (Graph.enc (.pointer (some ⟨b3, 0, none⟩)) rz1).toArray 179 (0, 0))], [(b3, .cells (Trees.enc (.pointer (some ⟨b4, 0, none⟩)) rz2).toArray 169 (0, 0))], [(b4, .cells (Store.enc (.pointer (some ⟨b5, 0, none⟩)) rz3).toArray 126 (0, 0))], [(b5, .cells (Dev.enc (ev1) (ev2) (ev3) (ev4) rz4).toArray 85 (0, 0))], eg1, eg2, eg3, eg4, [(b6, .cells (Index.enc rz5).toArray 184 (0, 0))]] ++ [C] ∧ Own rByte ev1 rz4.blk eg1 ∧ Own rByte ev2 rz4.base eg2 ∧ Own rInt ev3 rz4.at_ eg3 ∧ Own rByte ev4 rz4.data eg4) := by
  refine fn_entry (args := [.pointer (some ⟨b1, 0, none⟩), .string ⟨(name : Str).toArray⟩]) Tryz.func59 rfl Tryz.ntmps59 rfl (fun w0 => ?_)
  refine c_seq ?_
  refine c_region ?_
  refine o_L (y_assign rfl) rfl rfl ?_
  refine o_nil0 rfl ?_
  refine c_seq ?_
  refine c_seq ?_
  refine c_region ?_
  refine o_T (y_move rfl) rfl ?_
  obtain ⟨c1, hx1, hm⟩ := bd1 hm
  refine o_callC en_136 rfl s_nil (t136 hx1) rfl (fun u1 S1 hR1 => ?_)
  obtain ⟨rfl, rfl⟩ := hR1
  refine o_rest ?_
  refine o_T (y_not rfl) rfl ?_
  refine o_nil1 12 rfl rfl ?_
  refine c_cond rfl (fun h1 => ?_) (fun h1 => ?_)
  · have hm := cd_t h1 hm
    refine c_seq ?_
    refine c_region ?_
    refine o_L (y_assign rfl) rfl rfl ?_
    refine o_nil0 rfl ?_
    refine c_ret ?_
    obtain ⟨rfl, rfl, rfl, rfl, rfl, rfl⟩ := pr6 hm
    refine fun aX wX heX hsX => ret1 Tryz.results59 heX rfl (s_take (s_take (s_take (s_take (s_take (s_take (s_take (s_take (s_take (s_take (s_take s_nil))))))))))) ?_
    exact ⟨v1, _, v2, _, v3, _, v4, _, rfl, rfl, ho1, ho2, ho3, ho4⟩
  · have hm := cd_f h1 hm
    refine c_skip ?_
    refine c_seq ?_
    refine c_region ?_
    refine o_T (y_move rfl) rfl ?_
    refine o_T (y_nilck rfl) rfl ?_
    refine o_T (y_fa fl_130_0 rfl) rfl ?_
    refine o_ld one_30 rfl m0 (At.got (At.refl.comp RepoR.a_g)) rfl ?_
    obtain ⟨l1, hx2, hm⟩ := bd1 hm
    refine o_callC en_137 rfl (s_skip (s_take s_nil)) (t137 hx2) rfl (fun u2 S2 hR2 => ?_)
    obtain ⟨v5, g5, rfl, rfl, ho5⟩ := hR2
    refine o_rest ?_
    refine o_L (y_assign rfl) rfl rfl ?_
    refine o_nil0 rfl ?_
    refine c_seq ?_
    refine c_region ?_
    refine o_T (y_move rfl) rfl ?_
    refine o_T (y_move rfl) rfl ?_
    obtain ⟨c2, c3, hx3, hm⟩ := bd2 hm
    refine o_callC en_138 rfl s_nil (t138 (ho5.rd.mono (fun _ hz => (ms (mg hz)))) hx3) rfl (fun u3 S3 hR3 => ?_)
    obtain ⟨rfl, rfl⟩ := hR3
    refine o_rest ?_
    refine o_T (y_move rfl) rfl ?_
    refine o_T (y_extract rfl rfl) rfl ?_
    refine o_T (y_extract rfl rfl) rfl ?_
    refine o_L (y_assign rfl) rfl rfl ?_
    refine o_L (y_assign rfl) rfl rfl ?_
    refine o_nil0 rfl ?_
    refine c_seq ?_
    refine c_seq ?_
    refine c_region ?_
    refine o_T (y_move rfl) rfl ?_
    refine o_T (y_not rfl) rfl ?_
    refine o_nil1 25 rfl rfl ?_
    refine c_cond rfl (fun h2 => ?_) (fun h2 => ?_)
    · have hm := cd_t h2 hm
      refine c_seq ?_
      refine c_region ?_
      refine o_L (y_assign rfl) rfl rfl ?_
      refine o_nil0 rfl ?_
      refine c_ret ?_
      obtain ⟨rfl, rfl, rfl, rfl, rfl, rfl⟩ := pr6 hm
      refine fun aX wX heX hsX => ret1 Tryz.results59 heX rfl (s_get (ks (ks k0)) (s_take (s_skip (s_take (s_take (s_take (s_take (s_take (s_take (s_take (s_take (s_take s_nil)))))))))))) ?_
      exact ⟨v1, _, v2, _, v3, _, v4, _, rfl, rfl, ho1, ho2, ho3, ho4⟩
    · have hm := cd_f h2 hm
      refine c_skip ?_
      refine c_seq ?_
      refine c_region ?_
      refine o_T (y_move rfl) rfl ?_
      refine o_T (y_nilck rfl) rfl ?_
      refine o_T (y_fa fl_130_0 rfl) rfl ?_
      refine o_ld one_30 rfl (ms (ms m0)) (At.got (At.refl.comp RepoR.a_g)) rfl ?_
      obtain ⟨x1, hx4, hm⟩ := bd1 hm
      refine o_callC en_126 rfl (s_take s_nil) (t126 hx4) rfl (fun u4 S4 hR4 => ?_)
      obtain ⟨rfl, rfl⟩ := hR4
      refine o_rest ?_
      refine o_alloc ze_54 rfl rfl (fun b7 => ?_)
      obtain ⟨z1, hn1, hm⟩ := nm_s hm
      refine o_stNA ag_54 rfl rfl (Head.plain _) (Head.len _) (Upd.refl ((Head.len _).trans (Head.len _).symm)) r0 (show (Head.enc z1) = _ from by subst hn1; rfl) ?_
      refine o_nil0 rfl ?_
      refine c_seq ?_
      refine c_seq ?_
      refine c_region ?_
      refine o_T (y_fa fl_54_0 rfl) rfl ?_
      refine o_ld one_9 rfl m0 (At.got (At.refl.comp Head.a_name)) rfl ?_
      refine o_T (y_move rfl) rfl ?_
      refine o_T (y_seq rfl rfl) rfl ?_
      refine o_nil1 34 rfl rfl ?_
      refine c_cond rfl (fun h3 => ?_) (fun h3 => ?_)
      · have hm := cd_t h3 hm
        refine c_seq ?_
        refine c_region ?_
        refine o_L (y_assign rfl) rfl rfl ?_
        refine o_nil0 rfl ?_
        refine c_ret ?_
        obtain ⟨rfl, rfl, rfl, rfl, rfl, rfl⟩ := pr6 hm
        refine fun aX wX heX hsX => ret1 Tryz.results59 heX rfl (s_skip (s_get (ks (ks k0)) (s_take (s_skip (s_take (s_take (s_take (s_take (s_take (s_take (s_take (s_take (s_take s_nil))))))))))))) ?_
        exact ⟨v1, _, v2, _, v3, _, v4, _, rfl, rfl, ho1, ho2, ho3, ho4⟩
      · have hm := cd_f h3 hm
        refine c_skip ?_
        refine c_seq ?_
        refine c_region ?_
        refine o_T (y_move rfl) rfl ?_
        refine o_T (y_nilck rfl) rfl ?_
        refine o_T (y_fa fl_130_0 rfl) rfl ?_
        refine o_ld one_30 rfl (ms (ms (ms m0))) (At.got (At.refl.comp RepoR.a_g)) rfl ?_
        refine o_T (y_move rfl) rfl ?_
        obtain ⟨c4, z2, hx5, hm⟩ := bd2 hm
        refine o_callC en_142 rfl (s_skip (s_take s_nil)) (t142 hx5) rfl (fun u5 S5 hR5 => ?_)
        obtain ⟨rfl, rfl⟩ := hR5
        refine o_rest ?_
        refine o_L (y_assign rfl) rfl rfl ?_
        refine o_nil0 rfl ?_
        refine c_seq ?_
        refine c_seq ?_
        refine c_region ?_
        refine o_T (y_move rfl) rfl ?_
        refine o_T (y_neq rfl rfl) rfl ?_
        refine o_nil1 42 rfl rfl ?_
        refine c_cond rfl (fun h4 => ?_) (fun h4 => ?_)
        · have hm := cd_t h4 hm
          refine c_seq ?_
          refine c_region ?_
          refine o_T (y_move rfl) rfl ?_
          refine o_T (y_move rfl) rfl ?_
          obtain ⟨c5, z3, z4, z5, z6, hx6, hm⟩ := bd5 hm
          refine o_callC en_131 rfl (s_get (ks (ks (ks k0))) (s_take (s_skip (s_skip (s_take (s_take (s_take (s_take (s_take (s_take (s_take (s_take s_nil)))))))))))) (t131 ho1 ho2 ho3 ho4 hx6) rfl (fun u6 S6 hR6 => ?_)
          obtain ⟨rfl, rfl⟩ := hR6
          refine o_rest ?_
          refine o_L (y_assign rfl) rfl rfl ?_
          refine o_nil0 rfl ?_
          refine c_ret ?_
          obtain ⟨rfl, rfl, rfl, rfl, rfl, rfl⟩ := pr6 hm
          refine fun aX wX heX hsX => ret1 Tryz.results59 heX rfl (s_take (s_take (s_take (s_take (s_take (s_take (s_take (s_take (s_take (s_take (s_skip (s_skip (s_take s_nil))))))))))))) ?_
          exact ⟨v1, _, v2, _, v3, _, v4, _, rfl, rfl, ho1, ho2, ho3, ho4⟩
        · have hm := cd_f h4 hm
          refine c_skip ?_
          refine c_seq ?_
          refine c_region ?_
          refine o_T (y_move rfl) rfl ?_
          obtain ⟨c6, z7, z8, z9, z10, z11, hx7, hm⟩ := bd6 hm
          refine o_callC en_132 rfl (s_get (ks (ks (ks k0))) (s_take (s_skip (s_skip (s_take (s_take (s_take (s_take (s_take (s_take (s_take (s_take s_nil)))))))))))) (t132 ho1 ho2 ho3 ho4 hx7) rfl (fun u7 S7 hR7 => ?_)
          obtain ⟨v6, g6, v7, g7, v8, g8, v9, g9, rfl, rfl, ho6, ho7, ho8, ho9⟩ := hR7
          refine o_rest ?_
          refine o_L (y_assign rfl) rfl rfl ?_
          refine o_nil0 rfl ?_
          refine c_ret ?_
          obtain ⟨rfl, rfl, rfl, rfl, rfl, rfl⟩ := pr6 hm
          refine fun aX wX heX hsX => ret1 Tryz.results59 heX rfl (s_take (s_take (s_take (s_take (s_take (s_take (s_take (s_take (s_take (s_take (s_skip (s_skip (s_take s_nil))))))))))))) ?_
          exact ⟨v6, _, v7, _, v8, _, v9, _, rfl, rfl, ho6, ho7, ho8, ho9⟩
end Go.Proofs.Qxb6500350aGreat
