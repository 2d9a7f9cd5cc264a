/- MADE BY PROGRAM (tools350/mir.py): mirror and walk. -/
import Derived.Test.Qxb6500350aGreatF2
import Derived.Test.Qxb6500350aGreatT47
import Derived.Test.Qxb6500350aGreatT48
import Derived.Test.Qxb6500350aGreatT49
import Derived.Test.Qxb6500350aGreatT50
import Derived.Test.Qxb6500350aGreatT51
import Derived.Test.Qxb6500350aGreatT52
import Derived.Test.Qxb6500350aGreatT53
import Derived.Test.Qxb6500350aGreatT54
import Derived.Test.Qxb6500350aGreatT55
import Derived.Test.Qxb6500350aGreatT56
import Derived.Test.Qxb6500350aGreatT57
import Derived.Test.Qxb6500350aGreatT58
import Derived.Test.Qxb6500350aGreatT59
import Derived.Test.Qxb6500350aGreatT60
import Derived.Test.Qxb6500350aGreatT61
import Derived.Test.Qxb6500350aGreatT62
import Derived.Test.Qxb6500350aGreatT63
import Derived.Test.Qxb6500350aGreatT64
import Derived.Test.Qxb6500350aGreatT65
import Derived.Test.Qxb6500350aGreatT66
import Derived.Test.Qxb6500350aGreatT67
import Derived.Test.Qxb6500350aGreatT68
import Derived.Test.Qxb6500350aGreatT41
import Derived.Test.Qxb6500350aGreatT38
import Derived.Test.Qxb6500350aGreatT29
import Derived.Test.Qxb6500350aGreatT30
import Derived.Test.Qxb6500350aGreatT31
import Derived.Test.Qxb6500350aGreatT32
import Derived.Test.Qxb6500350aGreatT33
import Derived.Test.Qxb6500350aGreatT34
import Derived.Test.Qxb6500350aGreatT35
import Derived.Test.Qxb6500350aGreatT36
import Derived.Test.Qxb6500350aGreatT44
import Derived.Test.Qxb6500350aGreatT20
import Derived.Test.Qxb6500350aGreatT43
set_option linter.unusedVariables false
set_option linter.unusedSimpArgs false
set_option maxRecDepth 20000
set_option maxHeartbeats 4000000
namespace Go.Proofs.Qxb6500350aGreat
open Go.Eng

/- towerlaw.Play -/
def m18 (n : Nat) (d : Dev) (e : Engine) (g : Graph) (s : Store) (r : RepoR) (t : Trees) (x : Index) (m : RepoM) (b_ : Below) (o_ : Op_) (exact : Bool) : Option (Bool × Bool × Dev × Engine × Graph × Store × RepoR × Trees × Index × RepoM) :=
cond (decide (o_.kind = 1)) (
ob2 (m47 n r o_.s o_.t) fun c1 z1 =>
ob2 (m48 n m o_.s o_.t) fun c2 z2 =>
some ((decide (c1 = c2)), false, d, e, g, s, z1, t, x, z2)) (
cond (decide (o_.kind = 2)) (
ob2 (m49 n r o_.s) fun c3 z3 =>
ob2 (m50 n m o_.s) fun c4 z4 =>
some ((decide (c3 = c4)), false, d, e, g, s, z3, t, x, z4)) (
cond (decide (o_.kind = 3)) (
ob6 (m51 n r g t s d x o_.s) fun c5 z5 z6 z7 z8 z9 =>
ob2 (m52 n m o_.s) fun c6 z10 =>
some (((decide (c5 = c6)) || (decide (c5 = 5))), (decide (c5 = 5)), z8, e, z5, z7, r, z6, z9, z10)) (
cond (decide (o_.kind = 4)) (
ob6 (m53 n r g t s d x o_.s) fun c7 z11 z12 z13 z14 z15 =>
ob2 (m54 n m o_.s) fun c8 z16 =>
some (((decide (c7 = c8)) || (decide (c7 = 5))), (decide (c7 = 5)), z14, e, z11, z13, r, z12, z15, z16)) (
cond (decide (o_.kind = 5)) (
ob7 (m55 n r g t s d x o_.s) fun c9 c10 z17 z18 z19 z20 z21 =>
ob3 (m56 n m o_.s) fun c11 c12 z22 =>
cond (decide (c10 = 5)) (
some ((decide (c9 = 0)), true, z20, e, z17, z19, r, z18, z21, z22)) (
some (((decide (c9 = c11)) && (decide (c10 = c12))), false, z20, e, z17, z19, r, z18, z21, z22))) (
cond (decide (o_.kind = 6)) (
ob6 (m57 n r g t s d x o_.s) fun c13 z23 z24 z25 z26 z27 =>
ob2 (m58 n m o_.s) fun c14 z28 =>
some (((decide (c13 = c14)) || (decide (c13 = 5))), (decide (c13 = 5)), z26, e, z23, z25, r, z24, z27, z28)) (
cond (decide (o_.kind = 7)) (
ob6 (m59 n r g t s d x o_.s) fun c15 z29 z30 z31 z32 z33 =>
ob2 (m60 n m o_.s) fun c16 z34 =>
some (((decide (c15 = c16)) || (decide (c15 = 5))), (decide (c15 = 5)), z32, e, z29, z31, r, z30, z33, z34)) (
cond (decide (o_.kind = 8)) (
ob7 (m61 n r g t s d x o_.s) fun c17 z35 z36 z37 z38 z39 z40 =>
ob2 (m62 n m o_.s) fun c18 z41 =>
some (((decide (c17 = c18)) || (decide (c17 = 5))), (decide (c17 = 5)), z39, e, z36, z38, z35, z37, z40, z41)) (
cond (decide (o_.kind = 9)) (
ob7 (m63 n r g t s d x o_.a) fun c19 z42 z43 z44 z45 z46 z47 =>
ob2 (m64 n m o_.a) fun c20 z48 =>
some (((decide (c19 = c20)) || (decide (c19 = 5))), (decide (c19 = 5)), z46, e, z43, z45, z42, z44, z47, z48)) (
cond (decide (o_.kind = 11)) (
ob9 (m65 n r e g t s d x o_.s) fun c21 c22 z49 z50 z51 z52 z53 z54 z55 =>
ob3 (m66 n m o_.s) fun c23 c24 z56 =>
cond (decide (c22 = 5)) (
some ((decide (c21 = 0)), true, z54, z50, z51, z53, z49, z52, z55, z56)) (
some (((decide (c21 = c23)) && (decide (c22 = c24))), false, z54, z50, z51, z53, z49, z52, z55, z56))) (
cond (decide (o_.kind = 12)) (
ob7 (m67 n r g t s d x) fun c25 c26 z57 z58 z59 z60 z61 =>
ob3 (m68 n m) fun c27 c28 z62 =>
cond (decide (c26 = 5)) (
some ((decide (c25 = 0)), true, z60, e, z57, z59, r, z58, z61, z62)) (
some (((decide (c25 = c27)) && (decide (c26 = c28))), false, z60, e, z57, z59, r, z58, z61, z62))) (
cond (decide (o_.kind = 10)) (
ob2 (m41 n r e x m o_.s (decide (¬ (o_.c = 0)))) fun c29 z63 =>
some (c29, false, d, z63, g, s, r, t, x, m)) (
cond (decide (o_.kind = 13)) (
ob1 (m38 n r g t s d m o_.a (decide (¬ (o_.c = 0)))) fun c30 =>
some (c30, false, d, e, g, s, r, t, x, m)) (
cond (decide (o_.kind = 16)) (
ob1 (m29 n r g m (decide (¬ (o_.c = 0)))) fun c31 =>
some (c31, false, d, e, g, s, r, t, x, m)) (
cond (decide (o_.kind = 17)) (
ob1 (m30 n r g t s d x m (decide (¬ (o_.c = 0)))) fun c32 =>
some (c32, false, d, e, g, s, r, t, x, m)) (
cond (decide (o_.kind = 18)) (
ob1 (m31 n r g m (decide (¬ (o_.c = 0)))) fun c33 =>
some (c33, false, d, e, g, s, r, t, x, m)) (
cond (decide (o_.kind = 19)) (
ob1 (m32 n r g m) fun c34 =>
some (c34, false, d, e, g, s, r, t, x, m)) (
cond (decide (o_.kind = 20)) (
ob1 (m33 n r g m) fun c35 =>
some (c35, false, d, e, g, s, r, t, x, m)) (
cond (decide (o_.kind = 21)) (
ob1 (m34 n r g m (decide (¬ (o_.c = 0)))) fun c36 =>
some (c36, false, d, e, g, s, r, t, x, m)) (
cond (decide (o_.kind = 22)) (
ob1 (m35 n r x m (decide (¬ (o_.c = 0)))) fun c37 =>
some (c37, false, d, e, g, s, r, t, x, m)) (
cond (decide (o_.kind = 23)) (
ob1 (m36 n r m (decide (¬ (o_.c = 0)))) fun c38 =>
some (c38, false, d, e, g, s, r, t, x, m)) (
cond (decide (o_.kind = 24)) (
ob1 (m44 n g s r t b_) fun c39 =>
cond (!c39) (
some (false, false, d, e, g, s, r, t, x, m)) (
ob1 (m20 n s m b_ exact) fun c40 =>
some (c40, false, d, e, g, s, r, t, x, m))) (
cond (decide (o_.kind = 25)) (
ob1 (m43 n d g s r t x b_) fun c41 =>
some (c41, false, d, e, g, s, r, t, x, m)) (
some (true, false, d, e, g, s, r, t, x, m))))))))))))))))))))))))
theorem t18 {n : Nat} {C : List Chunk} {rc1 : Bool} {rc2 : Bool} {rz1 : Dev} {rz2 : Engine} {rz3 : Graph} {rz4 : Store} {rz5 : RepoR} {rz6 : Trees} {rz7 : Index} {rz8 : RepoM} {b_ : Below} {b1 : Nat} {d : Dev} {v1 : Value} {g1 : List Chunk} {v2 : Value} {g2 : List Chunk} {v3 : Value} {g3 : List Chunk} {v4 : Value} {g4 : List Chunk} {b2 : Nat} {s : Store} {b3 : Nat} {t : Trees} {b4 : Nat} {g : Graph} {b5 : Nat} {x : Index} {b6 : Nat} {e : Engine} {v5 : Value} {g5 : List Chunk} {v6 : Value} {g6 : List Chunk} {v7 : Value} {g7 : List Chunk} {b7 : Nat} {r : RepoR} {b8 : Nat} {m : RepoM} {v8 : Value} {g8 : List Chunk} {v9 : Value} {g9 : List Chunk} {v10 : Value} {g10 : List Chunk} {v11 : Value} {g11 : List Chunk} {o_ : Op_} {exact : Bool} (ho1 : Own rByte v1 d.blk g1) (ho2 : Own rByte v2 d.base g2) (ho3 : Own rInt v3 d.at_ g3) (ho4 : Own rByte v4 d.data g4) (ho5 : Own rStr v5 e.line_ g5) (ho6 : Own rInt v6 e.sum g6) (ho7 : Own rInt v7 e.nxt g7) (ho8 : Own rNode v8 m.nodes g8) (ho9 : Own rRef_ v9 m.refs g9) (ho10 : Own rFile v10 m.index g10) (ho11 : Own rFile v11 m.work g11)  (hm : m18 n d e g s r t x m b_ o_ exact = some (rc1, rc2, rz1, rz2, rz3, rz4, rz5, rz6, rz7, rz8)) : Trip Tryz.prog 18 #[.agg (Below.enc (.pointer (some ⟨b1, 0, none⟩)) (.pointer (some ⟨b2, 0, none⟩)) (.pointer (some ⟨b3, 0, none⟩)) (.pointer (some ⟨b4, 0, none⟩)) (.pointer (some ⟨b5, 0, none⟩)) (.pointer (some ⟨b6, 0, none⟩)) (.pointer (some ⟨b7, 0, none⟩)) b_).toArray, .pointer (some ⟨b8, 0, none⟩), .agg (Op_.enc o_).toArray, .bool exact] ([[(b1, .cells (Dev.enc (v1) (v2) (v3) (v4) d).toArray 85 (0, 0))], g1, g2, g3, g4, [(b6, .cells (Engine.enc (v5) (v6) (v7) e).toArray 187 (0, 0))], g5, g6, g7, [(b4, .cells (Graph.enc (.pointer (some ⟨b3, 0, none⟩)) g).toArray 179 (0, 0))], [(b2, .cells (Store.enc (.pointer (some ⟨b1, 0, none⟩)) s).toArray 126 (0, 0))], [(b7, .cells (RepoR.enc (.pointer (some ⟨b4, 0, none⟩)) (.pointer (some ⟨b5, 0, none⟩)) (.pointer (some ⟨b6, 0, none⟩)) r).toArray 130 (0, 0))], [(b3, .cells (Trees.enc (.pointer (some ⟨b2, 0, none⟩)) t).toArray 169 (0, 0))], [(b5, .cells (Index.enc x).toArray 184 (0, 0))], [(b8, .cells (RepoM.enc (v8) (v9) (v10) (v11) m).toArray 59 (0, 0))], g8, g9, g10, g11] ++ [C]) (fun u S' => ∃ (ev1 : Value), ∃ (eg1 : List Chunk), ∃ (ev2 : Value), ∃ (eg2 : List Chunk), ∃ (ev3 : Value), ∃ (eg3 : List Chunk), ∃ (ev4 : Value), ∃ (eg4 : List Chunk), ∃ (ev5 : Value), ∃ (eg5 : List Chunk), ∃ (ev6 : Value), ∃ (eg6 : List Chunk), ∃ (ev7 : Value), ∃ (eg7 : List Chunk), ∃ (ev8 : Value), ∃ (eg8 : List Chunk), ∃ (ev9 : Value), ∃ (eg9 : List Chunk), ∃ (ev10 : Value), ∃ (eg10 : List Chunk), ∃ (ev11 : Value), ∃ (eg11 : List Chunk), .tuple #[.bool rc1, .bool rc2] = u ∧ S' = [[(b1, .cells (Dev.enc (ev1) (ev2) (ev3) (ev4) rz1).toArray 85 (0, 0))], eg1, eg2, eg3, eg4, [(b6, .cells (Engine.enc (ev5) (ev6) (ev7) rz2).toArray 187 (0, 0))], eg5, eg6, eg7, [(b4, .cells (Graph.enc (.pointer (some ⟨b3, 0, none⟩)) rz3).toArray 179 (0, 0))], [(b2, .cells (Store.enc (.pointer (some ⟨b1, 0, none⟩)) rz4).toArray 126 (0, 0))], [(b7, .cells (RepoR.enc (.pointer (some ⟨b4, 0, none⟩)) (.pointer (some ⟨b5, 0, none⟩)) (.pointer (some ⟨b6, 0, none⟩)) rz5).toArray 130 (0, 0))], [(b3, .cells (Trees.enc (.pointer (some ⟨b2, 0, none⟩)) rz6).toArray 169 (0, 0))], [(b5, .cells (Index.enc rz7).toArray 184 (0, 0))], [(b8, .cells (RepoM.enc (ev8) (ev9) (ev10) (ev11) rz8).toArray 59 (0, 0))], eg8, eg9, eg10, eg11] ++ [C] ∧ Own rByte ev1 rz1.blk eg1 ∧ Own rByte ev2 rz1.base eg2 ∧ Own rInt ev3 rz1.at_ eg3 ∧ Own rByte ev4 rz1.data eg4 ∧ Own rStr ev5 rz2.line_ eg5 ∧ Own rInt ev6 rz2.sum eg6 ∧ Own rInt ev7 rz2.nxt eg7 ∧ Own rNode ev8 rz8.nodes eg8 ∧ Own rRef_ ev9 rz8.refs eg9 ∧ Own rFile ev10 rz8.index eg10 ∧ Own rFile ev11 rz8.work eg11) := by
  refine fn_entry (args := [.agg (Below.enc (.pointer (some ⟨b1, 0, none⟩)) (.pointer (some ⟨b2, 0, none⟩)) (.pointer (some ⟨b3, 0, none⟩)) (.pointer (some ⟨b4, 0, none⟩)) (.pointer (some ⟨b5, 0, none⟩)) (.pointer (some ⟨b6, 0, none⟩)) (.pointer (some ⟨b7, 0, none⟩)) b_).toArray, .pointer (some ⟨b8, 0, none⟩), .agg (Op_.enc o_).toArray, .bool exact]) Tryz.func18 rfl Tryz.ntmps18 rfl (fun w0 => ?_)
  refine c_seq ?_
  refine c_region ?_
  refine o_box rfl rfl rfl rfl (fun b9 => ?_)
  refine o_box rfl rfl rfl rfl (fun b10 => ?_)
  refine o_L (y_assign rfl) rfl rfl ?_
  refine o_L (y_assign rfl) rfl rfl ?_
  refine o_nil0 rfl ?_
  refine c_seq ?_
  refine c_region ?_
  refine o_T (y_fa fl_37_1 rfl) rfl ?_
  refine o_T (y_fa fl_35_5 rfl) rfl ?_
  refine o_ld one_33 rfl (ms m0) (At.got ((At.refl.comp Below.a_w).comp Tower.a_r)) rfl ?_
  refine o_L (y_assign rfl) rfl rfl ?_
  refine o_nil0 rfl ?_
  refine c_seq ?_
  refine c_region ?_
  refine o_T (y_fa fl_44_3 rfl) rfl ?_
  refine o_ld one_3 rfl m0 (At.got (At.refl.comp Op_.a_c)) rfl ?_
  refine o_T (y_neq rfl rfl) rfl ?_
  refine o_L (y_assign rfl) rfl rfl ?_
  refine o_nil0 rfl ?_
  refine c_seq ?_
  refine c_seq ?_
  refine c_region ?_
  refine o_T (y_fa fl_44_0 rfl) rfl ?_
  refine o_ld one_3 rfl m0 (At.got (At.refl.comp Op_.a_kind)) rfl ?_
  refine o_nil1 47 rfl rfl ?_
  refine c_block ?_
  refine c_seq ?_
  refine c_region ?_
  refine o_T (y_eql rfl rfl) rfl ?_
  refine o_L (y_assign rfl) rfl rfl ?_
  refine o_nil0 rfl ?_
  refine c_cond rfl (fun h1 => ?_) (fun h1 => ?_)
  · have hm := cd_t h1 hm
    refine c_seq ?_
    refine c_region ?_
    refine o_T (y_move rfl) rfl ?_
    refine o_T (y_fa fl_44_4 rfl) rfl ?_
    refine o_ld one_9 rfl m0 (At.got (At.refl.comp Op_.a_s)) rfl ?_
    refine o_T (y_fa fl_44_5 rfl) rfl ?_
    refine o_ld one_9 rfl m0 (At.got (At.refl.comp Op_.a_t)) rfl ?_
    obtain ⟨c1, z1, hx1, hm⟩ := bd2 hm
    refine o_callC en_47 rfl (s_skip (s_skip (s_skip (s_skip (s_skip (s_skip (s_skip (s_skip (s_skip (s_skip (s_skip (s_skip (s_skip (s_take s_nil)))))))))))))) (t47 hx1) rfl (fun u1 S1 hR1 => ?_)
    obtain ⟨rfl, rfl⟩ := hR1
    refine o_rest ?_
    refine o_L (y_assign rfl) rfl rfl ?_
    refine o_nil0 rfl ?_
    refine c_seq ?_
    refine c_region ?_
    refine o_T (y_move rfl) rfl ?_
    refine o_T (y_fa fl_44_4 rfl) rfl ?_
    refine o_ld one_9 rfl (ms m0) (At.got (At.refl.comp Op_.a_s)) rfl ?_
    refine o_T (y_fa fl_44_5 rfl) rfl ?_
    refine o_ld one_9 rfl (ms m0) (At.got (At.refl.comp Op_.a_t)) rfl ?_
    obtain ⟨c2, z2, hx2, hm⟩ := bd2 hm
    refine o_callC en_48 rfl (s_skip (s_skip (s_skip (s_skip (s_skip (s_skip (s_skip (s_skip (s_skip (s_skip (s_skip (s_skip (s_skip (s_skip (s_skip (s_skip (s_take (s_take (s_take (s_take (s_take s_nil))))))))))))))))))))) (t48 ho8 ho9 ho10 ho11 hx2) rfl (fun u2 S2 hR2 => ?_)
    obtain ⟨v15, g15, rfl, rfl, ho12, ho13, ho14, ho15⟩ := hR2
    refine o_rest ?_
    refine o_L (y_assign rfl) rfl rfl ?_
    refine o_nil0 rfl ?_
    refine c_seq ?_
    refine c_region ?_
    refine o_T (y_move rfl) rfl ?_
    refine o_T (y_move rfl) rfl ?_
    refine o_T (y_eql rfl rfl) rfl ?_
    refine o_L (y_assign rfl) rfl rfl ?_
    refine o_L (y_assign rfl) rfl rfl ?_
    refine o_nil0 rfl ?_
    refine c_ret ?_
    obtain ⟨rfl, rfl, rfl, rfl, rfl, rfl, rfl, rfl, rfl, rfl⟩ := pr10 hm
    refine fun aX wX heX hsX => ret2 Tryz.results18 heX rfl rfl (s_get (ks (ks (ks (ks (ks (ks (ks (ks k0)))))))) (s_get (ks (ks (ks (ks (ks (ks (ks (ks k0)))))))) (s_get (ks (ks (ks (ks (ks (ks (ks (ks k0)))))))) (s_get (ks (ks (ks (ks (ks (ks (ks (ks k0)))))))) (s_get (ks (ks (ks (ks (ks (ks (ks (ks k0)))))))) (s_get (ks (ks (ks (ks (ks (ks (ks (ks k0)))))))) (s_get (ks (ks (ks (ks (ks (ks (ks (ks k0)))))))) (s_get (ks (ks (ks (ks (ks (ks (ks (ks k0)))))))) (s_get (ks (ks (ks (ks (ks (ks (ks (ks k0)))))))) (s_get (ks (ks (ks (ks (ks (ks (ks (ks k0)))))))) (s_get (ks (ks (ks (ks (ks (ks (ks (ks k0)))))))) (s_get (ks (ks (ks (ks (ks k0))))) (s_get (ks (ks (ks (ks (ks (ks (ks k0))))))) (s_get (ks (ks (ks (ks (ks (ks (ks k0))))))) (s_take (s_take (s_take (s_take (s_take (s_skip (s_skip (s_take s_nil)))))))))))))))))))))) ?_
    exact ⟨v1, _, v2, _, v3, _, v4, _, v5, _, v6, _, v7, _, v8, _, v9, _, v10, _, v15, _, rfl, rfl, ho1, ho2, ho3, ho4, ho5, ho6, ho7, ho12, ho13, ho14, ho15⟩
  · have hm := cd_f h1 hm
    refine c_seq ?_
    refine c_region ?_
    refine o_T (y_eql rfl rfl) rfl ?_
    refine o_L (y_assign rfl) rfl rfl ?_
    refine o_nil0 rfl ?_
    refine c_cond rfl (fun h2 => ?_) (fun h2 => ?_)
    · have hm := cd_t h2 hm
      refine c_seq ?_
      refine c_region ?_
      refine o_T (y_move rfl) rfl ?_
      refine o_T (y_fa fl_44_4 rfl) rfl ?_
      refine o_ld one_9 rfl m0 (At.got (At.refl.comp Op_.a_s)) rfl ?_
      obtain ⟨c3, z3, hx3, hm⟩ := bd2 hm
      refine o_callC en_49 rfl (s_skip (s_skip (s_skip (s_skip (s_skip (s_skip (s_skip (s_skip (s_skip (s_skip (s_skip (s_skip (s_skip (s_take s_nil)))))))))))))) (t49 hx3) rfl (fun u3 S3 hR3 => ?_)
      obtain ⟨rfl, rfl⟩ := hR3
      refine o_rest ?_
      refine o_L (y_assign rfl) rfl rfl ?_
      refine o_nil0 rfl ?_
      refine c_seq ?_
      refine c_region ?_
      refine o_T (y_move rfl) rfl ?_
      refine o_T (y_fa fl_44_4 rfl) rfl ?_
      refine o_ld one_9 rfl (ms m0) (At.got (At.refl.comp Op_.a_s)) rfl ?_
      obtain ⟨c4, z4, hx4, hm⟩ := bd2 hm
      refine o_callC en_50 rfl (s_skip (s_skip (s_skip (s_skip (s_skip (s_skip (s_skip (s_skip (s_skip (s_skip (s_skip (s_skip (s_skip (s_skip (s_skip (s_skip (s_take (s_take (s_take (s_take (s_take s_nil))))))))))))))))))))) (t50 ho8 ho9 ho10 ho11 hx4) rfl (fun u4 S4 hR4 => ?_)
      obtain ⟨v19, g19, rfl, rfl, ho16, ho17, ho18, ho19⟩ := hR4
      refine o_rest ?_
      refine o_L (y_assign rfl) rfl rfl ?_
      refine o_nil0 rfl ?_
      refine c_seq ?_
      refine c_region ?_
      refine o_T (y_move rfl) rfl ?_
      refine o_T (y_move rfl) rfl ?_
      refine o_T (y_eql rfl rfl) rfl ?_
      refine o_L (y_assign rfl) rfl rfl ?_
      refine o_L (y_assign rfl) rfl rfl ?_
      refine o_nil0 rfl ?_
      refine c_ret ?_
      obtain ⟨rfl, rfl, rfl, rfl, rfl, rfl, rfl, rfl, rfl, rfl⟩ := pr10 hm
      refine fun aX wX heX hsX => ret2 Tryz.results18 heX rfl rfl (s_get (ks (ks (ks (ks (ks (ks (ks (ks k0)))))))) (s_get (ks (ks (ks (ks (ks (ks (ks (ks k0)))))))) (s_get (ks (ks (ks (ks (ks (ks (ks (ks k0)))))))) (s_get (ks (ks (ks (ks (ks (ks (ks (ks k0)))))))) (s_get (ks (ks (ks (ks (ks (ks (ks (ks k0)))))))) (s_get (ks (ks (ks (ks (ks (ks (ks (ks k0)))))))) (s_get (ks (ks (ks (ks (ks (ks (ks (ks k0)))))))) (s_get (ks (ks (ks (ks (ks (ks (ks (ks k0)))))))) (s_get (ks (ks (ks (ks (ks (ks (ks (ks k0)))))))) (s_get (ks (ks (ks (ks (ks (ks (ks (ks k0)))))))) (s_get (ks (ks (ks (ks (ks (ks (ks (ks k0)))))))) (s_get (ks (ks (ks (ks (ks k0))))) (s_get (ks (ks (ks (ks (ks (ks (ks k0))))))) (s_get (ks (ks (ks (ks (ks (ks (ks k0))))))) (s_take (s_take (s_take (s_take (s_take (s_skip (s_skip (s_take s_nil)))))))))))))))))))))) ?_
      exact ⟨v1, _, v2, _, v3, _, v4, _, v5, _, v6, _, v7, _, v8, _, v9, _, v10, _, v19, _, rfl, rfl, ho1, ho2, ho3, ho4, ho5, ho6, ho7, ho16, ho17, ho18, ho19⟩
    · have hm := cd_f h2 hm
      refine c_seq ?_
      refine c_region ?_
      refine o_T (y_eql rfl rfl) rfl ?_
      refine o_L (y_assign rfl) rfl rfl ?_
      refine o_nil0 rfl ?_
      refine c_cond rfl (fun h3 => ?_) (fun h3 => ?_)
      · have hm := cd_t h3 hm
        refine c_seq ?_
        refine c_region ?_
        refine o_T (y_move rfl) rfl ?_
        refine o_T (y_fa fl_44_4 rfl) rfl ?_
        refine o_ld one_9 rfl m0 (At.got (At.refl.comp Op_.a_s)) rfl ?_
        obtain ⟨c5, z5, z6, z7, z8, z9, hx5, hm⟩ := bd6 hm
        refine o_callC en_51 rfl (s_skip (s_skip (s_get (ks (ks (ks (ks (ks (ks (ks (ks (ks (ks (ks k0))))))))))) (s_get (ks (ks (ks (ks (ks (ks (ks (ks (ks k0))))))))) (s_get (ks (ks (ks (ks (ks (ks (ks (ks (ks (ks k0)))))))))) (s_get (ks (ks (ks (ks (ks (ks (ks (ks (ks k0))))))))) (s_take (s_take (s_take (s_take (s_take (s_skip (s_skip (s_skip (s_skip (s_take s_nil)))))))))))))))) (t51 ho1 ho2 ho3 ho4 hx5) rfl (fun u5 S5 hR5 => ?_)
        obtain ⟨v20, g20, v21, g21, v22, g22, v23, g23, rfl, rfl, ho20, ho21, ho22, ho23⟩ := hR5
        refine o_rest ?_
        refine o_L (y_assign rfl) rfl rfl ?_
        refine o_nil0 rfl ?_
        refine c_seq ?_
        refine c_region ?_
        refine o_T (y_move rfl) rfl ?_
        refine o_T (y_fa fl_44_4 rfl) rfl ?_
        refine o_ld one_9 rfl (ms (ms (ms (ms (ms (ms (ms (ms (ms (ms m0)))))))))) (At.got (At.refl.comp Op_.a_s)) rfl ?_
        obtain ⟨c6, z10, hx6, hm⟩ := bd2 hm
        refine o_callC en_52 rfl (s_skip (s_skip (s_skip (s_skip (s_skip (s_skip (s_skip (s_skip (s_skip (s_skip (s_skip (s_skip (s_skip (s_skip (s_skip (s_skip (s_take (s_take (s_take (s_take (s_take s_nil))))))))))))))))))))) (t52 ho8 ho9 ho10 ho11 hx6) rfl (fun u6 S6 hR6 => ?_)
        obtain ⟨v26, g26, rfl, rfl, ho24, ho25, ho26, ho27⟩ := hR6
        refine o_rest ?_
        refine o_L (y_assign rfl) rfl rfl ?_
        refine o_nil0 rfl ?_
        refine c_seq ?_
        refine c_joinP (n := 0) (fun sh G => sh = [(8, .bool ((decide (c5 = c6)) || (decide (c5 = 5)))), (9, .bool (decide (c5 = 5)))] ∧ G = []) Sel.all' .z (fun _ _ h => h) ?_ ?_
        · skip
          refine c_region ?_
          refine o_T (y_move rfl) rfl ?_
          refine o_T (y_move rfl) rfl ?_
          refine o_T (y_eql rfl rfl) rfl ?_
          refine o_T (y_move rfl) rfl ?_
          refine o_split 91 rfl (fun h4 => ?_) (fun h4 => ?_)
          · skip
            refine o_pass rfl rfl rfl rfl rfl ?_
            refine o_pass rfl rfl rfl rfl rfl ?_
            refine o_T (y_pickT rfl rfl) rfl ?_
            refine o_T (y_move rfl) rfl ?_
            refine o_T (y_eql rfl rfl) rfl ?_
            refine o_L (y_assign rfl) rfl rfl ?_
            refine o_L (y_assign rfl) rfl rfl ?_
            refine o_nil0 rfl ?_
            refine ⟨_, _, ⟨rfl, rfl⟩, ⟨by first | rfl | exact gtb rfl (by simp only [h4, Bool.true_and, Bool.false_and, Bool.true_or, Bool.false_or, Bool.and_true, Bool.and_false, Bool.or_true, Bool.or_false, Bool.not_true, Bool.not_false]), by first | rfl | exact gtb rfl (by simp only [h4, Bool.true_and, Bool.false_and, Bool.true_or, Bool.false_or, Bool.and_true, Bool.and_false, Bool.or_true, Bool.or_false, Bool.not_true, Bool.not_false]), trivial⟩, ⟨rfl, rfl⟩, _, (s_take (s_take (s_take (s_take (s_take (s_take (s_take (s_take (s_take (s_take (s_take (s_take (s_take (s_take (s_take (s_take (s_take (s_take (s_take (s_take (s_take (s_take s_nil))))))))))))))))))))))⟩
          · skip
            refine o_take rfl rfl rfl ?_
            refine o_T (y_move rfl) rfl ?_
            refine o_take rfl rfl rfl ?_
            refine o_T (y_eql rfl rfl) rfl ?_
            refine o_T (y_pickF rfl rfl) rfl ?_
            refine o_T (y_move rfl) rfl ?_
            refine o_T (y_eql rfl rfl) rfl ?_
            refine o_L (y_assign rfl) rfl rfl ?_
            refine o_L (y_assign rfl) rfl rfl ?_
            refine o_nil0 rfl ?_
            refine ⟨_, _, ⟨rfl, rfl⟩, ⟨by first | rfl | exact gtb rfl (by simp only [h4, Bool.true_and, Bool.false_and, Bool.true_or, Bool.false_or, Bool.and_true, Bool.and_false, Bool.or_true, Bool.or_false, Bool.not_true, Bool.not_false]), by first | rfl | exact gtb rfl (by simp only [h4, Bool.true_and, Bool.false_and, Bool.true_or, Bool.false_or, Bool.and_true, Bool.and_false, Bool.or_true, Bool.or_false, Bool.not_true, Bool.not_false]), trivial⟩, ⟨rfl, rfl⟩, _, (s_take (s_take (s_take (s_take (s_take (s_take (s_take (s_take (s_take (s_take (s_take (s_take (s_take (s_take (s_take (s_take (s_take (s_take (s_take (s_take (s_take (s_take s_nil))))))))))))))))))))))⟩
        · rintro sh G ⟨rfl, rfl⟩
          refine c_ret ?_
          obtain ⟨rfl, rfl, rfl, rfl, rfl, rfl, rfl, rfl, rfl, rfl⟩ := pr10 hm
          refine fun aX wX heX hsX => ret2 Tryz.results18 heX rfl rfl (s_get (ks (ks (ks (ks (ks (ks (ks (ks (ks k0))))))))) (s_get (ks (ks (ks (ks (ks (ks (ks (ks (ks k0))))))))) (s_get (ks (ks (ks (ks (ks (ks (ks (ks (ks k0))))))))) (s_get (ks (ks (ks (ks (ks (ks (ks (ks (ks k0))))))))) (s_get (ks (ks (ks (ks (ks (ks (ks (ks (ks k0))))))))) (s_get (ks (ks (ks (ks (ks (ks (ks (ks (ks (ks (ks (ks k0)))))))))))) (s_get (ks (ks (ks (ks (ks (ks (ks (ks (ks (ks (ks (ks k0)))))))))))) (s_get (ks (ks (ks (ks (ks (ks (ks (ks (ks (ks (ks (ks k0)))))))))))) (s_get (ks (ks (ks (ks (ks (ks (ks (ks (ks (ks (ks (ks k0)))))))))))) (s_get (ks (ks (ks (ks (ks (ks k0)))))) (s_get (ks (ks (ks (ks (ks (ks (ks k0))))))) (s_get (ks (ks (ks (ks (ks k0))))) (s_get (ks (ks (ks (ks (ks k0))))) (s_get (ks (ks (ks (ks (ks k0))))) (s_take (s_take (s_take (s_take (s_take (s_skip (s_skip (s_take s_nil)))))))))))))))))))))) ?_
          exact ⟨v20, _, v21, _, v22, _, v23, _, v5, _, v6, _, v7, _, v8, _, v9, _, v26, _, v11, _, rfl, rfl, ho20, ho21, ho22, ho23, ho5, ho6, ho7, ho24, ho25, ho26, ho27⟩
      · have hm := cd_f h3 hm
        refine c_seq ?_
        refine c_region ?_
        refine o_T (y_eql rfl rfl) rfl ?_
        refine o_L (y_assign rfl) rfl rfl ?_
        refine o_nil0 rfl ?_
        refine c_cond rfl (fun h5 => ?_) (fun h5 => ?_)
        · have hm := cd_t h5 hm
          refine c_seq ?_
          refine c_region ?_
          refine o_T (y_move rfl) rfl ?_
          refine o_T (y_fa fl_44_4 rfl) rfl ?_
          refine o_ld one_9 rfl m0 (At.got (At.refl.comp Op_.a_s)) rfl ?_
          obtain ⟨c7, z11, z12, z13, z14, z15, hx7, hm⟩ := bd6 hm
          refine o_callC en_53 rfl (s_skip (s_skip (s_get (ks (ks (ks (ks (ks (ks (ks (ks (ks (ks (ks k0))))))))))) (s_get (ks (ks (ks (ks (ks (ks (ks (ks (ks k0))))))))) (s_get (ks (ks (ks (ks (ks (ks (ks (ks (ks (ks k0)))))))))) (s_get (ks (ks (ks (ks (ks (ks (ks (ks (ks k0))))))))) (s_take (s_take (s_take (s_take (s_take (s_skip (s_skip (s_skip (s_skip (s_take s_nil)))))))))))))))) (t53 ho1 ho2 ho3 ho4 hx7) rfl (fun u7 S7 hR7 => ?_)
          obtain ⟨v28, g28, v29, g29, v30, g30, v31, g31, rfl, rfl, ho28, ho29, ho30, ho31⟩ := hR7
          refine o_rest ?_
          refine o_L (y_assign rfl) rfl rfl ?_
          refine o_nil0 rfl ?_
          refine c_seq ?_
          refine c_region ?_
          refine o_T (y_move rfl) rfl ?_
          refine o_T (y_fa fl_44_4 rfl) rfl ?_
          refine o_ld one_9 rfl (ms (ms (ms (ms (ms (ms (ms (ms (ms (ms m0)))))))))) (At.got (At.refl.comp Op_.a_s)) rfl ?_
          obtain ⟨c8, z16, hx8, hm⟩ := bd2 hm
          refine o_callC en_54 rfl (s_skip (s_skip (s_skip (s_skip (s_skip (s_skip (s_skip (s_skip (s_skip (s_skip (s_skip (s_skip (s_skip (s_skip (s_skip (s_skip (s_take (s_take (s_take (s_take (s_take s_nil))))))))))))))))))))) (t54 ho8 ho9 ho10 ho11 hx8) rfl (fun u8 S8 hR8 => ?_)
          obtain ⟨v34, g34, rfl, rfl, ho32, ho33, ho34, ho35⟩ := hR8
          refine o_rest ?_
          refine o_L (y_assign rfl) rfl rfl ?_
          refine o_nil0 rfl ?_
          refine c_seq ?_
          refine c_joinP (n := 0) (fun sh G => sh = [(8, .bool ((decide (c7 = c8)) || (decide (c7 = 5)))), (9, .bool (decide (c7 = 5)))] ∧ G = []) Sel.all' .z (fun _ _ h => h) ?_ ?_
          · skip
            refine c_region ?_
            refine o_T (y_move rfl) rfl ?_
            refine o_T (y_move rfl) rfl ?_
            refine o_T (y_eql rfl rfl) rfl ?_
            refine o_T (y_move rfl) rfl ?_
            refine o_split 110 rfl (fun h6 => ?_) (fun h6 => ?_)
            · skip
              refine o_pass rfl rfl rfl rfl rfl ?_
              refine o_pass rfl rfl rfl rfl rfl ?_
              refine o_T (y_pickT rfl rfl) rfl ?_
              refine o_T (y_move rfl) rfl ?_
              refine o_T (y_eql rfl rfl) rfl ?_
              refine o_L (y_assign rfl) rfl rfl ?_
              refine o_L (y_assign rfl) rfl rfl ?_
              refine o_nil0 rfl ?_
              refine ⟨_, _, ⟨rfl, rfl⟩, ⟨by first | rfl | exact gtb rfl (by simp only [h6, Bool.true_and, Bool.false_and, Bool.true_or, Bool.false_or, Bool.and_true, Bool.and_false, Bool.or_true, Bool.or_false, Bool.not_true, Bool.not_false]), by first | rfl | exact gtb rfl (by simp only [h6, Bool.true_and, Bool.false_and, Bool.true_or, Bool.false_or, Bool.and_true, Bool.and_false, Bool.or_true, Bool.or_false, Bool.not_true, Bool.not_false]), trivial⟩, ⟨rfl, rfl⟩, _, (s_take (s_take (s_take (s_take (s_take (s_take (s_take (s_take (s_take (s_take (s_take (s_take (s_take (s_take (s_take (s_take (s_take (s_take (s_take (s_take (s_take (s_take s_nil))))))))))))))))))))))⟩
            · skip
              refine o_take rfl rfl rfl ?_
              refine o_T (y_move rfl) rfl ?_
              refine o_take rfl rfl rfl ?_
              refine o_T (y_eql rfl rfl) rfl ?_
              refine o_T (y_pickF rfl rfl) rfl ?_
              refine o_T (y_move rfl) rfl ?_
              refine o_T (y_eql rfl rfl) rfl ?_
              refine o_L (y_assign rfl) rfl rfl ?_
              refine o_L (y_assign rfl) rfl rfl ?_
              refine o_nil0 rfl ?_
              refine ⟨_, _, ⟨rfl, rfl⟩, ⟨by first | rfl | exact gtb rfl (by simp only [h6, Bool.true_and, Bool.false_and, Bool.true_or, Bool.false_or, Bool.and_true, Bool.and_false, Bool.or_true, Bool.or_false, Bool.not_true, Bool.not_false]), by first | rfl | exact gtb rfl (by simp only [h6, Bool.true_and, Bool.false_and, Bool.true_or, Bool.false_or, Bool.and_true, Bool.and_false, Bool.or_true, Bool.or_false, Bool.not_true, Bool.not_false]), trivial⟩, ⟨rfl, rfl⟩, _, (s_take (s_take (s_take (s_take (s_take (s_take (s_take (s_take (s_take (s_take (s_take (s_take (s_take (s_take (s_take (s_take (s_take (s_take (s_take (s_take (s_take (s_take s_nil))))))))))))))))))))))⟩
          · rintro sh G ⟨rfl, rfl⟩
            refine c_ret ?_
            obtain ⟨rfl, rfl, rfl, rfl, rfl, rfl, rfl, rfl, rfl, rfl⟩ := pr10 hm
            refine fun aX wX heX hsX => ret2 Tryz.results18 heX rfl rfl (s_get (ks (ks (ks (ks (ks (ks (ks (ks (ks k0))))))))) (s_get (ks (ks (ks (ks (ks (ks (ks (ks (ks k0))))))))) (s_get (ks (ks (ks (ks (ks (ks (ks (ks (ks k0))))))))) (s_get (ks (ks (ks (ks (ks (ks (ks (ks (ks k0))))))))) (s_get (ks (ks (ks (ks (ks (ks (ks (ks (ks k0))))))))) (s_get (ks (ks (ks (ks (ks (ks (ks (ks (ks (ks (ks (ks k0)))))))))))) (s_get (ks (ks (ks (ks (ks (ks (ks (ks (ks (ks (ks (ks k0)))))))))))) (s_get (ks (ks (ks (ks (ks (ks (ks (ks (ks (ks (ks (ks k0)))))))))))) (s_get (ks (ks (ks (ks (ks (ks (ks (ks (ks (ks (ks (ks k0)))))))))))) (s_get (ks (ks (ks (ks (ks (ks k0)))))) (s_get (ks (ks (ks (ks (ks (ks (ks k0))))))) (s_get (ks (ks (ks (ks (ks k0))))) (s_get (ks (ks (ks (ks (ks k0))))) (s_get (ks (ks (ks (ks (ks k0))))) (s_take (s_take (s_take (s_take (s_take (s_skip (s_skip (s_take s_nil)))))))))))))))))))))) ?_
            exact ⟨v28, _, v29, _, v30, _, v31, _, v5, _, v6, _, v7, _, v8, _, v9, _, v34, _, v11, _, rfl, rfl, ho28, ho29, ho30, ho31, ho5, ho6, ho7, ho32, ho33, ho34, ho35⟩
        · have hm := cd_f h5 hm
          refine c_seq ?_
          refine c_region ?_
          refine o_T (y_eql rfl rfl) rfl ?_
          refine o_L (y_assign rfl) rfl rfl ?_
          refine o_nil0 rfl ?_
          refine c_cond rfl (fun h7 => ?_) (fun h7 => ?_)
          · have hm := cd_t h7 hm
            refine c_seq ?_
            refine c_region ?_
            refine o_T (y_move rfl) rfl ?_
            refine o_T (y_fa fl_44_4 rfl) rfl ?_
            refine o_ld one_9 rfl m0 (At.got (At.refl.comp Op_.a_s)) rfl ?_
            obtain ⟨c9, c10, z17, z18, z19, z20, z21, hx9, hm⟩ := bd7 hm
            refine o_callC en_55 rfl (s_skip (s_skip (s_get (ks (ks (ks (ks (ks (ks (ks (ks (ks (ks (ks k0))))))))))) (s_get (ks (ks (ks (ks (ks (ks (ks (ks (ks k0))))))))) (s_get (ks (ks (ks (ks (ks (ks (ks (ks (ks (ks k0)))))))))) (s_get (ks (ks (ks (ks (ks (ks (ks (ks (ks k0))))))))) (s_take (s_take (s_take (s_take (s_take (s_skip (s_skip (s_skip (s_skip (s_take s_nil)))))))))))))))) (t55 ho1 ho2 ho3 ho4 hx9) rfl (fun u9 S9 hR9 => ?_)
            obtain ⟨v36, g36, v37, g37, v38, g38, v39, g39, rfl, rfl, ho36, ho37, ho38, ho39⟩ := hR9
            refine o_rest ?_
            refine o_T (y_move rfl) rfl ?_
            refine o_T (y_extract rfl rfl) rfl ?_
            refine o_T (y_extract rfl rfl) rfl ?_
            refine o_L (y_assign rfl) rfl rfl ?_
            refine o_L (y_assign rfl) rfl rfl ?_
            refine o_nil0 rfl ?_
            refine c_seq ?_
            refine c_region ?_
            refine o_T (y_move rfl) rfl ?_
            refine o_T (y_fa fl_44_4 rfl) rfl ?_
            refine o_ld one_9 rfl (ms (ms (ms (ms (ms (ms (ms (ms (ms (ms m0)))))))))) (At.got (At.refl.comp Op_.a_s)) rfl ?_
            obtain ⟨c11, c12, z22, hx10, hm⟩ := bd3 hm
            refine o_callC en_56 rfl (s_skip (s_skip (s_skip (s_skip (s_skip (s_skip (s_skip (s_skip (s_skip (s_skip (s_skip (s_skip (s_skip (s_skip (s_skip (s_skip (s_take (s_take (s_take (s_take (s_take s_nil))))))))))))))))))))) (t56 ho8 ho9 ho10 ho11 hx10) rfl (fun u10 S10 hR10 => ?_)
            obtain ⟨v40, g40, v41, g41, rfl, rfl, ho40, ho41, ho42, ho43⟩ := hR10
            refine o_rest ?_
            refine o_T (y_move rfl) rfl ?_
            refine o_T (y_extract rfl rfl) rfl ?_
            refine o_T (y_extract rfl rfl) rfl ?_
            refine o_L (y_assign rfl) rfl rfl ?_
            refine o_L (y_assign rfl) rfl rfl ?_
            refine o_nil0 rfl ?_
            refine c_seq ?_
            refine c_seq ?_
            refine c_region ?_
            refine o_T (y_move rfl) rfl ?_
            refine o_T (y_eql rfl rfl) rfl ?_
            refine o_nil1 133 rfl rfl ?_
            refine c_cond rfl (fun h8 => ?_) (fun h8 => ?_)
            · have hm := cd_t h8 hm
              refine c_seq ?_
              refine c_region ?_
              refine o_T (y_move rfl) rfl ?_
              refine o_T (y_eql rfl rfl) rfl ?_
              refine o_L (y_assign rfl) rfl rfl ?_
              refine o_L (y_assign rfl) rfl rfl ?_
              refine o_nil0 rfl ?_
              refine c_ret ?_
              obtain ⟨rfl, rfl, rfl, rfl, rfl, rfl, rfl, rfl, rfl, rfl⟩ := pr10 hm
              refine fun aX wX heX hsX => ret2 Tryz.results18 heX rfl rfl (s_get (ks (ks (ks (ks (ks (ks (ks (ks (ks k0))))))))) (s_get (ks (ks (ks (ks (ks (ks (ks (ks (ks k0))))))))) (s_get (ks (ks (ks (ks (ks (ks (ks (ks (ks k0))))))))) (s_get (ks (ks (ks (ks (ks (ks (ks (ks (ks k0))))))))) (s_get (ks (ks (ks (ks (ks (ks (ks (ks (ks k0))))))))) (s_get (ks (ks (ks (ks (ks (ks (ks (ks (ks (ks (ks (ks k0)))))))))))) (s_get (ks (ks (ks (ks (ks (ks (ks (ks (ks (ks (ks (ks k0)))))))))))) (s_get (ks (ks (ks (ks (ks (ks (ks (ks (ks (ks (ks (ks k0)))))))))))) (s_get (ks (ks (ks (ks (ks (ks (ks (ks (ks (ks (ks (ks k0)))))))))))) (s_get (ks (ks (ks (ks (ks (ks k0)))))) (s_get (ks (ks (ks (ks (ks (ks (ks k0))))))) (s_get (ks (ks (ks (ks (ks k0))))) (s_get (ks (ks (ks (ks (ks k0))))) (s_get (ks (ks (ks (ks (ks k0))))) (s_take (s_take (s_take (s_take (s_take (s_skip (s_skip (s_take s_nil)))))))))))))))))))))) ?_
              exact ⟨v36, _, v37, _, v38, _, v39, _, v5, _, v6, _, v7, _, v40, _, v41, _, v10, _, v11, _, rfl, rfl, ho36, ho37, ho38, ho39, ho5, ho6, ho7, ho40, ho41, ho42, ho43⟩
            · have hm := cd_f h8 hm
              refine c_skip ?_
              refine c_seq ?_
              refine c_joinP (n := 0) (fun sh G => sh = [(8, .bool ((decide (c9 = c11)) && (decide (c10 = c12)))), (9, .bool false)] ∧ G = []) Sel.all' .z (fun _ _ h => h) ?_ ?_
              · skip
                refine c_region ?_
                refine o_T (y_move rfl) rfl ?_
                refine o_T (y_move rfl) rfl ?_
                refine o_T (y_eql rfl rfl) rfl ?_
                refine o_T (y_move rfl) rfl ?_
                refine o_split 139 rfl (fun h9 => ?_) (fun h9 => ?_)
                · skip
                  refine o_take rfl rfl rfl ?_
                  refine o_T (y_move rfl) rfl ?_
                  refine o_take rfl rfl rfl ?_
                  refine o_T (y_move rfl) rfl ?_
                  refine o_take rfl rfl rfl ?_
                  refine o_T (y_eql rfl rfl) rfl ?_
                  refine o_T (y_pickT rfl rfl) rfl ?_
                  refine o_L (y_assign rfl) rfl rfl ?_
                  refine o_L (y_assign rfl) rfl rfl ?_
                  refine o_nil0 rfl ?_
                  refine ⟨_, _, ⟨rfl, rfl⟩, ⟨by first | rfl | exact gtb rfl (by simp only [h9, Bool.true_and, Bool.false_and, Bool.true_or, Bool.false_or, Bool.and_true, Bool.and_false, Bool.or_true, Bool.or_false, Bool.not_true, Bool.not_false]), by first | rfl | exact gtb rfl (by simp only [h9, Bool.true_and, Bool.false_and, Bool.true_or, Bool.false_or, Bool.and_true, Bool.and_false, Bool.or_true, Bool.or_false, Bool.not_true, Bool.not_false]), trivial⟩, ⟨rfl, rfl⟩, _, (s_take (s_take (s_take (s_take (s_take (s_take (s_take (s_take (s_take (s_take (s_take (s_take (s_take (s_take (s_take (s_take (s_take (s_take (s_take (s_take (s_take (s_take s_nil))))))))))))))))))))))⟩
                · skip
                  refine o_pass rfl rfl rfl rfl rfl ?_
                  refine o_pass rfl rfl rfl rfl rfl ?_
                  refine o_pass rfl rfl rfl rfl rfl ?_
                  refine o_T (y_pickF rfl rfl) rfl ?_
                  refine o_L (y_assign rfl) rfl rfl ?_
                  refine o_L (y_assign rfl) rfl rfl ?_
                  refine o_nil0 rfl ?_
                  refine ⟨_, _, ⟨rfl, rfl⟩, ⟨by first | rfl | exact gtb rfl (by simp only [h9, Bool.true_and, Bool.false_and, Bool.true_or, Bool.false_or, Bool.and_true, Bool.and_false, Bool.or_true, Bool.or_false, Bool.not_true, Bool.not_false]), by first | rfl | exact gtb rfl (by simp only [h9, Bool.true_and, Bool.false_and, Bool.true_or, Bool.false_or, Bool.and_true, Bool.and_false, Bool.or_true, Bool.or_false, Bool.not_true, Bool.not_false]), trivial⟩, ⟨rfl, rfl⟩, _, (s_take (s_take (s_take (s_take (s_take (s_take (s_take (s_take (s_take (s_take (s_take (s_take (s_take (s_take (s_take (s_take (s_take (s_take (s_take (s_take (s_take (s_take s_nil))))))))))))))))))))))⟩
              · rintro sh G ⟨rfl, rfl⟩
                refine c_ret ?_
                obtain ⟨rfl, rfl, rfl, rfl, rfl, rfl, rfl, rfl, rfl, rfl⟩ := pr10 hm
                refine fun aX wX heX hsX => ret2 Tryz.results18 heX rfl rfl (s_get (ks (ks (ks (ks (ks (ks (ks (ks (ks k0))))))))) (s_get (ks (ks (ks (ks (ks (ks (ks (ks (ks k0))))))))) (s_get (ks (ks (ks (ks (ks (ks (ks (ks (ks k0))))))))) (s_get (ks (ks (ks (ks (ks (ks (ks (ks (ks k0))))))))) (s_get (ks (ks (ks (ks (ks (ks (ks (ks (ks k0))))))))) (s_get (ks (ks (ks (ks (ks (ks (ks (ks (ks (ks (ks (ks k0)))))))))))) (s_get (ks (ks (ks (ks (ks (ks (ks (ks (ks (ks (ks (ks k0)))))))))))) (s_get (ks (ks (ks (ks (ks (ks (ks (ks (ks (ks (ks (ks k0)))))))))))) (s_get (ks (ks (ks (ks (ks (ks (ks (ks (ks (ks (ks (ks k0)))))))))))) (s_get (ks (ks (ks (ks (ks (ks k0)))))) (s_get (ks (ks (ks (ks (ks (ks (ks k0))))))) (s_get (ks (ks (ks (ks (ks k0))))) (s_get (ks (ks (ks (ks (ks k0))))) (s_get (ks (ks (ks (ks (ks k0))))) (s_take (s_take (s_take (s_take (s_take (s_skip (s_skip (s_take s_nil)))))))))))))))))))))) ?_
                exact ⟨v36, _, v37, _, v38, _, v39, _, v5, _, v6, _, v7, _, v40, _, v41, _, v10, _, v11, _, rfl, rfl, ho36, ho37, ho38, ho39, ho5, ho6, ho7, ho40, ho41, ho42, ho43⟩
          · have hm := cd_f h7 hm
            refine c_seq ?_
            refine c_region ?_
            refine o_T (y_eql rfl rfl) rfl ?_
            refine o_L (y_assign rfl) rfl rfl ?_
            refine o_nil0 rfl ?_
            refine c_cond rfl (fun h10 => ?_) (fun h10 => ?_)
            · have hm := cd_t h10 hm
              refine c_seq ?_
              refine c_region ?_
              refine o_T (y_move rfl) rfl ?_
              refine o_T (y_fa fl_44_4 rfl) rfl ?_
              refine o_ld one_9 rfl m0 (At.got (At.refl.comp Op_.a_s)) rfl ?_
              obtain ⟨c13, z23, z24, z25, z26, z27, hx11, hm⟩ := bd6 hm
              refine o_callC en_57 rfl (s_skip (s_skip (s_get (ks (ks (ks (ks (ks (ks (ks (ks (ks (ks (ks k0))))))))))) (s_get (ks (ks (ks (ks (ks (ks (ks (ks (ks k0))))))))) (s_get (ks (ks (ks (ks (ks (ks (ks (ks (ks (ks k0)))))))))) (s_get (ks (ks (ks (ks (ks (ks (ks (ks (ks k0))))))))) (s_take (s_take (s_take (s_take (s_take (s_skip (s_skip (s_skip (s_skip (s_take s_nil)))))))))))))))) (t57 ho1 ho2 ho3 ho4 hx11) rfl (fun u11 S11 hR11 => ?_)
              obtain ⟨v44, g44, v45, g45, v46, g46, v47, g47, rfl, rfl, ho44, ho45, ho46, ho47⟩ := hR11
              refine o_rest ?_
              refine o_L (y_assign rfl) rfl rfl ?_
              refine o_nil0 rfl ?_
              refine c_seq ?_
              refine c_region ?_
              refine o_T (y_move rfl) rfl ?_
              refine o_T (y_fa fl_44_4 rfl) rfl ?_
              refine o_ld one_9 rfl (ms (ms (ms (ms (ms (ms (ms (ms (ms (ms m0)))))))))) (At.got (At.refl.comp Op_.a_s)) rfl ?_
              obtain ⟨c14, z28, hx12, hm⟩ := bd2 hm
              refine o_callC en_58 rfl (s_skip (s_skip (s_skip (s_skip (s_skip (s_skip (s_skip (s_skip (s_skip (s_skip (s_skip (s_skip (s_skip (s_skip (s_skip (s_skip (s_take (s_take (s_take (s_take (s_take s_nil))))))))))))))))))))) (t58 ho8 ho9 ho10 ho11 hx12) rfl (fun u12 S12 hR12 => ?_)
              obtain ⟨v49, g49, rfl, rfl, ho48, ho49, ho50, ho51⟩ := hR12
              refine o_rest ?_
              refine o_L (y_assign rfl) rfl rfl ?_
              refine o_nil0 rfl ?_
              refine c_seq ?_
              refine c_joinP (n := 0) (fun sh G => sh = [(8, .bool ((decide (c13 = c14)) || (decide (c13 = 5)))), (9, .bool (decide (c13 = 5)))] ∧ G = []) Sel.all' .z (fun _ _ h => h) ?_ ?_
              · skip
                refine c_region ?_
                refine o_T (y_move rfl) rfl ?_
                refine o_T (y_move rfl) rfl ?_
                refine o_T (y_eql rfl rfl) rfl ?_
                refine o_T (y_move rfl) rfl ?_
                refine o_split 157 rfl (fun h11 => ?_) (fun h11 => ?_)
                · skip
                  refine o_pass rfl rfl rfl rfl rfl ?_
                  refine o_pass rfl rfl rfl rfl rfl ?_
                  refine o_T (y_pickT rfl rfl) rfl ?_
                  refine o_T (y_move rfl) rfl ?_
                  refine o_T (y_eql rfl rfl) rfl ?_
                  refine o_L (y_assign rfl) rfl rfl ?_
                  refine o_L (y_assign rfl) rfl rfl ?_
                  refine o_nil0 rfl ?_
                  refine ⟨_, _, ⟨rfl, rfl⟩, ⟨by first | rfl | exact gtb rfl (by simp only [h11, Bool.true_and, Bool.false_and, Bool.true_or, Bool.false_or, Bool.and_true, Bool.and_false, Bool.or_true, Bool.or_false, Bool.not_true, Bool.not_false]), by first | rfl | exact gtb rfl (by simp only [h11, Bool.true_and, Bool.false_and, Bool.true_or, Bool.false_or, Bool.and_true, Bool.and_false, Bool.or_true, Bool.or_false, Bool.not_true, Bool.not_false]), trivial⟩, ⟨rfl, rfl⟩, _, (s_take (s_take (s_take (s_take (s_take (s_take (s_take (s_take (s_take (s_take (s_take (s_take (s_take (s_take (s_take (s_take (s_take (s_take (s_take (s_take (s_take (s_take s_nil))))))))))))))))))))))⟩
                · skip
                  refine o_take rfl rfl rfl ?_
                  refine o_T (y_move rfl) rfl ?_
                  refine o_take rfl rfl rfl ?_
                  refine o_T (y_eql rfl rfl) rfl ?_
                  refine o_T (y_pickF rfl rfl) rfl ?_
                  refine o_T (y_move rfl) rfl ?_
                  refine o_T (y_eql rfl rfl) rfl ?_
                  refine o_L (y_assign rfl) rfl rfl ?_
                  refine o_L (y_assign rfl) rfl rfl ?_
                  refine o_nil0 rfl ?_
                  refine ⟨_, _, ⟨rfl, rfl⟩, ⟨by first | rfl | exact gtb rfl (by simp only [h11, Bool.true_and, Bool.false_and, Bool.true_or, Bool.false_or, Bool.and_true, Bool.and_false, Bool.or_true, Bool.or_false, Bool.not_true, Bool.not_false]), by first | rfl | exact gtb rfl (by simp only [h11, Bool.true_and, Bool.false_and, Bool.true_or, Bool.false_or, Bool.and_true, Bool.and_false, Bool.or_true, Bool.or_false, Bool.not_true, Bool.not_false]), trivial⟩, ⟨rfl, rfl⟩, _, (s_take (s_take (s_take (s_take (s_take (s_take (s_take (s_take (s_take (s_take (s_take (s_take (s_take (s_take (s_take (s_take (s_take (s_take (s_take (s_take (s_take (s_take s_nil))))))))))))))))))))))⟩
              · rintro sh G ⟨rfl, rfl⟩
                refine c_ret ?_
                obtain ⟨rfl, rfl, rfl, rfl, rfl, rfl, rfl, rfl, rfl, rfl⟩ := pr10 hm
                refine fun aX wX heX hsX => ret2 Tryz.results18 heX rfl rfl (s_get (ks (ks (ks (ks (ks (ks (ks (ks (ks k0))))))))) (s_get (ks (ks (ks (ks (ks (ks (ks (ks (ks k0))))))))) (s_get (ks (ks (ks (ks (ks (ks (ks (ks (ks k0))))))))) (s_get (ks (ks (ks (ks (ks (ks (ks (ks (ks k0))))))))) (s_get (ks (ks (ks (ks (ks (ks (ks (ks (ks k0))))))))) (s_get (ks (ks (ks (ks (ks (ks (ks (ks (ks (ks (ks (ks k0)))))))))))) (s_get (ks (ks (ks (ks (ks (ks (ks (ks (ks (ks (ks (ks k0)))))))))))) (s_get (ks (ks (ks (ks (ks (ks (ks (ks (ks (ks (ks (ks k0)))))))))))) (s_get (ks (ks (ks (ks (ks (ks (ks (ks (ks (ks (ks (ks k0)))))))))))) (s_get (ks (ks (ks (ks (ks (ks k0)))))) (s_get (ks (ks (ks (ks (ks (ks (ks k0))))))) (s_get (ks (ks (ks (ks (ks k0))))) (s_get (ks (ks (ks (ks (ks k0))))) (s_get (ks (ks (ks (ks (ks k0))))) (s_take (s_take (s_take (s_take (s_take (s_skip (s_skip (s_take s_nil)))))))))))))))))))))) ?_
                exact ⟨v44, _, v45, _, v46, _, v47, _, v5, _, v6, _, v7, _, v8, _, v49, _, v10, _, v11, _, rfl, rfl, ho44, ho45, ho46, ho47, ho5, ho6, ho7, ho48, ho49, ho50, ho51⟩
            · have hm := cd_f h10 hm
              refine c_seq ?_
              refine c_region ?_
              refine o_T (y_eql rfl rfl) rfl ?_
              refine o_L (y_assign rfl) rfl rfl ?_
              refine o_nil0 rfl ?_
              refine c_cond rfl (fun h12 => ?_) (fun h12 => ?_)
              · have hm := cd_t h12 hm
                refine c_seq ?_
                refine c_region ?_
                refine o_T (y_move rfl) rfl ?_
                refine o_T (y_fa fl_44_4 rfl) rfl ?_
                refine o_ld one_9 rfl m0 (At.got (At.refl.comp Op_.a_s)) rfl ?_
                obtain ⟨c15, z29, z30, z31, z32, z33, hx13, hm⟩ := bd6 hm
                refine o_callC en_59 rfl (s_skip (s_skip (s_get (ks (ks (ks (ks (ks (ks (ks (ks (ks (ks (ks k0))))))))))) (s_get (ks (ks (ks (ks (ks (ks (ks (ks (ks k0))))))))) (s_get (ks (ks (ks (ks (ks (ks (ks (ks (ks (ks k0)))))))))) (s_get (ks (ks (ks (ks (ks (ks (ks (ks (ks k0))))))))) (s_take (s_take (s_take (s_take (s_take (s_skip (s_skip (s_skip (s_skip (s_take s_nil)))))))))))))))) (t59 ho1 ho2 ho3 ho4 hx13) rfl (fun u13 S13 hR13 => ?_)
                obtain ⟨v52, g52, v53, g53, v54, g54, v55, g55, rfl, rfl, ho52, ho53, ho54, ho55⟩ := hR13
                refine o_rest ?_
                refine o_L (y_assign rfl) rfl rfl ?_
                refine o_nil0 rfl ?_
                refine c_seq ?_
                refine c_region ?_
                refine o_T (y_move rfl) rfl ?_
                refine o_T (y_fa fl_44_4 rfl) rfl ?_
                refine o_ld one_9 rfl (ms (ms (ms (ms (ms (ms (ms (ms (ms (ms m0)))))))))) (At.got (At.refl.comp Op_.a_s)) rfl ?_
                obtain ⟨c16, z34, hx14, hm⟩ := bd2 hm
                refine o_callC en_60 rfl (s_skip (s_skip (s_skip (s_skip (s_skip (s_skip (s_skip (s_skip (s_skip (s_skip (s_skip (s_skip (s_skip (s_skip (s_skip (s_skip (s_take (s_take (s_take (s_take (s_take s_nil))))))))))))))))))))) (t60 ho8 ho9 ho10 ho11 hx14) rfl (fun u14 S14 hR14 => ?_)
                obtain ⟨v57, g57, rfl, rfl, ho56, ho57, ho58, ho59⟩ := hR14
                refine o_rest ?_
                refine o_L (y_assign rfl) rfl rfl ?_
                refine o_nil0 rfl ?_
                refine c_seq ?_
                refine c_joinP (n := 0) (fun sh G => sh = [(8, .bool ((decide (c15 = c16)) || (decide (c15 = 5)))), (9, .bool (decide (c15 = 5)))] ∧ G = []) Sel.all' .z (fun _ _ h => h) ?_ ?_
                · skip
                  refine c_region ?_
                  refine o_T (y_move rfl) rfl ?_
                  refine o_T (y_move rfl) rfl ?_
                  refine o_T (y_eql rfl rfl) rfl ?_
                  refine o_T (y_move rfl) rfl ?_
                  refine o_split 176 rfl (fun h13 => ?_) (fun h13 => ?_)
                  · skip
                    refine o_pass rfl rfl rfl rfl rfl ?_
                    refine o_pass rfl rfl rfl rfl rfl ?_
                    refine o_T (y_pickT rfl rfl) rfl ?_
                    refine o_T (y_move rfl) rfl ?_
                    refine o_T (y_eql rfl rfl) rfl ?_
                    refine o_L (y_assign rfl) rfl rfl ?_
                    refine o_L (y_assign rfl) rfl rfl ?_
                    refine o_nil0 rfl ?_
                    refine ⟨_, _, ⟨rfl, rfl⟩, ⟨by first | rfl | exact gtb rfl (by simp only [h13, Bool.true_and, Bool.false_and, Bool.true_or, Bool.false_or, Bool.and_true, Bool.and_false, Bool.or_true, Bool.or_false, Bool.not_true, Bool.not_false]), by first | rfl | exact gtb rfl (by simp only [h13, Bool.true_and, Bool.false_and, Bool.true_or, Bool.false_or, Bool.and_true, Bool.and_false, Bool.or_true, Bool.or_false, Bool.not_true, Bool.not_false]), trivial⟩, ⟨rfl, rfl⟩, _, (s_take (s_take (s_take (s_take (s_take (s_take (s_take (s_take (s_take (s_take (s_take (s_take (s_take (s_take (s_take (s_take (s_take (s_take (s_take (s_take (s_take (s_take s_nil))))))))))))))))))))))⟩
                  · skip
                    refine o_take rfl rfl rfl ?_
                    refine o_T (y_move rfl) rfl ?_
                    refine o_take rfl rfl rfl ?_
                    refine o_T (y_eql rfl rfl) rfl ?_
                    refine o_T (y_pickF rfl rfl) rfl ?_
                    refine o_T (y_move rfl) rfl ?_
                    refine o_T (y_eql rfl rfl) rfl ?_
                    refine o_L (y_assign rfl) rfl rfl ?_
                    refine o_L (y_assign rfl) rfl rfl ?_
                    refine o_nil0 rfl ?_
                    refine ⟨_, _, ⟨rfl, rfl⟩, ⟨by first | rfl | exact gtb rfl (by simp only [h13, Bool.true_and, Bool.false_and, Bool.true_or, Bool.false_or, Bool.and_true, Bool.and_false, Bool.or_true, Bool.or_false, Bool.not_true, Bool.not_false]), by first | rfl | exact gtb rfl (by simp only [h13, Bool.true_and, Bool.false_and, Bool.true_or, Bool.false_or, Bool.and_true, Bool.and_false, Bool.or_true, Bool.or_false, Bool.not_true, Bool.not_false]), trivial⟩, ⟨rfl, rfl⟩, _, (s_take (s_take (s_take (s_take (s_take (s_take (s_take (s_take (s_take (s_take (s_take (s_take (s_take (s_take (s_take (s_take (s_take (s_take (s_take (s_take (s_take (s_take s_nil))))))))))))))))))))))⟩
                · rintro sh G ⟨rfl, rfl⟩
                  refine c_ret ?_
                  obtain ⟨rfl, rfl, rfl, rfl, rfl, rfl, rfl, rfl, rfl, rfl⟩ := pr10 hm
                  refine fun aX wX heX hsX => ret2 Tryz.results18 heX rfl rfl (s_get (ks (ks (ks (ks (ks (ks (ks (ks (ks k0))))))))) (s_get (ks (ks (ks (ks (ks (ks (ks (ks (ks k0))))))))) (s_get (ks (ks (ks (ks (ks (ks (ks (ks (ks k0))))))))) (s_get (ks (ks (ks (ks (ks (ks (ks (ks (ks k0))))))))) (s_get (ks (ks (ks (ks (ks (ks (ks (ks (ks k0))))))))) (s_get (ks (ks (ks (ks (ks (ks (ks (ks (ks (ks (ks (ks k0)))))))))))) (s_get (ks (ks (ks (ks (ks (ks (ks (ks (ks (ks (ks (ks k0)))))))))))) (s_get (ks (ks (ks (ks (ks (ks (ks (ks (ks (ks (ks (ks k0)))))))))))) (s_get (ks (ks (ks (ks (ks (ks (ks (ks (ks (ks (ks (ks k0)))))))))))) (s_get (ks (ks (ks (ks (ks (ks k0)))))) (s_get (ks (ks (ks (ks (ks (ks (ks k0))))))) (s_get (ks (ks (ks (ks (ks k0))))) (s_get (ks (ks (ks (ks (ks k0))))) (s_get (ks (ks (ks (ks (ks k0))))) (s_take (s_take (s_take (s_take (s_take (s_skip (s_skip (s_take s_nil)))))))))))))))))))))) ?_
                  exact ⟨v52, _, v53, _, v54, _, v55, _, v5, _, v6, _, v7, _, v8, _, v57, _, v10, _, v11, _, rfl, rfl, ho52, ho53, ho54, ho55, ho5, ho6, ho7, ho56, ho57, ho58, ho59⟩
              · have hm := cd_f h12 hm
                refine c_seq ?_
                refine c_region ?_
                refine o_T (y_eql rfl rfl) rfl ?_
                refine o_L (y_assign rfl) rfl rfl ?_
                refine o_nil0 rfl ?_
                refine c_cond rfl (fun h14 => ?_) (fun h14 => ?_)
                · have hm := cd_t h14 hm
                  refine c_seq ?_
                  refine c_region ?_
                  refine o_T (y_move rfl) rfl ?_
                  refine o_T (y_fa fl_44_4 rfl) rfl ?_
                  refine o_ld one_9 rfl m0 (At.got (At.refl.comp Op_.a_s)) rfl ?_
                  obtain ⟨c17, z35, z36, z37, z38, z39, z40, hx15, hm⟩ := bd7 hm
                  refine o_callC en_61 rfl (s_skip (s_skip (s_get (ks (ks (ks (ks (ks (ks (ks (ks (ks (ks (ks k0))))))))))) (s_get (ks (ks (ks (ks (ks (ks (ks (ks (ks k0))))))))) (s_get (ks (ks (ks (ks (ks (ks (ks (ks (ks (ks k0)))))))))) (s_get (ks (ks (ks (ks (ks (ks (ks (ks (ks k0))))))))) (s_take (s_take (s_take (s_take (s_take (s_skip (s_skip (s_skip (s_skip (s_take s_nil)))))))))))))))) (t61 ho1 ho2 ho3 ho4 hx15) rfl (fun u15 S15 hR15 => ?_)
                  obtain ⟨v60, g60, v61, g61, v62, g62, v63, g63, rfl, rfl, ho60, ho61, ho62, ho63⟩ := hR15
                  refine o_rest ?_
                  refine o_L (y_assign rfl) rfl rfl ?_
                  refine o_nil0 rfl ?_
                  refine c_seq ?_
                  refine c_region ?_
                  refine o_T (y_move rfl) rfl ?_
                  refine o_T (y_fa fl_44_4 rfl) rfl ?_
                  refine o_ld one_9 rfl (ms (ms (ms (ms (ms (ms (ms (ms (ms (ms m0)))))))))) (At.got (At.refl.comp Op_.a_s)) rfl ?_
                  obtain ⟨c18, z41, hx16, hm⟩ := bd2 hm
                  refine o_callC en_62 rfl (s_skip (s_skip (s_skip (s_skip (s_skip (s_skip (s_skip (s_skip (s_skip (s_skip (s_skip (s_skip (s_skip (s_skip (s_skip (s_skip (s_take (s_take (s_take (s_take (s_take s_nil))))))))))))))))))))) (t62 ho8 ho9 ho10 ho11 hx16) rfl (fun u16 S16 hR16 => ?_)
                  obtain ⟨v66, g66, v67, g67, rfl, rfl, ho64, ho65, ho66, ho67⟩ := hR16
                  refine o_rest ?_
                  refine o_L (y_assign rfl) rfl rfl ?_
                  refine o_nil0 rfl ?_
                  refine c_seq ?_
                  refine c_joinP (n := 0) (fun sh G => sh = [(8, .bool ((decide (c17 = c18)) || (decide (c17 = 5)))), (9, .bool (decide (c17 = 5)))] ∧ G = []) Sel.all' .z (fun _ _ h => h) ?_ ?_
                  · skip
                    refine c_region ?_
                    refine o_T (y_move rfl) rfl ?_
                    refine o_T (y_move rfl) rfl ?_
                    refine o_T (y_eql rfl rfl) rfl ?_
                    refine o_T (y_move rfl) rfl ?_
                    refine o_split 195 rfl (fun h15 => ?_) (fun h15 => ?_)
                    · skip
                      refine o_pass rfl rfl rfl rfl rfl ?_
                      refine o_pass rfl rfl rfl rfl rfl ?_
                      refine o_T (y_pickT rfl rfl) rfl ?_
                      refine o_T (y_move rfl) rfl ?_
                      refine o_T (y_eql rfl rfl) rfl ?_
                      refine o_L (y_assign rfl) rfl rfl ?_
                      refine o_L (y_assign rfl) rfl rfl ?_
                      refine o_nil0 rfl ?_
                      refine ⟨_, _, ⟨rfl, rfl⟩, ⟨by first | rfl | exact gtb rfl (by simp only [h15, Bool.true_and, Bool.false_and, Bool.true_or, Bool.false_or, Bool.and_true, Bool.and_false, Bool.or_true, Bool.or_false, Bool.not_true, Bool.not_false]), by first | rfl | exact gtb rfl (by simp only [h15, Bool.true_and, Bool.false_and, Bool.true_or, Bool.false_or, Bool.and_true, Bool.and_false, Bool.or_true, Bool.or_false, Bool.not_true, Bool.not_false]), trivial⟩, ⟨rfl, rfl⟩, _, (s_take (s_take (s_take (s_take (s_take (s_take (s_take (s_take (s_take (s_take (s_take (s_take (s_take (s_take (s_take (s_take (s_take (s_take (s_take (s_take (s_take (s_take s_nil))))))))))))))))))))))⟩
                    · skip
                      refine o_take rfl rfl rfl ?_
                      refine o_T (y_move rfl) rfl ?_
                      refine o_take rfl rfl rfl ?_
                      refine o_T (y_eql rfl rfl) rfl ?_
                      refine o_T (y_pickF rfl rfl) rfl ?_
                      refine o_T (y_move rfl) rfl ?_
                      refine o_T (y_eql rfl rfl) rfl ?_
                      refine o_L (y_assign rfl) rfl rfl ?_
                      refine o_L (y_assign rfl) rfl rfl ?_
                      refine o_nil0 rfl ?_
                      refine ⟨_, _, ⟨rfl, rfl⟩, ⟨by first | rfl | exact gtb rfl (by simp only [h15, Bool.true_and, Bool.false_and, Bool.true_or, Bool.false_or, Bool.and_true, Bool.and_false, Bool.or_true, Bool.or_false, Bool.not_true, Bool.not_false]), by first | rfl | exact gtb rfl (by simp only [h15, Bool.true_and, Bool.false_and, Bool.true_or, Bool.false_or, Bool.and_true, Bool.and_false, Bool.or_true, Bool.or_false, Bool.not_true, Bool.not_false]), trivial⟩, ⟨rfl, rfl⟩, _, (s_take (s_take (s_take (s_take (s_take (s_take (s_take (s_take (s_take (s_take (s_take (s_take (s_take (s_take (s_take (s_take (s_take (s_take (s_take (s_take (s_take (s_take s_nil))))))))))))))))))))))⟩
                  · rintro sh G ⟨rfl, rfl⟩
                    refine c_ret ?_
                    obtain ⟨rfl, rfl, rfl, rfl, rfl, rfl, rfl, rfl, rfl, rfl⟩ := pr10 hm
                    refine fun aX wX heX hsX => ret2 Tryz.results18 heX rfl rfl (s_get (ks (ks (ks (ks (ks (ks (ks (ks (ks k0))))))))) (s_get (ks (ks (ks (ks (ks (ks (ks (ks (ks k0))))))))) (s_get (ks (ks (ks (ks (ks (ks (ks (ks (ks k0))))))))) (s_get (ks (ks (ks (ks (ks (ks (ks (ks (ks k0))))))))) (s_get (ks (ks (ks (ks (ks (ks (ks (ks (ks k0))))))))) (s_get (ks (ks (ks (ks (ks (ks (ks (ks (ks (ks (ks (ks k0)))))))))))) (s_get (ks (ks (ks (ks (ks (ks (ks (ks (ks (ks (ks (ks k0)))))))))))) (s_get (ks (ks (ks (ks (ks (ks (ks (ks (ks (ks (ks (ks k0)))))))))))) (s_get (ks (ks (ks (ks (ks (ks (ks (ks (ks (ks (ks (ks k0)))))))))))) (s_get (ks (ks (ks (ks (ks (ks k0)))))) (s_get (ks (ks (ks (ks (ks (ks (ks k0))))))) (s_get (ks (ks (ks (ks (ks k0))))) (s_get (ks (ks (ks (ks (ks k0))))) (s_get (ks (ks (ks (ks (ks k0))))) (s_take (s_take (s_take (s_take (s_take (s_skip (s_skip (s_take s_nil)))))))))))))))))))))) ?_
                    exact ⟨v60, _, v61, _, v62, _, v63, _, v5, _, v6, _, v7, _, v8, _, v9, _, v66, _, v67, _, rfl, rfl, ho60, ho61, ho62, ho63, ho5, ho6, ho7, ho64, ho65, ho66, ho67⟩
                · have hm := cd_f h14 hm
                  refine c_seq ?_
                  refine c_region ?_
                  refine o_T (y_eql rfl rfl) rfl ?_
                  refine o_L (y_assign rfl) rfl rfl ?_
                  refine o_nil0 rfl ?_
                  refine c_cond rfl (fun h16 => ?_) (fun h16 => ?_)
                  · have hm := cd_t h16 hm
                    refine c_seq ?_
                    refine c_region ?_
                    refine o_T (y_move rfl) rfl ?_
                    refine o_T (y_fa fl_44_1 rfl) rfl ?_
                    refine o_ld one_3 rfl m0 (At.got (At.refl.comp Op_.a_a)) rfl ?_
                    obtain ⟨c19, z42, z43, z44, z45, z46, z47, hx17, hm⟩ := bd7 hm
                    refine o_callC en_63 rfl (s_skip (s_skip (s_get (ks (ks (ks (ks (ks (ks (ks (ks (ks (ks (ks k0))))))))))) (s_get (ks (ks (ks (ks (ks (ks (ks (ks (ks k0))))))))) (s_get (ks (ks (ks (ks (ks (ks (ks (ks (ks (ks k0)))))))))) (s_get (ks (ks (ks (ks (ks (ks (ks (ks (ks k0))))))))) (s_take (s_take (s_take (s_take (s_take (s_skip (s_skip (s_skip (s_skip (s_take s_nil)))))))))))))))) (t63 ho1 ho2 ho3 ho4 hx17) rfl (fun u17 S17 hR17 => ?_)
                    obtain ⟨v68, g68, v69, g69, v70, g70, v71, g71, rfl, rfl, ho68, ho69, ho70, ho71⟩ := hR17
                    refine o_rest ?_
                    refine o_L (y_assign rfl) rfl rfl ?_
                    refine o_nil0 rfl ?_
                    refine c_seq ?_
                    refine c_region ?_
                    refine o_T (y_move rfl) rfl ?_
                    refine o_T (y_fa fl_44_1 rfl) rfl ?_
                    refine o_ld one_3 rfl (ms (ms (ms (ms (ms (ms (ms (ms (ms (ms m0)))))))))) (At.got (At.refl.comp Op_.a_a)) rfl ?_
                    obtain ⟨c20, z48, hx18, hm⟩ := bd2 hm
                    refine o_callC en_64 rfl (s_skip (s_skip (s_skip (s_skip (s_skip (s_skip (s_skip (s_skip (s_skip (s_skip (s_skip (s_skip (s_skip (s_skip (s_skip (s_skip (s_take (s_take (s_take (s_take (s_take s_nil))))))))))))))))))))) (t64 ho8 ho9 ho10 ho11 hx18) rfl (fun u18 S18 hR18 => ?_)
                    obtain ⟨v74, g74, v75, g75, rfl, rfl, ho72, ho73, ho74, ho75⟩ := hR18
                    refine o_rest ?_
                    refine o_L (y_assign rfl) rfl rfl ?_
                    refine o_nil0 rfl ?_
                    refine c_seq ?_
                    refine c_joinP (n := 0) (fun sh G => sh = [(8, .bool ((decide (c19 = c20)) || (decide (c19 = 5)))), (9, .bool (decide (c19 = 5)))] ∧ G = []) Sel.all' .z (fun _ _ h => h) ?_ ?_
                    · skip
                      refine c_region ?_
                      refine o_T (y_move rfl) rfl ?_
                      refine o_T (y_move rfl) rfl ?_
                      refine o_T (y_eql rfl rfl) rfl ?_
                      refine o_T (y_move rfl) rfl ?_
                      refine o_split 214 rfl (fun h17 => ?_) (fun h17 => ?_)
                      · skip
                        refine o_pass rfl rfl rfl rfl rfl ?_
                        refine o_pass rfl rfl rfl rfl rfl ?_
                        refine o_T (y_pickT rfl rfl) rfl ?_
                        refine o_T (y_move rfl) rfl ?_
                        refine o_T (y_eql rfl rfl) rfl ?_
                        refine o_L (y_assign rfl) rfl rfl ?_
                        refine o_L (y_assign rfl) rfl rfl ?_
                        refine o_nil0 rfl ?_
                        refine ⟨_, _, ⟨rfl, rfl⟩, ⟨by first | rfl | exact gtb rfl (by simp only [h17, Bool.true_and, Bool.false_and, Bool.true_or, Bool.false_or, Bool.and_true, Bool.and_false, Bool.or_true, Bool.or_false, Bool.not_true, Bool.not_false]), by first | rfl | exact gtb rfl (by simp only [h17, Bool.true_and, Bool.false_and, Bool.true_or, Bool.false_or, Bool.and_true, Bool.and_false, Bool.or_true, Bool.or_false, Bool.not_true, Bool.not_false]), trivial⟩, ⟨rfl, rfl⟩, _, (s_take (s_take (s_take (s_take (s_take (s_take (s_take (s_take (s_take (s_take (s_take (s_take (s_take (s_take (s_take (s_take (s_take (s_take (s_take (s_take (s_take (s_take s_nil))))))))))))))))))))))⟩
                      · skip
                        refine o_take rfl rfl rfl ?_
                        refine o_T (y_move rfl) rfl ?_
                        refine o_take rfl rfl rfl ?_
                        refine o_T (y_eql rfl rfl) rfl ?_
                        refine o_T (y_pickF rfl rfl) rfl ?_
                        refine o_T (y_move rfl) rfl ?_
                        refine o_T (y_eql rfl rfl) rfl ?_
                        refine o_L (y_assign rfl) rfl rfl ?_
                        refine o_L (y_assign rfl) rfl rfl ?_
                        refine o_nil0 rfl ?_
                        refine ⟨_, _, ⟨rfl, rfl⟩, ⟨by first | rfl | exact gtb rfl (by simp only [h17, Bool.true_and, Bool.false_and, Bool.true_or, Bool.false_or, Bool.and_true, Bool.and_false, Bool.or_true, Bool.or_false, Bool.not_true, Bool.not_false]), by first | rfl | exact gtb rfl (by simp only [h17, Bool.true_and, Bool.false_and, Bool.true_or, Bool.false_or, Bool.and_true, Bool.and_false, Bool.or_true, Bool.or_false, Bool.not_true, Bool.not_false]), trivial⟩, ⟨rfl, rfl⟩, _, (s_take (s_take (s_take (s_take (s_take (s_take (s_take (s_take (s_take (s_take (s_take (s_take (s_take (s_take (s_take (s_take (s_take (s_take (s_take (s_take (s_take (s_take s_nil))))))))))))))))))))))⟩
                    · rintro sh G ⟨rfl, rfl⟩
                      refine c_ret ?_
                      obtain ⟨rfl, rfl, rfl, rfl, rfl, rfl, rfl, rfl, rfl, rfl⟩ := pr10 hm
                      refine fun aX wX heX hsX => ret2 Tryz.results18 heX rfl rfl (s_get (ks (ks (ks (ks (ks (ks (ks (ks (ks k0))))))))) (s_get (ks (ks (ks (ks (ks (ks (ks (ks (ks k0))))))))) (s_get (ks (ks (ks (ks (ks (ks (ks (ks (ks k0))))))))) (s_get (ks (ks (ks (ks (ks (ks (ks (ks (ks k0))))))))) (s_get (ks (ks (ks (ks (ks (ks (ks (ks (ks k0))))))))) (s_get (ks (ks (ks (ks (ks (ks (ks (ks (ks (ks (ks (ks k0)))))))))))) (s_get (ks (ks (ks (ks (ks (ks (ks (ks (ks (ks (ks (ks k0)))))))))))) (s_get (ks (ks (ks (ks (ks (ks (ks (ks (ks (ks (ks (ks k0)))))))))))) (s_get (ks (ks (ks (ks (ks (ks (ks (ks (ks (ks (ks (ks k0)))))))))))) (s_get (ks (ks (ks (ks (ks (ks k0)))))) (s_get (ks (ks (ks (ks (ks (ks (ks k0))))))) (s_get (ks (ks (ks (ks (ks k0))))) (s_get (ks (ks (ks (ks (ks k0))))) (s_get (ks (ks (ks (ks (ks k0))))) (s_take (s_take (s_take (s_take (s_take (s_skip (s_skip (s_take s_nil)))))))))))))))))))))) ?_
                      exact ⟨v68, _, v69, _, v70, _, v71, _, v5, _, v6, _, v7, _, v8, _, v9, _, v74, _, v75, _, rfl, rfl, ho68, ho69, ho70, ho71, ho5, ho6, ho7, ho72, ho73, ho74, ho75⟩
                  · have hm := cd_f h16 hm
                    refine c_seq ?_
                    refine c_region ?_
                    refine o_T (y_eql rfl rfl) rfl ?_
                    refine o_L (y_assign rfl) rfl rfl ?_
                    refine o_nil0 rfl ?_
                    refine c_cond rfl (fun h18 => ?_) (fun h18 => ?_)
                    · have hm := cd_t h18 hm
                      refine c_seq ?_
                      refine c_region ?_
                      refine o_T (y_move rfl) rfl ?_
                      refine o_T (y_fa fl_44_4 rfl) rfl ?_
                      refine o_ld one_9 rfl m0 (At.got (At.refl.comp Op_.a_s)) rfl ?_
                      obtain ⟨c21, c22, z49, z50, z51, z52, z53, z54, z55, hx19, hm⟩ := bd9 hm
                      refine o_callC en_65 rfl (s_skip (s_skip (s_get (ks (ks (ks (ks (ks (ks (ks (ks (ks (ks (ks k0))))))))))) (s_get (ks (ks (ks (ks (ks k0))))) (s_get (ks (ks (ks (ks (ks k0))))) (s_get (ks (ks (ks (ks (ks k0))))) (s_get (ks (ks (ks (ks (ks k0))))) (s_get (ks (ks (ks (ks (ks k0))))) (s_get (ks (ks (ks (ks (ks (ks k0)))))) (s_get (ks (ks (ks (ks (ks k0))))) (s_take (s_take (s_take (s_take (s_take (s_take s_nil)))))))))))))))) (t65 ho5 ho6 ho7 ho1 ho2 ho3 ho4 hx19) rfl (fun u19 S19 hR19 => ?_)
                      obtain ⟨v76, g76, v77, g77, v78, g78, v79, g79, v80, g80, v81, g81, v82, g82, rfl, rfl, ho76, ho77, ho78, ho79, ho80, ho81, ho82⟩ := hR19
                      refine o_rest ?_
                      refine o_T (y_move rfl) rfl ?_
                      refine o_T (y_extract rfl rfl) rfl ?_
                      refine o_T (y_extract rfl rfl) rfl ?_
                      refine o_L (y_assign rfl) rfl rfl ?_
                      refine o_L (y_assign rfl) rfl rfl ?_
                      refine o_nil0 rfl ?_
                      refine c_seq ?_
                      refine c_region ?_
                      refine o_T (y_move rfl) rfl ?_
                      refine o_T (y_fa fl_44_4 rfl) rfl ?_
                      refine o_ld one_9 rfl (ms (ms (ms (ms (ms (ms (ms (ms (ms (ms (ms (ms (ms (ms m0)))))))))))))) (At.got (At.refl.comp Op_.a_s)) rfl ?_
                      obtain ⟨c23, c24, z56, hx20, hm⟩ := bd3 hm
                      refine o_callC en_66 rfl (s_skip (s_skip (s_skip (s_skip (s_skip (s_skip (s_skip (s_skip (s_skip (s_skip (s_skip (s_skip (s_skip (s_skip (s_skip (s_skip (s_take (s_take (s_take (s_take (s_take s_nil))))))))))))))))))))) (t66 ho8 ho9 ho10 ho11 hx20) rfl (fun u20 S20 hR20 => ?_)
                      obtain ⟨v83, g83, v84, g84, v85, g85, v86, g86, rfl, rfl, ho83, ho84, ho85, ho86⟩ := hR20
                      refine o_rest ?_
                      refine o_T (y_move rfl) rfl ?_
                      refine o_T (y_extract rfl rfl) rfl ?_
                      refine o_T (y_extract rfl rfl) rfl ?_
                      refine o_L (y_assign rfl) rfl rfl ?_
                      refine o_L (y_assign rfl) rfl rfl ?_
                      refine o_nil0 rfl ?_
                      refine c_seq ?_
                      refine c_seq ?_
                      refine c_region ?_
                      refine o_T (y_move rfl) rfl ?_
                      refine o_T (y_eql rfl rfl) rfl ?_
                      refine o_nil1 237 rfl rfl ?_
                      refine c_cond rfl (fun h19 => ?_) (fun h19 => ?_)
                      · have hm := cd_t h19 hm
                        refine c_seq ?_
                        refine c_region ?_
                        refine o_T (y_move rfl) rfl ?_
                        refine o_T (y_eql rfl rfl) rfl ?_
                        refine o_L (y_assign rfl) rfl rfl ?_
                        refine o_L (y_assign rfl) rfl rfl ?_
                        refine o_nil0 rfl ?_
                        refine c_ret ?_
                        obtain ⟨rfl, rfl, rfl, rfl, rfl, rfl, rfl, rfl, rfl, rfl⟩ := pr10 hm
                        refine fun aX wX heX hsX => ret2 Tryz.results18 heX rfl rfl (s_get (ks (ks (ks (ks (ks (ks (ks (ks (ks (ks (ks (ks (ks k0))))))))))))) (s_get (ks (ks (ks (ks (ks (ks (ks (ks (ks (ks (ks (ks (ks k0))))))))))))) (s_get (ks (ks (ks (ks (ks (ks (ks (ks (ks (ks (ks (ks (ks k0))))))))))))) (s_get (ks (ks (ks (ks (ks (ks (ks (ks (ks (ks (ks (ks (ks k0))))))))))))) (s_get (ks (ks (ks (ks (ks (ks (ks (ks (ks (ks (ks (ks (ks k0))))))))))))) (s_get (ks (ks (ks (ks (ks (ks k0)))))) (s_get (ks (ks (ks (ks (ks (ks k0)))))) (s_get (ks (ks (ks (ks (ks (ks k0)))))) (s_get (ks (ks (ks (ks (ks (ks k0)))))) (s_get (ks (ks (ks (ks (ks (ks k0)))))) (s_get (ks (ks (ks (ks (ks (ks (ks k0))))))) (s_get (ks (ks (ks (ks (ks k0))))) (s_get (ks (ks (ks (ks (ks k0))))) (s_get (ks (ks (ks (ks (ks k0))))) (s_take (s_take (s_take (s_take (s_take (s_skip (s_skip (s_take s_nil)))))))))))))))))))))) ?_
                        exact ⟨v79, _, v80, _, v81, _, v82, _, v76, _, v77, _, v78, _, v83, _, v84, _, v85, _, v86, _, rfl, rfl, ho79, ho80, ho81, ho82, ho76, ho77, ho78, ho83, ho84, ho85, ho86⟩
                      · have hm := cd_f h19 hm
                        refine c_skip ?_
                        refine c_seq ?_
                        refine c_joinP (n := 0) (fun sh G => sh = [(8, .bool ((decide (c21 = c23)) && (decide (c22 = c24)))), (9, .bool false)] ∧ G = []) Sel.all' .z (fun _ _ h => h) ?_ ?_
                        · skip
                          refine c_region ?_
                          refine o_T (y_move rfl) rfl ?_
                          refine o_T (y_move rfl) rfl ?_
                          refine o_T (y_eql rfl rfl) rfl ?_
                          refine o_T (y_move rfl) rfl ?_
                          refine o_split 243 rfl (fun h20 => ?_) (fun h20 => ?_)
                          · skip
                            refine o_take rfl rfl rfl ?_
                            refine o_T (y_move rfl) rfl ?_
                            refine o_take rfl rfl rfl ?_
                            refine o_T (y_move rfl) rfl ?_
                            refine o_take rfl rfl rfl ?_
                            refine o_T (y_eql rfl rfl) rfl ?_
                            refine o_T (y_pickT rfl rfl) rfl ?_
                            refine o_L (y_assign rfl) rfl rfl ?_
                            refine o_L (y_assign rfl) rfl rfl ?_
                            refine o_nil0 rfl ?_
                            refine ⟨_, _, ⟨rfl, rfl⟩, ⟨by first | rfl | exact gtb rfl (by simp only [h20, Bool.true_and, Bool.false_and, Bool.true_or, Bool.false_or, Bool.and_true, Bool.and_false, Bool.or_true, Bool.or_false, Bool.not_true, Bool.not_false]), by first | rfl | exact gtb rfl (by simp only [h20, Bool.true_and, Bool.false_and, Bool.true_or, Bool.false_or, Bool.and_true, Bool.and_false, Bool.or_true, Bool.or_false, Bool.not_true, Bool.not_false]), trivial⟩, ⟨rfl, rfl⟩, _, (s_take (s_take (s_take (s_take (s_take (s_take (s_take (s_take (s_take (s_take (s_take (s_take (s_take (s_take (s_take (s_take (s_take (s_take (s_take (s_take (s_take (s_take s_nil))))))))))))))))))))))⟩
                          · skip
                            refine o_pass rfl rfl rfl rfl rfl ?_
                            refine o_pass rfl rfl rfl rfl rfl ?_
                            refine o_pass rfl rfl rfl rfl rfl ?_
                            refine o_T (y_pickF rfl rfl) rfl ?_
                            refine o_L (y_assign rfl) rfl rfl ?_
                            refine o_L (y_assign rfl) rfl rfl ?_
                            refine o_nil0 rfl ?_
                            refine ⟨_, _, ⟨rfl, rfl⟩, ⟨by first | rfl | exact gtb rfl (by simp only [h20, Bool.true_and, Bool.false_and, Bool.true_or, Bool.false_or, Bool.and_true, Bool.and_false, Bool.or_true, Bool.or_false, Bool.not_true, Bool.not_false]), by first | rfl | exact gtb rfl (by simp only [h20, Bool.true_and, Bool.false_and, Bool.true_or, Bool.false_or, Bool.and_true, Bool.and_false, Bool.or_true, Bool.or_false, Bool.not_true, Bool.not_false]), trivial⟩, ⟨rfl, rfl⟩, _, (s_take (s_take (s_take (s_take (s_take (s_take (s_take (s_take (s_take (s_take (s_take (s_take (s_take (s_take (s_take (s_take (s_take (s_take (s_take (s_take (s_take (s_take s_nil))))))))))))))))))))))⟩
                        · rintro sh G ⟨rfl, rfl⟩
                          refine c_ret ?_
                          obtain ⟨rfl, rfl, rfl, rfl, rfl, rfl, rfl, rfl, rfl, rfl⟩ := pr10 hm
                          refine fun aX wX heX hsX => ret2 Tryz.results18 heX rfl rfl (s_get (ks (ks (ks (ks (ks (ks (ks (ks (ks (ks (ks (ks (ks k0))))))))))))) (s_get (ks (ks (ks (ks (ks (ks (ks (ks (ks (ks (ks (ks (ks k0))))))))))))) (s_get (ks (ks (ks (ks (ks (ks (ks (ks (ks (ks (ks (ks (ks k0))))))))))))) (s_get (ks (ks (ks (ks (ks (ks (ks (ks (ks (ks (ks (ks (ks k0))))))))))))) (s_get (ks (ks (ks (ks (ks (ks (ks (ks (ks (ks (ks (ks (ks k0))))))))))))) (s_get (ks (ks (ks (ks (ks (ks k0)))))) (s_get (ks (ks (ks (ks (ks (ks k0)))))) (s_get (ks (ks (ks (ks (ks (ks k0)))))) (s_get (ks (ks (ks (ks (ks (ks k0)))))) (s_get (ks (ks (ks (ks (ks (ks k0)))))) (s_get (ks (ks (ks (ks (ks (ks (ks k0))))))) (s_get (ks (ks (ks (ks (ks k0))))) (s_get (ks (ks (ks (ks (ks k0))))) (s_get (ks (ks (ks (ks (ks k0))))) (s_take (s_take (s_take (s_take (s_take (s_skip (s_skip (s_take s_nil)))))))))))))))))))))) ?_
                          exact ⟨v79, _, v80, _, v81, _, v82, _, v76, _, v77, _, v78, _, v83, _, v84, _, v85, _, v86, _, rfl, rfl, ho79, ho80, ho81, ho82, ho76, ho77, ho78, ho83, ho84, ho85, ho86⟩
                    · have hm := cd_f h18 hm
                      refine c_seq ?_
                      refine c_region ?_
                      refine o_T (y_eql rfl rfl) rfl ?_
                      refine o_L (y_assign rfl) rfl rfl ?_
                      refine o_nil0 rfl ?_
                      refine c_cond rfl (fun h21 => ?_) (fun h21 => ?_)
                      · have hm := cd_t h21 hm
                        refine c_seq ?_
                        refine c_region ?_
                        refine o_T (y_move rfl) rfl ?_
                        obtain ⟨c25, c26, z57, z58, z59, z60, z61, hx21, hm⟩ := bd7 hm
                        refine o_callC en_67 rfl (s_skip (s_skip (s_get (ks (ks (ks (ks (ks (ks (ks (ks (ks (ks (ks k0))))))))))) (s_get (ks (ks (ks (ks (ks (ks (ks (ks (ks k0))))))))) (s_get (ks (ks (ks (ks (ks (ks (ks (ks (ks (ks k0)))))))))) (s_get (ks (ks (ks (ks (ks (ks (ks (ks (ks k0))))))))) (s_take (s_take (s_take (s_take (s_take (s_skip (s_skip (s_skip (s_skip (s_take s_nil)))))))))))))))) (t67 ho1 ho2 ho3 ho4 hx21) rfl (fun u21 S21 hR21 => ?_)
                        obtain ⟨v87, g87, v88, g88, v89, g89, v90, g90, rfl, rfl, ho87, ho88, ho89, ho90⟩ := hR21
                        refine o_rest ?_
                        refine o_T (y_move rfl) rfl ?_
                        refine o_T (y_extract rfl rfl) rfl ?_
                        refine o_T (y_extract rfl rfl) rfl ?_
                        refine o_L (y_assign rfl) rfl rfl ?_
                        refine o_L (y_assign rfl) rfl rfl ?_
                        refine o_nil0 rfl ?_
                        refine c_seq ?_
                        refine c_region ?_
                        refine o_T (y_move rfl) rfl ?_
                        obtain ⟨c27, c28, z62, hx22, hm⟩ := bd3 hm
                        refine o_callC en_68 rfl (s_skip (s_skip (s_skip (s_skip (s_skip (s_skip (s_skip (s_skip (s_skip (s_skip (s_skip (s_skip (s_skip (s_skip (s_skip (s_skip (s_take (s_take (s_take (s_take (s_take s_nil))))))))))))))))))))) (t68 ho8 ho9 ho10 ho11 hx22) rfl (fun u22 S22 hR22 => ?_)
                        obtain ⟨v91, g91, rfl, rfl, ho91, ho92, ho93, ho94⟩ := hR22
                        refine o_rest ?_
                        refine o_T (y_move rfl) rfl ?_
                        refine o_T (y_extract rfl rfl) rfl ?_
                        refine o_T (y_extract rfl rfl) rfl ?_
                        refine o_L (y_assign rfl) rfl rfl ?_
                        refine o_L (y_assign rfl) rfl rfl ?_
                        refine o_nil0 rfl ?_
                        refine c_seq ?_
                        refine c_seq ?_
                        refine c_region ?_
                        refine o_T (y_move rfl) rfl ?_
                        refine o_T (y_eql rfl rfl) rfl ?_
                        refine o_nil1 261 rfl rfl ?_
                        refine c_cond rfl (fun h22 => ?_) (fun h22 => ?_)
                        · have hm := cd_t h22 hm
                          refine c_seq ?_
                          refine c_region ?_
                          refine o_T (y_move rfl) rfl ?_
                          refine o_T (y_eql rfl rfl) rfl ?_
                          refine o_L (y_assign rfl) rfl rfl ?_
                          refine o_L (y_assign rfl) rfl rfl ?_
                          refine o_nil0 rfl ?_
                          refine c_ret ?_
                          obtain ⟨rfl, rfl, rfl, rfl, rfl, rfl, rfl, rfl, rfl, rfl⟩ := pr10 hm
                          refine fun aX wX heX hsX => ret2 Tryz.results18 heX rfl rfl (s_get (ks (ks (ks (ks (ks (ks (ks (ks (ks k0))))))))) (s_get (ks (ks (ks (ks (ks (ks (ks (ks (ks k0))))))))) (s_get (ks (ks (ks (ks (ks (ks (ks (ks (ks k0))))))))) (s_get (ks (ks (ks (ks (ks (ks (ks (ks (ks k0))))))))) (s_get (ks (ks (ks (ks (ks (ks (ks (ks (ks k0))))))))) (s_get (ks (ks (ks (ks (ks (ks (ks (ks (ks (ks (ks (ks k0)))))))))))) (s_get (ks (ks (ks (ks (ks (ks (ks (ks (ks (ks (ks (ks k0)))))))))))) (s_get (ks (ks (ks (ks (ks (ks (ks (ks (ks (ks (ks (ks k0)))))))))))) (s_get (ks (ks (ks (ks (ks (ks (ks (ks (ks (ks (ks (ks k0)))))))))))) (s_get (ks (ks (ks (ks (ks (ks k0)))))) (s_get (ks (ks (ks (ks (ks (ks (ks k0))))))) (s_get (ks (ks (ks (ks (ks k0))))) (s_get (ks (ks (ks (ks (ks k0))))) (s_get (ks (ks (ks (ks (ks k0))))) (s_take (s_take (s_take (s_take (s_take (s_skip (s_skip (s_take s_nil)))))))))))))))))))))) ?_
                          exact ⟨v87, _, v88, _, v89, _, v90, _, v5, _, v6, _, v7, _, v91, _, v9, _, v10, _, v11, _, rfl, rfl, ho87, ho88, ho89, ho90, ho5, ho6, ho7, ho91, ho92, ho93, ho94⟩
                        · have hm := cd_f h22 hm
                          refine c_skip ?_
                          refine c_seq ?_
                          refine c_joinP (n := 0) (fun sh G => sh = [(8, .bool ((decide (c25 = c27)) && (decide (c26 = c28)))), (9, .bool false)] ∧ G = []) Sel.all' .z (fun _ _ h => h) ?_ ?_
                          · skip
                            refine c_region ?_
                            refine o_T (y_move rfl) rfl ?_
                            refine o_T (y_move rfl) rfl ?_
                            refine o_T (y_eql rfl rfl) rfl ?_
                            refine o_T (y_move rfl) rfl ?_
                            refine o_split 267 rfl (fun h23 => ?_) (fun h23 => ?_)
                            · skip
                              refine o_take rfl rfl rfl ?_
                              refine o_T (y_move rfl) rfl ?_
                              refine o_take rfl rfl rfl ?_
                              refine o_T (y_move rfl) rfl ?_
                              refine o_take rfl rfl rfl ?_
                              refine o_T (y_eql rfl rfl) rfl ?_
                              refine o_T (y_pickT rfl rfl) rfl ?_
                              refine o_L (y_assign rfl) rfl rfl ?_
                              refine o_L (y_assign rfl) rfl rfl ?_
                              refine o_nil0 rfl ?_
                              refine ⟨_, _, ⟨rfl, rfl⟩, ⟨by first | rfl | exact gtb rfl (by simp only [h23, Bool.true_and, Bool.false_and, Bool.true_or, Bool.false_or, Bool.and_true, Bool.and_false, Bool.or_true, Bool.or_false, Bool.not_true, Bool.not_false]), by first | rfl | exact gtb rfl (by simp only [h23, Bool.true_and, Bool.false_and, Bool.true_or, Bool.false_or, Bool.and_true, Bool.and_false, Bool.or_true, Bool.or_false, Bool.not_true, Bool.not_false]), trivial⟩, ⟨rfl, rfl⟩, _, (s_take (s_take (s_take (s_take (s_take (s_take (s_take (s_take (s_take (s_take (s_take (s_take (s_take (s_take (s_take (s_take (s_take (s_take (s_take (s_take (s_take (s_take s_nil))))))))))))))))))))))⟩
                            · skip
                              refine o_pass rfl rfl rfl rfl rfl ?_
                              refine o_pass rfl rfl rfl rfl rfl ?_
                              refine o_pass rfl rfl rfl rfl rfl ?_
                              refine o_T (y_pickF rfl rfl) rfl ?_
                              refine o_L (y_assign rfl) rfl rfl ?_
                              refine o_L (y_assign rfl) rfl rfl ?_
                              refine o_nil0 rfl ?_
                              refine ⟨_, _, ⟨rfl, rfl⟩, ⟨by first | rfl | exact gtb rfl (by simp only [h23, Bool.true_and, Bool.false_and, Bool.true_or, Bool.false_or, Bool.and_true, Bool.and_false, Bool.or_true, Bool.or_false, Bool.not_true, Bool.not_false]), by first | rfl | exact gtb rfl (by simp only [h23, Bool.true_and, Bool.false_and, Bool.true_or, Bool.false_or, Bool.and_true, Bool.and_false, Bool.or_true, Bool.or_false, Bool.not_true, Bool.not_false]), trivial⟩, ⟨rfl, rfl⟩, _, (s_take (s_take (s_take (s_take (s_take (s_take (s_take (s_take (s_take (s_take (s_take (s_take (s_take (s_take (s_take (s_take (s_take (s_take (s_take (s_take (s_take (s_take s_nil))))))))))))))))))))))⟩
                          · rintro sh G ⟨rfl, rfl⟩
                            refine c_ret ?_
                            obtain ⟨rfl, rfl, rfl, rfl, rfl, rfl, rfl, rfl, rfl, rfl⟩ := pr10 hm
                            refine fun aX wX heX hsX => ret2 Tryz.results18 heX rfl rfl (s_get (ks (ks (ks (ks (ks (ks (ks (ks (ks k0))))))))) (s_get (ks (ks (ks (ks (ks (ks (ks (ks (ks k0))))))))) (s_get (ks (ks (ks (ks (ks (ks (ks (ks (ks k0))))))))) (s_get (ks (ks (ks (ks (ks (ks (ks (ks (ks k0))))))))) (s_get (ks (ks (ks (ks (ks (ks (ks (ks (ks k0))))))))) (s_get (ks (ks (ks (ks (ks (ks (ks (ks (ks (ks (ks (ks k0)))))))))))) (s_get (ks (ks (ks (ks (ks (ks (ks (ks (ks (ks (ks (ks k0)))))))))))) (s_get (ks (ks (ks (ks (ks (ks (ks (ks (ks (ks (ks (ks k0)))))))))))) (s_get (ks (ks (ks (ks (ks (ks (ks (ks (ks (ks (ks (ks k0)))))))))))) (s_get (ks (ks (ks (ks (ks (ks k0)))))) (s_get (ks (ks (ks (ks (ks (ks (ks k0))))))) (s_get (ks (ks (ks (ks (ks k0))))) (s_get (ks (ks (ks (ks (ks k0))))) (s_get (ks (ks (ks (ks (ks k0))))) (s_take (s_take (s_take (s_take (s_take (s_skip (s_skip (s_take s_nil)))))))))))))))))))))) ?_
                            exact ⟨v87, _, v88, _, v89, _, v90, _, v5, _, v6, _, v7, _, v91, _, v9, _, v10, _, v11, _, rfl, rfl, ho87, ho88, ho89, ho90, ho5, ho6, ho7, ho91, ho92, ho93, ho94⟩
                      · have hm := cd_f h21 hm
                        refine c_seq ?_
                        refine c_region ?_
                        refine o_T (y_eql rfl rfl) rfl ?_
                        refine o_L (y_assign rfl) rfl rfl ?_
                        refine o_nil0 rfl ?_
                        refine c_cond rfl (fun h24 => ?_) (fun h24 => ?_)
                        · have hm := cd_t h24 hm
                          refine c_seq ?_
                          refine c_region ?_
                          refine o_T (y_move rfl) rfl ?_
                          refine o_T (y_move rfl) rfl ?_
                          refine o_T (y_fa fl_44_4 rfl) rfl ?_
                          refine o_ld one_9 rfl m0 (At.got (At.refl.comp Op_.a_s)) rfl ?_
                          refine o_T (y_move rfl) rfl ?_
                          obtain ⟨c29, z63, hx23, hm⟩ := bd2 hm
                          refine o_callC en_41 rfl (s_skip (s_skip (s_skip (s_skip (s_skip (s_skip (s_skip (s_get (ks (ks (ks (ks (ks (ks k0)))))) (s_take (s_take (s_take (s_take (s_skip (s_skip (s_skip (s_take (s_take (s_take (s_take (s_take (s_take s_nil))))))))))))))))))))) (t41 ho5 ho6 ho7 ho8 ho9 ho10 ho11 hx23) rfl (fun u23 S23 hR23 => ?_)
                          obtain ⟨v95, g95, v96, g96, v97, g97, rfl, rfl, ho95, ho96, ho97⟩ := hR23
                          refine o_rest ?_
                          refine o_L (y_assign rfl) rfl rfl ?_
                          refine o_L (y_assign rfl) rfl rfl ?_
                          refine o_nil0 rfl ?_
                          refine c_ret ?_
                          obtain ⟨rfl, rfl, rfl, rfl, rfl, rfl, rfl, rfl, rfl, rfl⟩ := pr10 hm
                          refine fun aX wX heX hsX => ret2 Tryz.results18 heX rfl rfl (s_get (ks (ks (ks (ks (ks (ks (ks (ks (ks (ks (ks (ks (ks k0))))))))))))) (s_get (ks (ks (ks (ks (ks (ks (ks (ks (ks (ks (ks (ks (ks k0))))))))))))) (s_get (ks (ks (ks (ks (ks (ks (ks (ks (ks (ks (ks (ks (ks k0))))))))))))) (s_get (ks (ks (ks (ks (ks (ks (ks (ks (ks (ks (ks (ks (ks k0))))))))))))) (s_get (ks (ks (ks (ks (ks (ks (ks (ks (ks (ks (ks (ks (ks k0))))))))))))) (s_get (ks k0) (s_get (ks k0) (s_get (ks k0) (s_get (ks k0) (s_get (ks (ks (ks (ks (ks (ks (ks (ks (ks k0))))))))) (s_get (ks (ks (ks (ks (ks (ks (ks (ks (ks k0))))))))) (s_take (s_get (ks (ks (ks (ks (ks (ks (ks (ks k0)))))))) (s_take (s_take (s_take (s_take (s_take (s_take (s_skip (s_skip (s_take s_nil)))))))))))))))))))))) ?_
                          exact ⟨v1, _, v2, _, v3, _, v4, _, v95, _, v96, _, v97, _, v8, _, v9, _, v10, _, v11, _, rfl, rfl, ho1, ho2, ho3, ho4, ho95, ho96, ho97, ho8, ho9, ho10, ho11⟩
                        · have hm := cd_f h24 hm
                          refine c_seq ?_
                          refine c_region ?_
                          refine o_T (y_eql rfl rfl) rfl ?_
                          refine o_L (y_assign rfl) rfl rfl ?_
                          refine o_nil0 rfl ?_
                          refine c_cond rfl (fun h25 => ?_) (fun h25 => ?_)
                          · have hm := cd_t h25 hm
                            refine c_seq ?_
                            refine c_region ?_
                            refine o_T (y_move rfl) rfl ?_
                            refine o_T (y_move rfl) rfl ?_
                            refine o_T (y_fa fl_44_1 rfl) rfl ?_
                            refine o_ld one_3 rfl m0 (At.got (At.refl.comp Op_.a_a)) rfl ?_
                            refine o_T (y_move rfl) rfl ?_
                            obtain ⟨c30, hx24, hm⟩ := bd1 hm
                            refine o_callC en_38 rfl (s_skip (s_skip (s_get (ks (ks (ks (ks (ks (ks (ks (ks (ks (ks (ks k0))))))))))) (s_get (ks (ks (ks (ks (ks (ks (ks (ks (ks k0))))))))) (s_get (ks (ks (ks (ks (ks (ks (ks (ks (ks (ks k0)))))))))) (s_get (ks (ks (ks (ks (ks (ks (ks (ks (ks k0))))))))) (s_take (s_take (s_take (s_take (s_take (s_skip (s_skip (s_skip (s_skip (s_skip (s_take (s_take (s_take (s_take (s_take s_nil))))))))))))))))))))) (t38 ho1 ho2 ho3 ho4 ho8 ho9 ho10 ho11 hx24) rfl (fun u24 S24 hR24 => ?_)
                            obtain ⟨rfl, rfl⟩ := hR24
                            refine o_rest ?_
                            refine o_L (y_assign rfl) rfl rfl ?_
                            refine o_L (y_assign rfl) rfl rfl ?_
                            refine o_nil0 rfl ?_
                            refine c_ret ?_
                            obtain ⟨rfl, rfl, rfl, rfl, rfl, rfl, rfl, rfl, rfl, rfl⟩ := pr10 hm
                            refine fun aX wX heX hsX => ret2 Tryz.results18 heX rfl rfl (s_get (ks (ks (ks (ks k0)))) (s_get (ks (ks (ks (ks k0)))) (s_get (ks (ks (ks (ks k0)))) (s_get (ks (ks (ks (ks k0)))) (s_get (ks (ks (ks (ks k0)))) (s_get (ks (ks (ks (ks (ks (ks (ks (ks (ks (ks (ks k0))))))))))) (s_get (ks (ks (ks (ks (ks (ks (ks (ks (ks (ks (ks k0))))))))))) (s_get (ks (ks (ks (ks (ks (ks (ks (ks (ks (ks (ks k0))))))))))) (s_get (ks (ks (ks (ks (ks (ks (ks (ks (ks (ks (ks k0))))))))))) (s_get (ks k0) (s_get (ks (ks k0)) (s_take (s_take (s_get (ks (ks (ks (ks (ks (ks (ks k0))))))) (s_take (s_take (s_take (s_take (s_take (s_skip (s_skip (s_take s_nil)))))))))))))))))))))) ?_
                            exact ⟨v1, _, v2, _, v3, _, v4, _, v5, _, v6, _, v7, _, v8, _, v9, _, v10, _, v11, _, rfl, rfl, ho1, ho2, ho3, ho4, ho5, ho6, ho7, ho8, ho9, ho10, ho11⟩
                          · have hm := cd_f h25 hm
                            refine c_seq ?_
                            refine c_region ?_
                            refine o_T (y_eql rfl rfl) rfl ?_
                            refine o_L (y_assign rfl) rfl rfl ?_
                            refine o_nil0 rfl ?_
                            refine c_cond rfl (fun h26 => ?_) (fun h26 => ?_)
                            · have hm := cd_t h26 hm
                              refine c_seq ?_
                              refine c_region ?_
                              refine o_T (y_move rfl) rfl ?_
                              refine o_T (y_move rfl) rfl ?_
                              refine o_T (y_move rfl) rfl ?_
                              obtain ⟨c31, hx25, hm⟩ := bd1 hm
                              refine o_callC en_29 rfl (s_skip (s_skip (s_skip (s_skip (s_skip (s_skip (s_skip (s_skip (s_skip (s_skip (s_skip (s_get (ks (ks k0)) (s_take (s_skip (s_skip (s_skip (s_take (s_take (s_take (s_take (s_take s_nil))))))))))))))))))))) (t29 ho8 ho9 ho10 ho11 hx25) rfl (fun u25 S25 hR25 => ?_)
                              obtain ⟨rfl, rfl⟩ := hR25
                              refine o_rest ?_
                              refine o_L (y_assign rfl) rfl rfl ?_
                              refine o_L (y_assign rfl) rfl rfl ?_
                              refine o_nil0 rfl ?_
                              refine c_ret ?_
                              obtain ⟨rfl, rfl, rfl, rfl, rfl, rfl, rfl, rfl, rfl, rfl⟩ := pr10 hm
                              refine fun aX wX heX hsX => ret2 Tryz.results18 heX rfl rfl (s_get (ks (ks (ks (ks (ks (ks (ks (ks (ks k0))))))))) (s_get (ks (ks (ks (ks (ks (ks (ks (ks (ks k0))))))))) (s_get (ks (ks (ks (ks (ks (ks (ks (ks (ks k0))))))))) (s_get (ks (ks (ks (ks (ks (ks (ks (ks (ks k0))))))))) (s_get (ks (ks (ks (ks (ks (ks (ks (ks (ks k0))))))))) (s_get (ks (ks (ks (ks (ks (ks (ks (ks (ks k0))))))))) (s_get (ks (ks (ks (ks (ks (ks (ks (ks (ks k0))))))))) (s_get (ks (ks (ks (ks (ks (ks (ks (ks (ks k0))))))))) (s_get (ks (ks (ks (ks (ks (ks (ks (ks (ks k0))))))))) (s_get (ks k0) (s_get (ks (ks (ks (ks (ks (ks (ks (ks k0)))))))) (s_take (s_get (ks (ks (ks (ks (ks (ks (ks k0))))))) (s_get (ks (ks (ks (ks (ks (ks (ks k0))))))) (s_take (s_take (s_take (s_take (s_take (s_skip (s_skip (s_take s_nil)))))))))))))))))))))) ?_
                              exact ⟨v1, _, v2, _, v3, _, v4, _, v5, _, v6, _, v7, _, v8, _, v9, _, v10, _, v11, _, rfl, rfl, ho1, ho2, ho3, ho4, ho5, ho6, ho7, ho8, ho9, ho10, ho11⟩
                            · have hm := cd_f h26 hm
                              refine c_seq ?_
                              refine c_region ?_
                              refine o_T (y_eql rfl rfl) rfl ?_
                              refine o_L (y_assign rfl) rfl rfl ?_
                              refine o_nil0 rfl ?_
                              refine c_cond rfl (fun h27 => ?_) (fun h27 => ?_)
                              · have hm := cd_t h27 hm
                                refine c_seq ?_
                                refine c_region ?_
                                refine o_T (y_move rfl) rfl ?_
                                refine o_T (y_move rfl) rfl ?_
                                refine o_T (y_move rfl) rfl ?_
                                obtain ⟨c32, hx26, hm⟩ := bd1 hm
                                refine o_callC en_30 rfl (s_skip (s_skip (s_get (ks (ks (ks (ks (ks (ks (ks (ks (ks (ks (ks k0))))))))))) (s_get (ks (ks (ks (ks (ks (ks (ks (ks (ks k0))))))))) (s_get (ks (ks (ks (ks (ks (ks (ks (ks (ks (ks k0)))))))))) (s_get (ks (ks (ks (ks (ks (ks (ks (ks (ks k0))))))))) (s_take (s_take (s_take (s_take (s_take (s_skip (s_skip (s_skip (s_skip (s_take (s_take (s_take (s_take (s_take (s_take s_nil))))))))))))))))))))) (t30 ho1 ho2 ho3 ho4 ho8 ho9 ho10 ho11 hx26) rfl (fun u26 S26 hR26 => ?_)
                                obtain ⟨rfl, rfl⟩ := hR26
                                refine o_rest ?_
                                refine o_L (y_assign rfl) rfl rfl ?_
                                refine o_L (y_assign rfl) rfl rfl ?_
                                refine o_nil0 rfl ?_
                                refine c_ret ?_
                                obtain ⟨rfl, rfl, rfl, rfl, rfl, rfl, rfl, rfl, rfl, rfl⟩ := pr10 hm
                                refine fun aX wX heX hsX => ret2 Tryz.results18 heX rfl rfl (s_get (ks (ks (ks (ks k0)))) (s_get (ks (ks (ks (ks k0)))) (s_get (ks (ks (ks (ks k0)))) (s_get (ks (ks (ks (ks k0)))) (s_get (ks (ks (ks (ks k0)))) (s_get (ks (ks (ks (ks (ks (ks (ks (ks (ks (ks (ks (ks k0)))))))))))) (s_get (ks (ks (ks (ks (ks (ks (ks (ks (ks (ks (ks (ks k0)))))))))))) (s_get (ks (ks (ks (ks (ks (ks (ks (ks (ks (ks (ks (ks k0)))))))))))) (s_get (ks (ks (ks (ks (ks (ks (ks (ks (ks (ks (ks (ks k0)))))))))))) (s_get (ks k0) (s_get (ks (ks k0)) (s_take (s_take (s_take (s_take (s_take (s_take (s_take (s_take (s_skip (s_skip (s_take s_nil)))))))))))))))))))))) ?_
                                exact ⟨v1, _, v2, _, v3, _, v4, _, v5, _, v6, _, v7, _, v8, _, v9, _, v10, _, v11, _, rfl, rfl, ho1, ho2, ho3, ho4, ho5, ho6, ho7, ho8, ho9, ho10, ho11⟩
                              · have hm := cd_f h27 hm
                                refine c_seq ?_
                                refine c_region ?_
                                refine o_T (y_eql rfl rfl) rfl ?_
                                refine o_L (y_assign rfl) rfl rfl ?_
                                refine o_nil0 rfl ?_
                                refine c_cond rfl (fun h28 => ?_) (fun h28 => ?_)
                                · have hm := cd_t h28 hm
                                  refine c_seq ?_
                                  refine c_region ?_
                                  refine o_T (y_move rfl) rfl ?_
                                  refine o_T (y_move rfl) rfl ?_
                                  refine o_T (y_move rfl) rfl ?_
                                  obtain ⟨c33, hx27, hm⟩ := bd1 hm
                                  refine o_callC en_31 rfl (s_skip (s_skip (s_skip (s_skip (s_skip (s_skip (s_skip (s_skip (s_skip (s_skip (s_skip (s_get (ks (ks k0)) (s_take (s_skip (s_skip (s_skip (s_take (s_take (s_take (s_take (s_take s_nil))))))))))))))))))))) (t31 ho8 ho9 ho10 ho11 hx27) rfl (fun u27 S27 hR27 => ?_)
                                  obtain ⟨rfl, rfl⟩ := hR27
                                  refine o_rest ?_
                                  refine o_L (y_assign rfl) rfl rfl ?_
                                  refine o_L (y_assign rfl) rfl rfl ?_
                                  refine o_nil0 rfl ?_
                                  refine c_ret ?_
                                  obtain ⟨rfl, rfl, rfl, rfl, rfl, rfl, rfl, rfl, rfl, rfl⟩ := pr10 hm
                                  refine fun aX wX heX hsX => ret2 Tryz.results18 heX rfl rfl (s_get (ks (ks (ks (ks (ks (ks (ks (ks (ks k0))))))))) (s_get (ks (ks (ks (ks (ks (ks (ks (ks (ks k0))))))))) (s_get (ks (ks (ks (ks (ks (ks (ks (ks (ks k0))))))))) (s_get (ks (ks (ks (ks (ks (ks (ks (ks (ks k0))))))))) (s_get (ks (ks (ks (ks (ks (ks (ks (ks (ks k0))))))))) (s_get (ks (ks (ks (ks (ks (ks (ks (ks (ks k0))))))))) (s_get (ks (ks (ks (ks (ks (ks (ks (ks (ks k0))))))))) (s_get (ks (ks (ks (ks (ks (ks (ks (ks (ks k0))))))))) (s_get (ks (ks (ks (ks (ks (ks (ks (ks (ks k0))))))))) (s_get (ks k0) (s_get (ks (ks (ks (ks (ks (ks (ks (ks k0)))))))) (s_take (s_get (ks (ks (ks (ks (ks (ks (ks k0))))))) (s_get (ks (ks (ks (ks (ks (ks (ks k0))))))) (s_take (s_take (s_take (s_take (s_take (s_skip (s_skip (s_take s_nil)))))))))))))))))))))) ?_
                                  exact ⟨v1, _, v2, _, v3, _, v4, _, v5, _, v6, _, v7, _, v8, _, v9, _, v10, _, v11, _, rfl, rfl, ho1, ho2, ho3, ho4, ho5, ho6, ho7, ho8, ho9, ho10, ho11⟩
                                · have hm := cd_f h28 hm
                                  refine c_seq ?_
                                  refine c_region ?_
                                  refine o_T (y_eql rfl rfl) rfl ?_
                                  refine o_L (y_assign rfl) rfl rfl ?_
                                  refine o_nil0 rfl ?_
                                  refine c_cond rfl (fun h29 => ?_) (fun h29 => ?_)
                                  · have hm := cd_t h29 hm
                                    refine c_seq ?_
                                    refine c_region ?_
                                    refine o_T (y_move rfl) rfl ?_
                                    refine o_T (y_move rfl) rfl ?_
                                    obtain ⟨c34, hx28, hm⟩ := bd1 hm
                                    refine o_callC en_32 rfl (s_skip (s_skip (s_skip (s_skip (s_skip (s_skip (s_skip (s_skip (s_skip (s_skip (s_skip (s_get (ks (ks k0)) (s_take (s_skip (s_skip (s_skip (s_take (s_take (s_take (s_take (s_take s_nil))))))))))))))))))))) (t32 ho8 ho9 ho10 ho11 hx28) rfl (fun u28 S28 hR28 => ?_)
                                    obtain ⟨rfl, rfl⟩ := hR28
                                    refine o_rest ?_
                                    refine o_L (y_assign rfl) rfl rfl ?_
                                    refine o_L (y_assign rfl) rfl rfl ?_
                                    refine o_nil0 rfl ?_
                                    refine c_ret ?_
                                    obtain ⟨rfl, rfl, rfl, rfl, rfl, rfl, rfl, rfl, rfl, rfl⟩ := pr10 hm
                                    refine fun aX wX heX hsX => ret2 Tryz.results18 heX rfl rfl (s_get (ks (ks (ks (ks (ks (ks (ks (ks (ks k0))))))))) (s_get (ks (ks (ks (ks (ks (ks (ks (ks (ks k0))))))))) (s_get (ks (ks (ks (ks (ks (ks (ks (ks (ks k0))))))))) (s_get (ks (ks (ks (ks (ks (ks (ks (ks (ks k0))))))))) (s_get (ks (ks (ks (ks (ks (ks (ks (ks (ks k0))))))))) (s_get (ks (ks (ks (ks (ks (ks (ks (ks (ks k0))))))))) (s_get (ks (ks (ks (ks (ks (ks (ks (ks (ks k0))))))))) (s_get (ks (ks (ks (ks (ks (ks (ks (ks (ks k0))))))))) (s_get (ks (ks (ks (ks (ks (ks (ks (ks (ks k0))))))))) (s_get (ks k0) (s_get (ks (ks (ks (ks (ks (ks (ks (ks k0)))))))) (s_take (s_get (ks (ks (ks (ks (ks (ks (ks k0))))))) (s_get (ks (ks (ks (ks (ks (ks (ks k0))))))) (s_take (s_take (s_take (s_take (s_take (s_skip (s_skip (s_take s_nil)))))))))))))))))))))) ?_
                                    exact ⟨v1, _, v2, _, v3, _, v4, _, v5, _, v6, _, v7, _, v8, _, v9, _, v10, _, v11, _, rfl, rfl, ho1, ho2, ho3, ho4, ho5, ho6, ho7, ho8, ho9, ho10, ho11⟩
                                  · have hm := cd_f h29 hm
                                    refine c_seq ?_
                                    refine c_region ?_
                                    refine o_T (y_eql rfl rfl) rfl ?_
                                    refine o_L (y_assign rfl) rfl rfl ?_
                                    refine o_nil0 rfl ?_
                                    refine c_cond rfl (fun h30 => ?_) (fun h30 => ?_)
                                    · have hm := cd_t h30 hm
                                      refine c_seq ?_
                                      refine c_region ?_
                                      refine o_T (y_move rfl) rfl ?_
                                      refine o_T (y_move rfl) rfl ?_
                                      obtain ⟨c35, hx29, hm⟩ := bd1 hm
                                      refine o_callC en_33 rfl (s_skip (s_skip (s_skip (s_skip (s_skip (s_skip (s_skip (s_skip (s_skip (s_skip (s_skip (s_get (ks (ks k0)) (s_take (s_skip (s_skip (s_skip (s_take (s_take (s_take (s_take (s_take s_nil))))))))))))))))))))) (t33 ho8 ho9 ho10 ho11 hx29) rfl (fun u29 S29 hR29 => ?_)
                                      obtain ⟨rfl, rfl⟩ := hR29
                                      refine o_rest ?_
                                      refine o_L (y_assign rfl) rfl rfl ?_
                                      refine o_L (y_assign rfl) rfl rfl ?_
                                      refine o_nil0 rfl ?_
                                      refine c_ret ?_
                                      obtain ⟨rfl, rfl, rfl, rfl, rfl, rfl, rfl, rfl, rfl, rfl⟩ := pr10 hm
                                      refine fun aX wX heX hsX => ret2 Tryz.results18 heX rfl rfl (s_get (ks (ks (ks (ks (ks (ks (ks (ks (ks k0))))))))) (s_get (ks (ks (ks (ks (ks (ks (ks (ks (ks k0))))))))) (s_get (ks (ks (ks (ks (ks (ks (ks (ks (ks k0))))))))) (s_get (ks (ks (ks (ks (ks (ks (ks (ks (ks k0))))))))) (s_get (ks (ks (ks (ks (ks (ks (ks (ks (ks k0))))))))) (s_get (ks (ks (ks (ks (ks (ks (ks (ks (ks k0))))))))) (s_get (ks (ks (ks (ks (ks (ks (ks (ks (ks k0))))))))) (s_get (ks (ks (ks (ks (ks (ks (ks (ks (ks k0))))))))) (s_get (ks (ks (ks (ks (ks (ks (ks (ks (ks k0))))))))) (s_get (ks k0) (s_get (ks (ks (ks (ks (ks (ks (ks (ks k0)))))))) (s_take (s_get (ks (ks (ks (ks (ks (ks (ks k0))))))) (s_get (ks (ks (ks (ks (ks (ks (ks k0))))))) (s_take (s_take (s_take (s_take (s_take (s_skip (s_skip (s_take s_nil)))))))))))))))))))))) ?_
                                      exact ⟨v1, _, v2, _, v3, _, v4, _, v5, _, v6, _, v7, _, v8, _, v9, _, v10, _, v11, _, rfl, rfl, ho1, ho2, ho3, ho4, ho5, ho6, ho7, ho8, ho9, ho10, ho11⟩
                                    · have hm := cd_f h30 hm
                                      refine c_seq ?_
                                      refine c_region ?_
                                      refine o_T (y_eql rfl rfl) rfl ?_
                                      refine o_L (y_assign rfl) rfl rfl ?_
                                      refine o_nil0 rfl ?_
                                      refine c_cond rfl (fun h31 => ?_) (fun h31 => ?_)
                                      · have hm := cd_t h31 hm
                                        refine c_seq ?_
                                        refine c_region ?_
                                        refine o_T (y_move rfl) rfl ?_
                                        refine o_T (y_move rfl) rfl ?_
                                        refine o_T (y_move rfl) rfl ?_
                                        obtain ⟨c36, hx30, hm⟩ := bd1 hm
                                        refine o_callC en_34 rfl (s_skip (s_skip (s_skip (s_skip (s_skip (s_skip (s_skip (s_skip (s_skip (s_skip (s_skip (s_get (ks (ks k0)) (s_take (s_skip (s_skip (s_skip (s_take (s_take (s_take (s_take (s_take s_nil))))))))))))))))))))) (t34 ho8 ho9 ho10 ho11 hx30) rfl (fun u30 S30 hR30 => ?_)
                                        obtain ⟨rfl, rfl⟩ := hR30
                                        refine o_rest ?_
                                        refine o_L (y_assign rfl) rfl rfl ?_
                                        refine o_L (y_assign rfl) rfl rfl ?_
                                        refine o_nil0 rfl ?_
                                        refine c_ret ?_
                                        obtain ⟨rfl, rfl, rfl, rfl, rfl, rfl, rfl, rfl, rfl, rfl⟩ := pr10 hm
                                        refine fun aX wX heX hsX => ret2 Tryz.results18 heX rfl rfl (s_get (ks (ks (ks (ks (ks (ks (ks (ks (ks k0))))))))) (s_get (ks (ks (ks (ks (ks (ks (ks (ks (ks k0))))))))) (s_get (ks (ks (ks (ks (ks (ks (ks (ks (ks k0))))))))) (s_get (ks (ks (ks (ks (ks (ks (ks (ks (ks k0))))))))) (s_get (ks (ks (ks (ks (ks (ks (ks (ks (ks k0))))))))) (s_get (ks (ks (ks (ks (ks (ks (ks (ks (ks k0))))))))) (s_get (ks (ks (ks (ks (ks (ks (ks (ks (ks k0))))))))) (s_get (ks (ks (ks (ks (ks (ks (ks (ks (ks k0))))))))) (s_get (ks (ks (ks (ks (ks (ks (ks (ks (ks k0))))))))) (s_get (ks k0) (s_get (ks (ks (ks (ks (ks (ks (ks (ks k0)))))))) (s_take (s_get (ks (ks (ks (ks (ks (ks (ks k0))))))) (s_get (ks (ks (ks (ks (ks (ks (ks k0))))))) (s_take (s_take (s_take (s_take (s_take (s_skip (s_skip (s_take s_nil)))))))))))))))))))))) ?_
                                        exact ⟨v1, _, v2, _, v3, _, v4, _, v5, _, v6, _, v7, _, v8, _, v9, _, v10, _, v11, _, rfl, rfl, ho1, ho2, ho3, ho4, ho5, ho6, ho7, ho8, ho9, ho10, ho11⟩
                                      · have hm := cd_f h31 hm
                                        refine c_seq ?_
                                        refine c_region ?_
                                        refine o_T (y_eql rfl rfl) rfl ?_
                                        refine o_L (y_assign rfl) rfl rfl ?_
                                        refine o_nil0 rfl ?_
                                        refine c_cond rfl (fun h32 => ?_) (fun h32 => ?_)
                                        · have hm := cd_t h32 hm
                                          refine c_seq ?_
                                          refine c_region ?_
                                          refine o_T (y_move rfl) rfl ?_
                                          refine o_T (y_move rfl) rfl ?_
                                          refine o_T (y_move rfl) rfl ?_
                                          obtain ⟨c37, hx31, hm⟩ := bd1 hm
                                          refine o_callC en_35 rfl (s_skip (s_skip (s_skip (s_skip (s_skip (s_skip (s_skip (s_skip (s_skip (s_skip (s_skip (s_skip (s_skip (s_take (s_skip (s_take (s_take (s_take (s_take (s_take (s_take s_nil))))))))))))))))))))) (t35 ho8 ho9 ho10 ho11 hx31) rfl (fun u31 S31 hR31 => ?_)
                                          obtain ⟨rfl, rfl⟩ := hR31
                                          refine o_rest ?_
                                          refine o_L (y_assign rfl) rfl rfl ?_
                                          refine o_L (y_assign rfl) rfl rfl ?_
                                          refine o_nil0 rfl ?_
                                          refine c_ret ?_
                                          obtain ⟨rfl, rfl, rfl, rfl, rfl, rfl, rfl, rfl, rfl, rfl⟩ := pr10 hm
                                          refine fun aX wX heX hsX => ret2 Tryz.results18 heX rfl rfl (s_get (ks (ks (ks (ks (ks (ks (ks (ks (ks k0))))))))) (s_get (ks (ks (ks (ks (ks (ks (ks (ks (ks k0))))))))) (s_get (ks (ks (ks (ks (ks (ks (ks (ks (ks k0))))))))) (s_get (ks (ks (ks (ks (ks (ks (ks (ks (ks k0))))))))) (s_get (ks (ks (ks (ks (ks (ks (ks (ks (ks k0))))))))) (s_get (ks (ks (ks (ks (ks (ks (ks (ks (ks k0))))))))) (s_get (ks (ks (ks (ks (ks (ks (ks (ks (ks k0))))))))) (s_get (ks (ks (ks (ks (ks (ks (ks (ks (ks k0))))))))) (s_get (ks (ks (ks (ks (ks (ks (ks (ks (ks k0))))))))) (s_get (ks (ks (ks (ks (ks (ks (ks (ks (ks k0))))))))) (s_get (ks (ks (ks (ks (ks (ks (ks (ks (ks k0))))))))) (s_take (s_get (ks (ks (ks (ks (ks (ks (ks (ks k0)))))))) (s_take (s_take (s_take (s_take (s_take (s_take (s_skip (s_skip (s_take s_nil)))))))))))))))))))))) ?_
                                          exact ⟨v1, _, v2, _, v3, _, v4, _, v5, _, v6, _, v7, _, v8, _, v9, _, v10, _, v11, _, rfl, rfl, ho1, ho2, ho3, ho4, ho5, ho6, ho7, ho8, ho9, ho10, ho11⟩
                                        · have hm := cd_f h32 hm
                                          refine c_seq ?_
                                          refine c_region ?_
                                          refine o_T (y_eql rfl rfl) rfl ?_
                                          refine o_L (y_assign rfl) rfl rfl ?_
                                          refine o_nil0 rfl ?_
                                          refine c_cond rfl (fun h33 => ?_) (fun h33 => ?_)
                                          · have hm := cd_t h33 hm
                                            refine c_seq ?_
                                            refine c_region ?_
                                            refine o_T (y_move rfl) rfl ?_
                                            refine o_T (y_move rfl) rfl ?_
                                            refine o_T (y_move rfl) rfl ?_
                                            obtain ⟨c38, hx32, hm⟩ := bd1 hm
                                            refine o_callC en_36 rfl (s_skip (s_skip (s_skip (s_skip (s_skip (s_skip (s_skip (s_skip (s_skip (s_skip (s_skip (s_skip (s_skip (s_take (s_skip (s_skip (s_take (s_take (s_take (s_take (s_take s_nil))))))))))))))))))))) (t36 ho8 ho9 ho10 ho11 hx32) rfl (fun u32 S32 hR32 => ?_)
                                            obtain ⟨rfl, rfl⟩ := hR32
                                            refine o_rest ?_
                                            refine o_L (y_assign rfl) rfl rfl ?_
                                            refine o_L (y_assign rfl) rfl rfl ?_
                                            refine o_nil0 rfl ?_
                                            refine c_ret ?_
                                            obtain ⟨rfl, rfl, rfl, rfl, rfl, rfl, rfl, rfl, rfl, rfl⟩ := pr10 hm
                                            refine fun aX wX heX hsX => ret2 Tryz.results18 heX rfl rfl (s_get (ks (ks (ks (ks (ks (ks (ks (ks k0)))))))) (s_get (ks (ks (ks (ks (ks (ks (ks (ks k0)))))))) (s_get (ks (ks (ks (ks (ks (ks (ks (ks k0)))))))) (s_get (ks (ks (ks (ks (ks (ks (ks (ks k0)))))))) (s_get (ks (ks (ks (ks (ks (ks (ks (ks k0)))))))) (s_get (ks (ks (ks (ks (ks (ks (ks (ks k0)))))))) (s_get (ks (ks (ks (ks (ks (ks (ks (ks k0)))))))) (s_get (ks (ks (ks (ks (ks (ks (ks (ks k0)))))))) (s_get (ks (ks (ks (ks (ks (ks (ks (ks k0)))))))) (s_get (ks (ks (ks (ks (ks (ks (ks (ks k0)))))))) (s_get (ks (ks (ks (ks (ks (ks (ks (ks k0)))))))) (s_take (s_get (ks (ks (ks (ks (ks (ks (ks k0))))))) (s_get (ks (ks (ks (ks (ks (ks (ks k0))))))) (s_take (s_take (s_take (s_take (s_take (s_skip (s_skip (s_take s_nil)))))))))))))))))))))) ?_
                                            exact ⟨v1, _, v2, _, v3, _, v4, _, v5, _, v6, _, v7, _, v8, _, v9, _, v10, _, v11, _, rfl, rfl, ho1, ho2, ho3, ho4, ho5, ho6, ho7, ho8, ho9, ho10, ho11⟩
                                          · have hm := cd_f h33 hm
                                            refine c_seq ?_
                                            refine c_region ?_
                                            refine o_T (y_eql rfl rfl) rfl ?_
                                            refine o_L (y_assign rfl) rfl rfl ?_
                                            refine o_nil0 rfl ?_
                                            refine c_cond rfl (fun h34 => ?_) (fun h34 => ?_)
                                            · have hm := cd_t h34 hm
                                              refine c_seq ?_
                                              refine c_seq ?_
                                              refine c_region ?_
                                              refine o_lda ag_37 rfl (ms m0) (At.exs At.refl (Below.len _ _ _ _ _ _ _ _)) (At.fits At.refl (Below.len _ _ _ _ _ _ _ _)) rfl ?_
                                              obtain ⟨c39, hx33, hm⟩ := bd1 hm
                                              refine o_callC en_44 rfl (s_skip (s_skip (s_skip (s_skip (s_skip (s_skip (s_skip (s_skip (s_skip (s_skip (s_skip (s_take (s_take (s_take (s_take s_nil))))))))))))))) (t44 hx33) rfl (fun u33 S33 hR33 => ?_)
                                              obtain ⟨rfl, rfl⟩ := hR33
                                              refine o_rest ?_
                                              refine o_T (y_not rfl) rfl ?_
                                              refine o_nil1 338 rfl rfl ?_
                                              refine c_cond rfl (fun h35 => ?_) (fun h35 => ?_)
                                              · have hm := cd_t h35 hm
                                                refine c_seq ?_
                                                refine c_region ?_
                                                refine o_L (y_assign rfl) rfl rfl ?_
                                                refine o_L (y_assign rfl) rfl rfl ?_
                                                refine o_nil0 rfl ?_
                                                refine c_ret ?_
                                                obtain ⟨rfl, rfl, rfl, rfl, rfl, rfl, rfl, rfl, rfl, rfl⟩ := pr10 hm
                                                refine fun aX wX heX hsX => ret2 Tryz.results18 heX rfl rfl (s_get (ks (ks (ks (ks (ks (ks k0)))))) (s_get (ks (ks (ks (ks (ks (ks k0)))))) (s_get (ks (ks (ks (ks (ks (ks k0)))))) (s_get (ks (ks (ks (ks (ks (ks k0)))))) (s_get (ks (ks (ks (ks (ks (ks k0)))))) (s_get (ks (ks (ks (ks (ks (ks k0)))))) (s_get (ks (ks (ks (ks (ks (ks k0)))))) (s_get (ks (ks (ks (ks (ks (ks k0)))))) (s_get (ks (ks (ks (ks (ks (ks k0)))))) (s_take (s_take (s_take (s_take (s_skip (s_skip (s_take (s_take (s_take (s_take (s_take (s_take (s_take s_nil)))))))))))))))))))))) ?_
                                                exact ⟨v1, _, v2, _, v3, _, v4, _, v5, _, v6, _, v7, _, v8, _, v9, _, v10, _, v11, _, rfl, rfl, ho1, ho2, ho3, ho4, ho5, ho6, ho7, ho8, ho9, ho10, ho11⟩
                                              · have hm := cd_f h35 hm
                                                refine c_skip ?_
                                                refine c_seq ?_
                                                refine c_region ?_
                                                refine o_lda ag_37 rfl (ms (ms (ms (ms (ms m0))))) (At.exs At.refl (Below.len _ _ _ _ _ _ _ _)) (At.fits At.refl (Below.len _ _ _ _ _ _ _ _)) rfl ?_
                                                refine o_T (y_move rfl) rfl ?_
                                                refine o_T (y_move rfl) rfl ?_
                                                obtain ⟨c40, hx34, hm⟩ := bd1 hm
                                                refine o_callC en_20 rfl (s_skip (s_take (s_skip (s_skip (s_skip (s_skip (s_skip (s_skip (s_skip (s_skip (s_skip (s_skip (s_skip (s_skip (s_skip (s_skip (s_take (s_take (s_take (s_take (s_take s_nil))))))))))))))))))))) (t20 ho8 ho9 ho10 ho11 hx34) rfl (fun u34 S34 hR34 => ?_)
                                                obtain ⟨rfl, rfl⟩ := hR34
                                                refine o_rest ?_
                                                refine o_L (y_assign rfl) rfl rfl ?_
                                                refine o_L (y_assign rfl) rfl rfl ?_
                                                refine o_nil0 rfl ?_
                                                refine c_ret ?_
                                                obtain ⟨rfl, rfl, rfl, rfl, rfl, rfl, rfl, rfl, rfl, rfl⟩ := pr10 hm
                                                refine fun aX wX heX hsX => ret2 Tryz.results18 heX rfl rfl (s_get (ks (ks (ks (ks (ks (ks (ks (ks (ks (ks (ks k0))))))))))) (s_get (ks (ks (ks (ks (ks (ks (ks (ks (ks (ks (ks k0))))))))))) (s_get (ks (ks (ks (ks (ks (ks (ks (ks (ks (ks (ks k0))))))))))) (s_get (ks (ks (ks (ks (ks (ks (ks (ks (ks (ks (ks k0))))))))))) (s_get (ks (ks (ks (ks (ks (ks (ks (ks (ks (ks (ks k0))))))))))) (s_get (ks (ks (ks (ks (ks (ks (ks (ks (ks (ks (ks k0))))))))))) (s_get (ks (ks (ks (ks (ks (ks (ks (ks (ks (ks (ks k0))))))))))) (s_get (ks (ks (ks (ks (ks (ks (ks (ks (ks (ks (ks k0))))))))))) (s_get (ks (ks (ks (ks (ks (ks (ks (ks (ks (ks (ks k0))))))))))) (s_get (ks (ks (ks (ks (ks (ks k0)))))) (s_take (s_get (ks (ks (ks (ks (ks k0))))) (s_get (ks (ks (ks (ks (ks k0))))) (s_get (ks (ks (ks (ks (ks (ks (ks k0))))))) (s_take (s_take (s_take (s_take (s_take (s_skip (s_skip (s_take s_nil)))))))))))))))))))))) ?_
                                                exact ⟨v1, _, v2, _, v3, _, v4, _, v5, _, v6, _, v7, _, v8, _, v9, _, v10, _, v11, _, rfl, rfl, ho1, ho2, ho3, ho4, ho5, ho6, ho7, ho8, ho9, ho10, ho11⟩
                                            · have hm := cd_f h34 hm
                                              refine c_seq ?_
                                              refine c_region ?_
                                              refine o_T (y_eql rfl rfl) rfl ?_
                                              refine o_L (y_assign rfl) rfl rfl ?_
                                              refine o_nil0 rfl ?_
                                              refine c_cond rfl (fun h36 => ?_) (fun h36 => ?_)
                                              · have hm := cd_t h36 hm
                                                refine c_seq ?_
                                                refine c_region ?_
                                                refine o_lda ag_37 rfl (ms m0) (At.exs At.refl (Below.len _ _ _ _ _ _ _ _)) (At.fits At.refl (Below.len _ _ _ _ _ _ _ _)) rfl ?_
                                                obtain ⟨c41, hx35, hm⟩ := bd1 hm
                                                refine o_callC en_43 rfl (s_skip (s_skip (s_take (s_take (s_take (s_take (s_take (s_skip (s_skip (s_skip (s_skip (s_take (s_take (s_take (s_take (s_take s_nil)))))))))))))))) (t43 ho1 ho2 ho3 ho4 hx35) rfl (fun u35 S35 hR35 => ?_)
                                                obtain ⟨rfl, rfl⟩ := hR35
                                                refine o_rest ?_
                                                refine o_L (y_assign rfl) rfl rfl ?_
                                                refine o_L (y_assign rfl) rfl rfl ?_
                                                refine o_nil0 rfl ?_
                                                refine c_ret ?_
                                                obtain ⟨rfl, rfl, rfl, rfl, rfl, rfl, rfl, rfl, rfl, rfl⟩ := pr10 hm
                                                refine fun aX wX heX hsX => ret2 Tryz.results18 heX rfl rfl (s_take (s_take (s_take (s_take (s_take (s_get (ks (ks (ks (ks (ks (ks (ks k0))))))) (s_get (ks (ks (ks (ks (ks (ks (ks k0))))))) (s_get (ks (ks (ks (ks (ks (ks (ks k0))))))) (s_get (ks (ks (ks (ks (ks (ks (ks k0))))))) (s_take (s_take (s_take (s_take (s_take (s_skip (s_skip (s_take (s_take (s_take (s_take (s_take (s_take s_nil)))))))))))))))))))))) ?_
                                                exact ⟨v1, _, v2, _, v3, _, v4, _, v5, _, v6, _, v7, _, v8, _, v9, _, v10, _, v11, _, rfl, rfl, ho1, ho2, ho3, ho4, ho5, ho6, ho7, ho8, ho9, ho10, ho11⟩
                                              · have hm := cd_f h36 hm
                                                refine c_skip ?_
                                                refine c_seq ?_
                                                refine c_region ?_
                                                refine o_L (y_assign rfl) rfl rfl ?_
                                                refine o_L (y_assign rfl) rfl rfl ?_
                                                refine o_nil0 rfl ?_
                                                refine c_ret ?_
                                                obtain ⟨rfl, rfl, rfl, rfl, rfl, rfl, rfl, rfl, rfl, rfl⟩ := pr10 hm
                                                refine fun aX wX heX hsX => ret2 Tryz.results18 heX rfl rfl (s_skip (s_skip (s_take (s_take (s_take (s_take (s_take (s_take (s_take (s_take (s_take (s_take (s_take (s_take (s_take (s_take (s_take (s_take (s_take (s_take (s_take (s_take s_nil)))))))))))))))))))))) ?_
                                                exact ⟨v1, _, v2, _, v3, _, v4, _, v5, _, v6, _, v7, _, v8, _, v9, _, v10, _, v11, _, rfl, rfl, ho1, ho2, ho3, ho4, ho5, ho6, ho7, ho8, ho9, ho10, ho11⟩
end Go.Proofs.Qxb6500350aGreat
