/- MADE BY PROGRAM (tools350/mir.py): mirror and walk. -/
import Derived.Test.Qxb6500350aGreatF2
import Derived.Test.Qxb6500350aGreatT29
import Derived.Test.Qxb6500350aGreatT30
import Derived.Test.Qxb6500350aGreatT31
import Derived.Test.Qxb6500350aGreatT32
import Derived.Test.Qxb6500350aGreatT33
import Derived.Test.Qxb6500350aGreatT34
import Derived.Test.Qxb6500350aGreatT35
import Derived.Test.Qxb6500350aGreatT36
import Derived.Test.Qxb6500350aGreatT37
import Derived.Test.Qxb6500350aGreatT38
import Derived.Test.Qxb6500350aGreatT39
import Derived.Test.Qxb6500350aGreatT40
import Derived.Test.Qxb6500350aGreatT41
import Derived.Test.Qxb6500350aGreatT42
import Derived.Test.Qxb6500350aGreatT43
import Derived.Test.Qxb6500350aGreatT44
import Derived.Test.Qxb6500350aGreatT20
set_option linter.unusedVariables false
set_option linter.unusedSimpArgs false
set_option maxRecDepth 20000
set_option maxHeartbeats 4000000
namespace Go.Proofs.Qxb6500350aGreat
open Go.Eng

/- towerlaw.Alike -/
def m14_w1 (n : Nat) (d : Dev) (e : Engine) (g : Graph) (s : Store) (r : RepoR) (t : Trees) (m : RepoM) (l1 : List Int) (mm : Nat) : Int → Option (Flow (Bool × Engine) (Int)) := it1 (fun lp1 c9 =>
cond (decide (c9 < (l1.length : Int))) (
Option.bind (ixL l1 c9) fun x1 =>
ob1 (m38 n r g t s d m x1 true) fun c11 =>
cond (!c11) (
Option.bind (some (false, e)) fun q1 => some (.ret q1)) (
lp1 (wi (c9 + 1)))) (
some (.nx c9))) mm
def m14_w2 (n : Nat) (r : RepoR) (x : Index) (m : RepoM) (l2 : List File) (mm : Nat) : Int → Engine → Option (Flow (Bool × Engine) (Int × Engine)) := it2 (fun lp2 c15 z2 =>
cond (decide (c15 < (l2.length : Int))) (
Option.bind (ixL l2 c15) fun x2 =>
ob2 (m41 n r z2 x m x2.path true) fun c17 z5 =>
cond (!c17) (
Option.bind (some (false, z5)) fun q2 => some (.ret q2)) (
lp2 (wi (c15 + 1)) z5)) (
some (.nx (c15, z2)))) mm
def m14_w3 (n : Nat) (r : RepoR) (x : Index) (m : RepoM) (l3 : List File) (mm : Nat) : Int → Engine → Option (Flow (Bool × Engine) (Int × Engine)) := it2 (fun lp3 c18 z6 =>
cond (decide (c18 < (l3.length : Int))) (
Option.bind (ixL l3 c18) fun x3 =>
ob2 (m41 n r z6 x m x3.path true) fun c20 z9 =>
cond (!c20) (
Option.bind (some (false, z9)) fun q3 => some (.ret q3)) (
lp3 (wi (c18 + 1)) z9)) (
some (.nx (c18, z6)))) mm
def m14 (n : Nat) (d : Dev) (e : Engine) (g : Graph) (s : Store) (r : RepoR) (t : Trees) (x : Index) (m : RepoM) (b_ : Below) (exact : Bool) : Option (Bool × Engine) :=
ob1 (m29 n r g m true) fun c1 =>
cond (!c1) (
some (false, e)) (
ob1 (m30 n r g t s d x m true) fun c2 =>
cond (!c2) (
some (false, e)) (
ob1 (m31 n r g m true) fun c3 =>
cond (!c3) (
some (false, e)) (
ob1 (m32 n r g m) fun c4 =>
cond (!c4) (
some (false, e)) (
ob1 (m33 n r g m) fun c5 =>
cond (!c5) (
some (false, e)) (
ob1 (m34 n r g m true) fun c6 =>
cond (!c6) (
some (false, e)) (
ob1 (m35 n r x m true) fun c7 =>
cond (!c7) (
some (false, e)) (
ob1 (m36 n r m true) fun c8 =>
cond (!c8) (
some (false, e)) (
ob1 (m37 n m) fun l1 =>
flow (m14_w1 n d e g s r t m l1 n 0) some (un1 fun c10 =>
ob1 (m38 n r g t s d m 0 true) fun c12 =>
cond (!c12) (
some (false, e)) (
ob1 (m39 n m) fun c13 =>
ob1 (m38 n r g t s d m c13 true) fun c14 =>
cond (!c14) (
some (false, e)) (
ob1 (m40 n m) fun l2 =>
flow (m14_w2 n r x m l2 n 0 e) some (un2 fun c16 z3 =>
ob1 (m42 n m) fun l3 =>
flow (m14_w3 n r x m l3 n 0 z3) some (un2 fun c19 z7 =>
ob1 (m43 n d g s r t x b_) fun c21 =>
cond (!c21) (
some (false, z7)) (
ob1 (m44 n g s r t b_) fun c22 =>
cond (!c22) (
some (false, z7)) (
ob1 (m20 n s m b_ exact) fun c23 =>
some (c23, z7))))))))))))))))
theorem t14 {n : Nat} {C : List Chunk} {rc1 : Bool} {rz1 : Engine} {b_ : Below} {b1 : Nat} {d : Dev} {v1 : Value} {g1 : List Chunk} {v2 : Value} {g2 : List Chunk} {v3 : Value} {g3 : List Chunk} {v4 : Value} {g4 : List Chunk} {b2 : Nat} {s : Store} {b3 : Nat} {t : Trees} {b4 : Nat} {g : Graph} {b5 : Nat} {x : Index} {b6 : Nat} {e : Engine} {v5 : Value} {g5 : List Chunk} {v6 : Value} {g6 : List Chunk} {v7 : Value} {g7 : List Chunk} {b7 : Nat} {r : RepoR} {b8 : Nat} {m : RepoM} {v8 : Value} {g8 : List Chunk} {v9 : Value} {g9 : List Chunk} {v10 : Value} {g10 : List Chunk} {v11 : Value} {g11 : List Chunk} {exact : Bool} (ho1 : Own rByte v1 d.blk g1) (ho2 : Own rByte v2 d.base g2) (ho3 : Own rInt v3 d.at_ g3) (ho4 : Own rByte v4 d.data g4) (ho5 : Own rStr v5 e.line_ g5) (ho6 : Own rInt v6 e.sum g6) (ho7 : Own rInt v7 e.nxt g7) (ho8 : Own rNode v8 m.nodes g8) (ho9 : Own rRef_ v9 m.refs g9) (ho10 : Own rFile v10 m.index g10) (ho11 : Own rFile v11 m.work g11)  (hm : m14 n d e g s r t x m b_ exact = some (rc1, rz1)) : Trip Tryz.prog 14 #[.agg (Below.enc (.pointer (some ⟨b1, 0, none⟩)) (.pointer (some ⟨b2, 0, none⟩)) (.pointer (some ⟨b3, 0, none⟩)) (.pointer (some ⟨b4, 0, none⟩)) (.pointer (some ⟨b5, 0, none⟩)) (.pointer (some ⟨b6, 0, none⟩)) (.pointer (some ⟨b7, 0, none⟩)) b_).toArray, .pointer (some ⟨b8, 0, none⟩), .bool exact] ([[(b1, .cells (Dev.enc (v1) (v2) (v3) (v4) d).toArray 85 (0, 0))], g1, g2, g3, g4, [(b6, .cells (Engine.enc (v5) (v6) (v7) e).toArray 187 (0, 0))], g5, g6, g7, [(b4, .cells (Graph.enc (.pointer (some ⟨b3, 0, none⟩)) g).toArray 179 (0, 0))], [(b2, .cells (Store.enc (.pointer (some ⟨b1, 0, none⟩)) s).toArray 126 (0, 0))], [(b7, .cells (RepoR.enc (.pointer (some ⟨b4, 0, none⟩)) (.pointer (some ⟨b5, 0, none⟩)) (.pointer (some ⟨b6, 0, none⟩)) r).toArray 130 (0, 0))], [(b3, .cells (Trees.enc (.pointer (some ⟨b2, 0, none⟩)) t).toArray 169 (0, 0))], [(b5, .cells (Index.enc x).toArray 184 (0, 0))], [(b8, .cells (RepoM.enc (v8) (v9) (v10) (v11) m).toArray 59 (0, 0))], g8, g9, g10, g11] ++ [C]) (fun u S' => ∃ (ev1 : Value), ∃ (eg1 : List Chunk), ∃ (ev2 : Value), ∃ (eg2 : List Chunk), ∃ (ev3 : Value), ∃ (eg3 : List Chunk), .bool rc1 = u ∧ S' = [[(b1, .cells (Dev.enc (v1) (v2) (v3) (v4) d).toArray 85 (0, 0))], g1, g2, g3, g4, [(b6, .cells (Engine.enc (ev1) (ev2) (ev3) rz1).toArray 187 (0, 0))], eg1, eg2, eg3, [(b4, .cells (Graph.enc (.pointer (some ⟨b3, 0, none⟩)) g).toArray 179 (0, 0))], [(b2, .cells (Store.enc (.pointer (some ⟨b1, 0, none⟩)) s).toArray 126 (0, 0))], [(b7, .cells (RepoR.enc (.pointer (some ⟨b4, 0, none⟩)) (.pointer (some ⟨b5, 0, none⟩)) (.pointer (some ⟨b6, 0, none⟩)) r).toArray 130 (0, 0))], [(b3, .cells (Trees.enc (.pointer (some ⟨b2, 0, none⟩)) t).toArray 169 (0, 0))], [(b5, .cells (Index.enc x).toArray 184 (0, 0))], [(b8, .cells (RepoM.enc (v8) (v9) (v10) (v11) m).toArray 59 (0, 0))], g8, g9, g10, g11] ++ [C] ∧ Own rStr ev1 rz1.line_ eg1 ∧ Own rInt ev2 rz1.sum eg2 ∧ Own rInt ev3 rz1.nxt eg3) := by
  refine fn_entry (args := [.agg (Below.enc (.pointer (some ⟨b1, 0, none⟩)) (.pointer (some ⟨b2, 0, none⟩)) (.pointer (some ⟨b3, 0, none⟩)) (.pointer (some ⟨b4, 0, none⟩)) (.pointer (some ⟨b5, 0, none⟩)) (.pointer (some ⟨b6, 0, none⟩)) (.pointer (some ⟨b7, 0, none⟩)) b_).toArray, .pointer (some ⟨b8, 0, none⟩), .bool exact]) Tryz.func14 rfl Tryz.ntmps14 rfl (fun w0 => ?_)
  refine c_seq ?_
  refine c_region ?_
  refine o_box rfl rfl rfl rfl (fun b9 => ?_)
  refine o_L (y_assign rfl) rfl rfl ?_
  refine o_nil0 rfl ?_
  refine c_seq ?_
  refine c_region ?_
  refine o_T (y_fa fl_37_1 rfl) rfl ?_
  refine o_T (y_fa fl_35_5 rfl) rfl ?_
  refine o_ld one_33 rfl m0 (At.got ((At.refl.comp Below.a_w).comp Tower.a_r)) rfl ?_
  refine o_L (y_assign rfl) rfl rfl ?_
  refine o_nil0 rfl ?_
  refine c_seq ?_
  refine c_seq ?_
  refine c_region ?_
  refine o_T (y_move rfl) rfl ?_
  refine o_T (y_move rfl) rfl ?_
  obtain ⟨c1, hx1, hm⟩ := bd1 hm
  refine o_callC en_29 rfl (s_skip (s_skip (s_skip (s_skip (s_skip (s_skip (s_skip (s_skip (s_skip (s_skip (s_get (ks (ks k0)) (s_take (s_skip (s_skip (s_skip (s_take (s_take (s_take (s_take (s_take s_nil)))))))))))))))))))) (t29 ho8 ho9 ho10 ho11 hx1) rfl (fun u1 S1 hR1 => ?_)
  obtain ⟨rfl, rfl⟩ := hR1
  refine o_rest ?_
  refine o_T (y_not rfl) rfl ?_
  refine o_nil1 20 rfl rfl ?_
  refine c_cond rfl (fun h1 => ?_) (fun h1 => ?_)
  · have hm := cd_t h1 hm
    refine c_seq ?_
    refine c_region ?_
    refine o_L (y_assign rfl) rfl rfl ?_
    refine o_nil0 rfl ?_
    refine c_ret ?_
    obtain ⟨rfl, rfl⟩ := pr2 hm
    refine fun aX wX heX hsX => ret1 Tryz.results14 heX rfl (s_get (ks (ks (ks (ks (ks (ks (ks (ks k0)))))))) (s_get (ks (ks (ks (ks (ks (ks (ks (ks k0)))))))) (s_get (ks (ks (ks (ks (ks (ks (ks (ks k0)))))))) (s_get (ks (ks (ks (ks (ks (ks (ks (ks k0)))))))) (s_get (ks (ks (ks (ks (ks (ks (ks (ks k0)))))))) (s_get (ks (ks (ks (ks (ks (ks (ks (ks k0)))))))) (s_get (ks (ks (ks (ks (ks (ks (ks (ks k0)))))))) (s_get (ks (ks (ks (ks (ks (ks (ks (ks k0)))))))) (s_get (ks (ks (ks (ks (ks (ks (ks (ks k0)))))))) (s_get (ks k0) (s_get (ks (ks (ks (ks (ks (ks (ks k0))))))) (s_take (s_get (ks (ks (ks (ks (ks (ks k0)))))) (s_get (ks (ks (ks (ks (ks (ks k0)))))) (s_take (s_take (s_take (s_take (s_take (s_skip (s_take s_nil))))))))))))))))))))) ?_
    exact ⟨v5, _, v6, _, v7, _, rfl, rfl, ho5, ho6, ho7⟩
  · have hm := cd_f h1 hm
    refine c_skip ?_
    refine c_seq ?_
    refine c_seq ?_
    refine c_region ?_
    refine o_T (y_move rfl) rfl ?_
    refine o_T (y_move rfl) rfl ?_
    obtain ⟨c2, hx2, hm⟩ := bd1 hm
    refine o_callC en_30 rfl (s_take (s_take (s_get (ks (ks (ks (ks (ks (ks (ks (ks (ks (ks (ks (ks (ks (ks (ks (ks k0)))))))))))))))) (s_get (ks (ks (ks (ks (ks (ks (ks (ks (ks (ks (ks (ks (ks (ks (ks k0))))))))))))))) (s_get (ks (ks (ks (ks (ks (ks k0)))))) (s_get (ks (ks (ks (ks (ks (ks k0)))))) (s_get (ks (ks (ks (ks (ks (ks k0)))))) (s_get (ks (ks (ks (ks (ks (ks k0)))))) (s_get (ks (ks (ks (ks (ks (ks k0)))))) (s_get (ks (ks (ks (ks (ks (ks (ks (ks (ks (ks k0)))))))))) (s_take (s_take (s_take (s_take (s_take s_nil))))))))))))))) (t30 ho1 ho2 ho3 ho4 ho8 ho9 ho10 ho11 hx2) rfl (fun u2 S2 hR2 => ?_)
    obtain ⟨rfl, rfl⟩ := hR2
    refine o_rest ?_
    refine o_T (y_not rfl) rfl ?_
    refine o_nil1 24 rfl rfl ?_
    refine c_cond rfl (fun h2 => ?_) (fun h2 => ?_)
    · have hm := cd_t h2 hm
      refine c_seq ?_
      refine c_region ?_
      refine o_L (y_assign rfl) rfl rfl ?_
      refine o_nil0 rfl ?_
      refine c_ret ?_
      obtain ⟨rfl, rfl⟩ := pr2 hm
      refine fun aX wX heX hsX => ret1 Tryz.results14 heX rfl (s_get (ks (ks (ks (ks k0)))) (s_get (ks (ks (ks (ks k0)))) (s_get (ks (ks (ks (ks k0)))) (s_get (ks (ks (ks (ks k0)))) (s_get (ks (ks (ks (ks k0)))) (s_get (ks (ks (ks (ks (ks (ks (ks (ks (ks (ks (ks k0))))))))))) (s_get (ks (ks (ks (ks (ks (ks (ks (ks (ks (ks (ks k0))))))))))) (s_get (ks (ks (ks (ks (ks (ks (ks (ks (ks (ks (ks k0))))))))))) (s_get (ks (ks (ks (ks (ks (ks (ks (ks (ks (ks (ks k0))))))))))) (s_get (ks k0) (s_get (ks (ks k0)) (s_take (s_take (s_take (s_take (s_take (s_take (s_take (s_take (s_skip (s_take s_nil))))))))))))))))))))) ?_
      exact ⟨v5, _, v6, _, v7, _, rfl, rfl, ho5, ho6, ho7⟩
    · have hm := cd_f h2 hm
      refine c_skip ?_
      refine c_seq ?_
      refine c_seq ?_
      refine c_region ?_
      refine o_T (y_move rfl) rfl ?_
      refine o_T (y_move rfl) rfl ?_
      obtain ⟨c3, hx3, hm⟩ := bd1 hm
      refine o_callC en_31 rfl (s_take (s_take (s_skip (s_skip (s_skip (s_skip (s_skip (s_skip (s_skip (s_skip (s_take (s_take (s_take (s_take (s_take s_nil))))))))))))))) (t31 ho8 ho9 ho10 ho11 hx3) rfl (fun u3 S3 hR3 => ?_)
      obtain ⟨rfl, rfl⟩ := hR3
      refine o_rest ?_
      refine o_T (y_not rfl) rfl ?_
      refine o_nil1 28 rfl rfl ?_
      refine c_cond rfl (fun h3 => ?_) (fun h3 => ?_)
      · have hm := cd_t h3 hm
        refine c_seq ?_
        refine c_region ?_
        refine o_L (y_assign rfl) rfl rfl ?_
        refine o_nil0 rfl ?_
        refine c_ret ?_
        obtain ⟨rfl, rfl⟩ := pr2 hm
        refine fun aX wX heX hsX => ret1 Tryz.results14 heX rfl (s_get (ks (ks (ks (ks (ks (ks (ks (ks (ks k0))))))))) (s_get (ks (ks (ks (ks (ks (ks (ks (ks (ks k0))))))))) (s_get (ks (ks (ks (ks (ks (ks (ks (ks (ks k0))))))))) (s_get (ks (ks (ks (ks (ks (ks (ks (ks (ks k0))))))))) (s_get (ks (ks (ks (ks (ks (ks (ks (ks (ks k0))))))))) (s_get (ks (ks (ks (ks (ks (ks (ks (ks (ks (ks (ks k0))))))))))) (s_get (ks (ks (ks (ks (ks (ks (ks (ks (ks (ks (ks k0))))))))))) (s_get (ks (ks (ks (ks (ks (ks (ks (ks (ks (ks (ks k0))))))))))) (s_get (ks (ks (ks (ks (ks (ks (ks (ks (ks (ks (ks k0))))))))))) (s_get (ks k0) (s_get (ks (ks (ks (ks (ks (ks (ks k0))))))) (s_take (s_get (ks (ks (ks (ks (ks k0))))) (s_get (ks (ks (ks (ks (ks k0))))) (s_take (s_take (s_take (s_take (s_take (s_skip (s_take s_nil))))))))))))))))))))) ?_
        exact ⟨v5, _, v6, _, v7, _, rfl, rfl, ho5, ho6, ho7⟩
      · have hm := cd_f h3 hm
        refine c_skip ?_
        refine c_seq ?_
        refine c_seq ?_
        refine c_region ?_
        refine o_T (y_move rfl) rfl ?_
        refine o_T (y_move rfl) rfl ?_
        obtain ⟨c4, hx4, hm⟩ := bd1 hm
        refine o_callC en_32 rfl (s_take (s_take (s_take (s_take (s_take (s_take (s_take s_nil))))))) (t32 ho8 ho9 ho10 ho11 hx4) rfl (fun u4 S4 hR4 => ?_)
        obtain ⟨rfl, rfl⟩ := hR4
        refine o_rest ?_
        refine o_T (y_not rfl) rfl ?_
        refine o_nil1 32 rfl rfl ?_
        refine c_cond rfl (fun h4 => ?_) (fun h4 => ?_)
        · have hm := cd_t h4 hm
          refine c_seq ?_
          refine c_region ?_
          refine o_L (y_assign rfl) rfl rfl ?_
          refine o_nil0 rfl ?_
          refine c_ret ?_
          obtain ⟨rfl, rfl⟩ := pr2 hm
          refine fun aX wX heX hsX => ret1 Tryz.results14 heX rfl (s_get (ks (ks (ks (ks (ks (ks (ks (ks (ks k0))))))))) (s_get (ks (ks (ks (ks (ks (ks (ks (ks (ks k0))))))))) (s_get (ks (ks (ks (ks (ks (ks (ks (ks (ks k0))))))))) (s_get (ks (ks (ks (ks (ks (ks (ks (ks (ks k0))))))))) (s_get (ks (ks (ks (ks (ks (ks (ks (ks (ks k0))))))))) (s_get (ks (ks (ks (ks (ks (ks (ks (ks (ks (ks (ks k0))))))))))) (s_get (ks (ks (ks (ks (ks (ks (ks (ks (ks (ks (ks k0))))))))))) (s_get (ks (ks (ks (ks (ks (ks (ks (ks (ks (ks (ks k0))))))))))) (s_get (ks (ks (ks (ks (ks (ks (ks (ks (ks (ks (ks k0))))))))))) (s_get (ks k0) (s_get (ks (ks (ks (ks (ks (ks (ks k0))))))) (s_take (s_get (ks (ks (ks (ks (ks k0))))) (s_get (ks (ks (ks (ks (ks k0))))) (s_take (s_take (s_take (s_take (s_take (s_skip (s_take s_nil))))))))))))))))))))) ?_
          exact ⟨v5, _, v6, _, v7, _, rfl, rfl, ho5, ho6, ho7⟩
        · have hm := cd_f h4 hm
          refine c_skip ?_
          refine c_seq ?_
          refine c_seq ?_
          refine c_region ?_
          refine o_T (y_move rfl) rfl ?_
          refine o_T (y_move rfl) rfl ?_
          obtain ⟨c5, hx5, hm⟩ := bd1 hm
          refine o_callC en_33 rfl (s_take (s_take (s_take (s_take (s_take (s_take (s_take s_nil))))))) (t33 ho8 ho9 ho10 ho11 hx5) rfl (fun u5 S5 hR5 => ?_)
          obtain ⟨rfl, rfl⟩ := hR5
          refine o_rest ?_
          refine o_T (y_not rfl) rfl ?_
          refine o_nil1 36 rfl rfl ?_
          refine c_cond rfl (fun h5 => ?_) (fun h5 => ?_)
          · have hm := cd_t h5 hm
            refine c_seq ?_
            refine c_region ?_
            refine o_L (y_assign rfl) rfl rfl ?_
            refine o_nil0 rfl ?_
            refine c_ret ?_
            obtain ⟨rfl, rfl⟩ := pr2 hm
            refine fun aX wX heX hsX => ret1 Tryz.results14 heX rfl (s_get (ks (ks (ks (ks (ks (ks (ks (ks (ks k0))))))))) (s_get (ks (ks (ks (ks (ks (ks (ks (ks (ks k0))))))))) (s_get (ks (ks (ks (ks (ks (ks (ks (ks (ks k0))))))))) (s_get (ks (ks (ks (ks (ks (ks (ks (ks (ks k0))))))))) (s_get (ks (ks (ks (ks (ks (ks (ks (ks (ks k0))))))))) (s_get (ks (ks (ks (ks (ks (ks (ks (ks (ks (ks (ks k0))))))))))) (s_get (ks (ks (ks (ks (ks (ks (ks (ks (ks (ks (ks k0))))))))))) (s_get (ks (ks (ks (ks (ks (ks (ks (ks (ks (ks (ks k0))))))))))) (s_get (ks (ks (ks (ks (ks (ks (ks (ks (ks (ks (ks k0))))))))))) (s_get (ks k0) (s_get (ks (ks (ks (ks (ks (ks (ks k0))))))) (s_take (s_get (ks (ks (ks (ks (ks k0))))) (s_get (ks (ks (ks (ks (ks k0))))) (s_take (s_take (s_take (s_take (s_take (s_skip (s_take s_nil))))))))))))))))))))) ?_
            exact ⟨v5, _, v6, _, v7, _, rfl, rfl, ho5, ho6, ho7⟩
          · have hm := cd_f h5 hm
            refine c_skip ?_
            refine c_seq ?_
            refine c_seq ?_
            refine c_region ?_
            refine o_T (y_move rfl) rfl ?_
            refine o_T (y_move rfl) rfl ?_
            obtain ⟨c6, hx6, hm⟩ := bd1 hm
            refine o_callC en_34 rfl (s_take (s_take (s_take (s_take (s_take (s_take (s_take s_nil))))))) (t34 ho8 ho9 ho10 ho11 hx6) rfl (fun u6 S6 hR6 => ?_)
            obtain ⟨rfl, rfl⟩ := hR6
            refine o_rest ?_
            refine o_T (y_not rfl) rfl ?_
            refine o_nil1 40 rfl rfl ?_
            refine c_cond rfl (fun h6 => ?_) (fun h6 => ?_)
            · have hm := cd_t h6 hm
              refine c_seq ?_
              refine c_region ?_
              refine o_L (y_assign rfl) rfl rfl ?_
              refine o_nil0 rfl ?_
              refine c_ret ?_
              obtain ⟨rfl, rfl⟩ := pr2 hm
              refine fun aX wX heX hsX => ret1 Tryz.results14 heX rfl (s_get (ks (ks (ks (ks (ks (ks (ks (ks (ks k0))))))))) (s_get (ks (ks (ks (ks (ks (ks (ks (ks (ks k0))))))))) (s_get (ks (ks (ks (ks (ks (ks (ks (ks (ks k0))))))))) (s_get (ks (ks (ks (ks (ks (ks (ks (ks (ks k0))))))))) (s_get (ks (ks (ks (ks (ks (ks (ks (ks (ks k0))))))))) (s_get (ks (ks (ks (ks (ks (ks (ks (ks (ks (ks (ks k0))))))))))) (s_get (ks (ks (ks (ks (ks (ks (ks (ks (ks (ks (ks k0))))))))))) (s_get (ks (ks (ks (ks (ks (ks (ks (ks (ks (ks (ks k0))))))))))) (s_get (ks (ks (ks (ks (ks (ks (ks (ks (ks (ks (ks k0))))))))))) (s_get (ks k0) (s_get (ks (ks (ks (ks (ks (ks (ks k0))))))) (s_take (s_get (ks (ks (ks (ks (ks k0))))) (s_get (ks (ks (ks (ks (ks k0))))) (s_take (s_take (s_take (s_take (s_take (s_skip (s_take s_nil))))))))))))))))))))) ?_
              exact ⟨v5, _, v6, _, v7, _, rfl, rfl, ho5, ho6, ho7⟩
            · have hm := cd_f h6 hm
              refine c_skip ?_
              refine c_seq ?_
              refine c_seq ?_
              refine c_region ?_
              refine o_T (y_move rfl) rfl ?_
              refine o_T (y_move rfl) rfl ?_
              obtain ⟨c7, hx7, hm⟩ := bd1 hm
              refine o_callC en_35 rfl (s_take (s_skip (s_get (ks (ks (ks (ks (ks (ks (ks (ks (ks (ks (ks (ks k0)))))))))))) (s_take (s_take (s_take (s_take (s_take s_nil)))))))) (t35 ho8 ho9 ho10 ho11 hx7) rfl (fun u7 S7 hR7 => ?_)
              obtain ⟨rfl, rfl⟩ := hR7
              refine o_rest ?_
              refine o_T (y_not rfl) rfl ?_
              refine o_nil1 44 rfl rfl ?_
              refine c_cond rfl (fun h7 => ?_) (fun h7 => ?_)
              · have hm := cd_t h7 hm
                refine c_seq ?_
                refine c_region ?_
                refine o_L (y_assign rfl) rfl rfl ?_
                refine o_nil0 rfl ?_
                refine c_ret ?_
                obtain ⟨rfl, rfl⟩ := pr2 hm
                refine fun aX wX heX hsX => ret1 Tryz.results14 heX rfl (s_get (ks (ks (ks (ks (ks (ks (ks (ks (ks (ks k0)))))))))) (s_get (ks (ks (ks (ks (ks (ks (ks (ks (ks (ks k0)))))))))) (s_get (ks (ks (ks (ks (ks (ks (ks (ks (ks (ks k0)))))))))) (s_get (ks (ks (ks (ks (ks (ks (ks (ks (ks (ks k0)))))))))) (s_get (ks (ks (ks (ks (ks (ks (ks (ks (ks (ks k0)))))))))) (s_get (ks (ks (ks (ks (ks (ks (ks (ks (ks (ks (ks k0))))))))))) (s_get (ks (ks (ks (ks (ks (ks (ks (ks (ks (ks (ks k0))))))))))) (s_get (ks (ks (ks (ks (ks (ks (ks (ks (ks (ks (ks k0))))))))))) (s_get (ks (ks (ks (ks (ks (ks (ks (ks (ks (ks (ks k0))))))))))) (s_get (ks (ks (ks (ks (ks (ks (ks k0))))))) (s_get (ks (ks (ks (ks (ks (ks (ks (ks k0)))))))) (s_take (s_get (ks (ks (ks (ks (ks (ks k0)))))) (s_take (s_take (s_take (s_take (s_take (s_take (s_skip (s_take s_nil))))))))))))))))))))) ?_
                exact ⟨v5, _, v6, _, v7, _, rfl, rfl, ho5, ho6, ho7⟩
              · have hm := cd_f h7 hm
                refine c_skip ?_
                refine c_seq ?_
                refine c_seq ?_
                refine c_region ?_
                refine o_T (y_move rfl) rfl ?_
                refine o_T (y_move rfl) rfl ?_
                obtain ⟨c8, hx8, hm⟩ := bd1 hm
                refine o_callC en_36 rfl (s_take (s_skip (s_take (s_take (s_take (s_take (s_take s_nil))))))) (t36 ho8 ho9 ho10 ho11 hx8) rfl (fun u8 S8 hR8 => ?_)
                obtain ⟨rfl, rfl⟩ := hR8
                refine o_rest ?_
                refine o_T (y_not rfl) rfl ?_
                refine o_nil1 48 rfl rfl ?_
                refine c_cond rfl (fun h8 => ?_) (fun h8 => ?_)
                · have hm := cd_t h8 hm
                  refine c_seq ?_
                  refine c_region ?_
                  refine o_L (y_assign rfl) rfl rfl ?_
                  refine o_nil0 rfl ?_
                  refine c_ret ?_
                  obtain ⟨rfl, rfl⟩ := pr2 hm
                  refine fun aX wX heX hsX => ret1 Tryz.results14 heX rfl (s_get (ks (ks (ks (ks (ks (ks (ks (ks (ks (ks k0)))))))))) (s_get (ks (ks (ks (ks (ks (ks (ks (ks (ks (ks k0)))))))))) (s_get (ks (ks (ks (ks (ks (ks (ks (ks (ks (ks k0)))))))))) (s_get (ks (ks (ks (ks (ks (ks (ks (ks (ks (ks k0)))))))))) (s_get (ks (ks (ks (ks (ks (ks (ks (ks (ks (ks k0)))))))))) (s_get (ks (ks (ks (ks (ks (ks (ks (ks (ks (ks (ks k0))))))))))) (s_get (ks (ks (ks (ks (ks (ks (ks (ks (ks (ks (ks k0))))))))))) (s_get (ks (ks (ks (ks (ks (ks (ks (ks (ks (ks (ks k0))))))))))) (s_get (ks (ks (ks (ks (ks (ks (ks (ks (ks (ks (ks k0))))))))))) (s_get (ks (ks (ks (ks (ks (ks (ks k0))))))) (s_get (ks (ks (ks (ks (ks (ks (ks (ks k0)))))))) (s_take (s_get (ks (ks (ks (ks (ks (ks k0)))))) (s_get (ks (ks (ks (ks (ks k0))))) (s_take (s_take (s_take (s_take (s_take (s_skip (s_take s_nil))))))))))))))))))))) ?_
                  exact ⟨v5, _, v6, _, v7, _, rfl, rfl, ho5, ho6, ho7⟩
                · have hm := cd_f h8 hm
                  refine c_skip ?_
                  refine c_seq ?_
                  refine c_region ?_
                  refine o_T (y_move rfl) rfl ?_
                  obtain ⟨l1, hx9, hm⟩ := bd1 hm
                  refine o_callC en_37 rfl (s_skip (s_take (s_take (s_take (s_take (s_take s_nil)))))) (t37 ho8 ho9 ho10 ho11 hx9) rfl (fun u9 S9 hR9 => ?_)
                  obtain ⟨v12, g12, rfl, rfl, ho12⟩ := hR9
                  refine o_rest ?_
                  refine o_L (y_assign rfl) rfl rfl ?_
                  refine o_nil0 rfl ?_
                  refine c_seq ?_
                  refine c_seq ?_
                  refine c_region ?_
                  refine o_L (y_assign rfl) rfl rfl ?_
                  refine o_nil0 rfl ?_
                  obtain ⟨f1, F1, hF1, hj1, hF2⟩ := fl2 hm
                  refine c_joinP (n := 0) (fun sh G => ∃ (c10 : Int), sh = [(9, .int .i64 c10)] ∧ G = [] ∧ F1 c10 = some (rc1, rz1)) (s_take (s_take (s_take (s_take (s_take (s_take (s_take (s_take (s_take (s_take (s_take (s_take (s_take (s_take (s_take (s_take (s_take (s_take (s_take (s_take (s_take (s_take s_nil)))))))))))))))))))))) .z (fun _ _ h => h) ?_ ?_
                  · skip
                    refine c_block ?_
                    refine c_loopP (n := 0) (fun mm sh G => ∃ (c9 : Int), sh = [(9, .int .i64 c9)] ∧ G = [] ∧ m14_w1 n d e g s r t m l1 mm c9 = some f1) n (s_take (s_take (s_take (s_take (s_take (s_take (s_take (s_take (s_take (s_take (s_take (s_take (s_take (s_take (s_take (s_take (s_take (s_take (s_take (s_take (s_take (s_take s_nil)))))))))))))))))))))) .z ⟨_, _, ⟨_, rfl, rfl, hj1⟩, ⟨rfl, trivial⟩, _, (s_take (s_take (s_take (s_take (s_take (s_take (s_take (s_take (s_take (s_take (s_take (s_take (s_take (s_take (s_take (s_take (s_take (s_take (s_take (s_take (s_take (s_take s_nil))))))))))))))))))))))⟩ ?_
                    rintro mm sh G ⟨c9, rfl, rfl, hm⟩
                    obtain ⟨mm1, rfl, hm⟩ := it1_s hm
                    refine c_seq ?_
                    refine c_seq ?_
                    refine c_region ?_
                    refine o_T (y_move rfl) rfl ?_
                    refine o_T (y_move rfl) rfl ?_
                    refine o_T (y_lenR ho12.rd Tryz.underlying65 rfl) rfl ?_
                    refine o_T (y_lss rfl rfl) rfl ?_
                    refine o_nil1 54 rfl rfl ?_
                    refine c_cond rfl (fun h9 => ?_) (fun h9 => ?_)
                    · have hm := cd_t h9 hm
                      refine c_skip ?_
                      refine c_seq ?_
                      refine c_block ?_
                      refine c_seq ?_
                      refine c_region ?_
                      refine o_T (y_move rfl) rfl ?_
                      refine o_T (y_move rfl) rfl ?_
                      refine o_T (y_move rfl) rfl ?_
                      refine o_T (y_move rfl) rfl ?_
                      obtain ⟨x1, hx10, hm⟩ := bd hm
                      obtain ⟨b10, w1, cs1, y1, z1, vs1, hc1, ha1, hr1, hy1⟩ := ho12.rd.ix hx10
                      obtain rfl : vs1 = (encI x1) := hr1
                      refine o_T (hy1 sl_65 rfl rfl rfl) rfl ?_
                      refine o_ld one_3 rfl (ms (ms (ms (ms (ms (mg hc1)))))) (At.getA (ha1)) rfl ?_
                      obtain ⟨c11, hx11, hm⟩ := bd1 hm
                      refine o_callC en_38 rfl (s_get (ks (ks (ks (ks (ks (ks k0)))))) (s_get (ks (ks (ks (ks (ks (ks (ks k0))))))) (s_get (ks (ks (ks (ks (ks (ks (ks k0))))))) (s_get (ks (ks (ks (ks (ks (ks (ks k0))))))) (s_get (ks (ks (ks (ks (ks (ks (ks k0))))))) (s_get (ks (ks (ks (ks (ks (ks (ks k0))))))) (s_get (ks (ks (ks (ks (ks (ks (ks k0))))))) (s_get (ks (ks (ks (ks (ks (ks (ks k0))))))) (s_get (ks (ks (ks (ks (ks (ks (ks k0))))))) (s_take (s_take (s_take (s_take (s_take s_nil)))))))))))))) (t38 ho1 ho2 ho3 ho4 ho8 ho9 ho10 ho11 hx11) rfl (fun u10 S10 hR10 => ?_)
                      obtain ⟨rfl, rfl⟩ := hR10
                      refine o_rest ?_
                      refine o_T (y_not rfl) rfl ?_
                      refine o_nil1 64 rfl rfl ?_
                      refine c_cond rfl (fun h10 => ?_) (fun h10 => ?_)
                      · have hm := cd_t h10 hm
                        refine c_seq ?_
                        refine c_region ?_
                        refine o_L (y_assign rfl) rfl rfl ?_
                        refine o_nil0 rfl ?_
                        refine c_ret ?_
                        obtain ⟨q1, hq1, hm⟩ := bd hm
                        have hm := fl_ret hm hF2
                        have hm := hq1.trans hm
                        obtain ⟨rfl, rfl⟩ := pr2 hm
                        refine fun aX wX heX hsX => ret1 Tryz.results14 heX rfl (s_get (ks (ks (ks (ks k0)))) (s_get (ks (ks (ks (ks k0)))) (s_get (ks (ks (ks (ks k0)))) (s_get (ks (ks (ks (ks k0)))) (s_get (ks (ks (ks (ks k0)))) (s_get (ks (ks (ks (ks (ks (ks (ks (ks (ks (ks (ks (ks k0)))))))))))) (s_get (ks (ks (ks (ks (ks (ks (ks (ks (ks (ks (ks (ks k0)))))))))))) (s_get (ks (ks (ks (ks (ks (ks (ks (ks (ks (ks (ks (ks k0)))))))))))) (s_get (ks (ks (ks (ks (ks (ks (ks (ks (ks (ks (ks (ks k0)))))))))))) (s_get (ks k0) (s_get (ks (ks k0)) (s_take (s_take (s_get (ks (ks (ks (ks (ks (ks k0)))))) (s_take (s_take (s_take (s_take (s_take (s_skip (s_skip (s_take s_nil)))))))))))))))))))))) ?_
                        exact ⟨v5, _, v6, _, v7, _, rfl, rfl, ho5, ho6, ho7⟩
                      · have hm := cd_f h10 hm
                        refine c_skip ?_
                        refine c_region ?_
                        refine o_T (y_move rfl) rfl ?_
                        refine o_T (y_add rfl rfl rfl) rfl ?_
                        refine o_L (y_assign rfl) rfl rfl ?_
                        refine o_nil0 rfl ?_
                        exact ⟨mm1, Nat.lt_succ_self _, _, _, ⟨_, rfl, rfl, hm⟩, ⟨rfl, trivial⟩, ⟨rfl, rfl⟩, _, (s_get (ks (ks (ks (ks (ks (ks (ks (ks (ks k0))))))))) (s_get (ks (ks (ks (ks (ks (ks (ks (ks (ks k0))))))))) (s_get (ks (ks (ks (ks (ks (ks (ks (ks (ks k0))))))))) (s_get (ks (ks (ks (ks (ks (ks (ks (ks (ks k0))))))))) (s_get (ks (ks (ks (ks (ks (ks (ks (ks (ks k0))))))))) (s_get (ks (ks (ks (ks (ks (ks (ks (ks (ks k0))))))))) (s_take (s_get (ks (ks (ks (ks (ks (ks (ks (ks k0)))))))) (s_take (s_take (s_take (s_take (s_take (s_take (s_take (s_take (s_take (s_take (s_take (s_take (s_take (s_take s_nil))))))))))))))))))))))⟩
                    · have hm := cd_f h9 hm
                      refine c_exit ?_
                      have hm := fl_nx hm hF2
                      exact ⟨_, _, ⟨_, rfl, rfl, hm⟩, ⟨rfl, trivial⟩, ⟨rfl, rfl⟩, _, (s_take (s_take (s_take (s_take (s_take (s_take (s_take (s_take (s_take (s_take (s_take (s_take (s_take (s_take (s_take (s_take (s_take (s_take (s_take (s_take (s_take (s_take s_nil))))))))))))))))))))))⟩
                  · rintro sh G ⟨c10, rfl, rfl, hm⟩
                    subst hF1
                    refine c_seq ?_
                    refine c_seq ?_
                    refine c_region ?_
                    refine o_T (y_move rfl) rfl ?_
                    refine o_T (y_move rfl) rfl ?_
                    obtain ⟨c12, hx12, hm⟩ := bd1 hm
                    refine o_callC en_38 rfl (s_get (ks (ks (ks (ks (ks (ks k0)))))) (s_get (ks (ks (ks (ks (ks (ks (ks k0))))))) (s_get (ks (ks (ks (ks (ks (ks (ks k0))))))) (s_get (ks (ks (ks (ks (ks (ks (ks k0))))))) (s_get (ks (ks (ks (ks (ks (ks (ks k0))))))) (s_get (ks (ks (ks (ks (ks (ks (ks k0))))))) (s_get (ks (ks (ks (ks (ks (ks (ks k0))))))) (s_get (ks (ks (ks (ks (ks (ks (ks k0))))))) (s_get (ks (ks (ks (ks (ks (ks (ks k0))))))) (s_take (s_take (s_take (s_take (s_take s_nil)))))))))))))) (t38 ho1 ho2 ho3 ho4 ho8 ho9 ho10 ho11 hx12) rfl (fun u11 S11 hR11 => ?_)
                    obtain ⟨rfl, rfl⟩ := hR11
                    refine o_rest ?_
                    refine o_T (y_not rfl) rfl ?_
                    refine o_nil1 68 rfl rfl ?_
                    refine c_cond rfl (fun h11 => ?_) (fun h11 => ?_)
                    · have hm := cd_t h11 hm
                      refine c_seq ?_
                      refine c_region ?_
                      refine o_L (y_assign rfl) rfl rfl ?_
                      refine o_nil0 rfl ?_
                      refine c_ret ?_
                      obtain ⟨rfl, rfl⟩ := pr2 hm
                      refine fun aX wX heX hsX => ret1 Tryz.results14 heX rfl (s_get (ks (ks (ks (ks k0)))) (s_get (ks (ks (ks (ks k0)))) (s_get (ks (ks (ks (ks k0)))) (s_get (ks (ks (ks (ks k0)))) (s_get (ks (ks (ks (ks k0)))) (s_get (ks (ks (ks (ks (ks (ks (ks (ks (ks (ks (ks (ks k0)))))))))))) (s_get (ks (ks (ks (ks (ks (ks (ks (ks (ks (ks (ks (ks k0)))))))))))) (s_get (ks (ks (ks (ks (ks (ks (ks (ks (ks (ks (ks (ks k0)))))))))))) (s_get (ks (ks (ks (ks (ks (ks (ks (ks (ks (ks (ks (ks k0)))))))))))) (s_get (ks k0) (s_get (ks (ks k0)) (s_take (s_take (s_get (ks (ks (ks (ks (ks (ks k0)))))) (s_take (s_take (s_take (s_take (s_take (s_skip (s_skip (s_take s_nil)))))))))))))))))))))) ?_
                      exact ⟨v5, _, v6, _, v7, _, rfl, rfl, ho5, ho6, ho7⟩
                    · have hm := cd_f h11 hm
                      refine c_skip ?_
                      refine c_seq ?_
                      refine c_region ?_
                      refine o_T (y_move rfl) rfl ?_
                      obtain ⟨c13, hx13, hm⟩ := bd1 hm
                      refine o_callC en_39 rfl (s_skip (s_skip (s_skip (s_skip (s_skip (s_skip (s_skip (s_skip (s_skip (s_take (s_take (s_take (s_take (s_take s_nil)))))))))))))) (t39 ho8 ho9 ho10 ho11 hx13) rfl (fun u12 S12 hR12 => ?_)
                      obtain ⟨rfl, rfl⟩ := hR12
                      refine o_rest ?_
                      refine o_L (y_assign rfl) rfl rfl ?_
                      refine o_nil0 rfl ?_
                      refine c_seq ?_
                      refine c_seq ?_
                      refine c_region ?_
                      refine o_T (y_move rfl) rfl ?_
                      refine o_T (y_move rfl) rfl ?_
                      refine o_T (y_move rfl) rfl ?_
                      obtain ⟨c14, hx14, hm⟩ := bd1 hm
                      refine o_callC en_38 rfl (s_get (ks (ks (ks (ks (ks k0))))) (s_get (ks (ks (ks (ks (ks k0))))) (s_get (ks (ks (ks (ks (ks k0))))) (s_get (ks (ks (ks (ks (ks k0))))) (s_get (ks (ks (ks (ks (ks k0))))) (s_get (ks (ks (ks (ks (ks k0))))) (s_get (ks (ks (ks (ks (ks k0))))) (s_get (ks (ks (ks (ks (ks k0))))) (s_get (ks (ks (ks (ks (ks k0))))) (s_take (s_take (s_take (s_take (s_take s_nil)))))))))))))) (t38 ho1 ho2 ho3 ho4 ho8 ho9 ho10 ho11 hx14) rfl (fun u13 S13 hR13 => ?_)
                      obtain ⟨rfl, rfl⟩ := hR13
                      refine o_rest ?_
                      refine o_T (y_not rfl) rfl ?_
                      refine o_nil1 75 rfl rfl ?_
                      refine c_cond rfl (fun h12 => ?_) (fun h12 => ?_)
                      · have hm := cd_t h12 hm
                        refine c_seq ?_
                        refine c_region ?_
                        refine o_L (y_assign rfl) rfl rfl ?_
                        refine o_nil0 rfl ?_
                        refine c_ret ?_
                        obtain ⟨rfl, rfl⟩ := pr2 hm
                        refine fun aX wX heX hsX => ret1 Tryz.results14 heX rfl (s_get (ks (ks (ks (ks k0)))) (s_get (ks (ks (ks (ks k0)))) (s_get (ks (ks (ks (ks k0)))) (s_get (ks (ks (ks (ks k0)))) (s_get (ks (ks (ks (ks k0)))) (s_get (ks (ks (ks (ks (ks (ks (ks (ks (ks (ks (ks (ks k0)))))))))))) (s_get (ks (ks (ks (ks (ks (ks (ks (ks (ks (ks (ks (ks k0)))))))))))) (s_get (ks (ks (ks (ks (ks (ks (ks (ks (ks (ks (ks (ks k0)))))))))))) (s_get (ks (ks (ks (ks (ks (ks (ks (ks (ks (ks (ks (ks k0)))))))))))) (s_get (ks k0) (s_get (ks (ks k0)) (s_take (s_take (s_get (ks (ks (ks (ks (ks (ks k0)))))) (s_take (s_take (s_take (s_take (s_take (s_skip (s_skip (s_take s_nil)))))))))))))))))))))) ?_
                        exact ⟨v5, _, v6, _, v7, _, rfl, rfl, ho5, ho6, ho7⟩
                      · have hm := cd_f h12 hm
                        refine c_skip ?_
                        refine c_seq ?_
                        refine c_region ?_
                        refine o_T (y_move rfl) rfl ?_
                        obtain ⟨l2, hx15, hm⟩ := bd1 hm
                        refine o_callC en_40 rfl (s_skip (s_skip (s_skip (s_skip (s_skip (s_skip (s_skip (s_skip (s_skip (s_take (s_take (s_take (s_take (s_take s_nil)))))))))))))) (t40 ho8 ho9 ho10 ho11 hx15) rfl (fun u14 S14 hR14 => ?_)
                        obtain ⟨v13, g13, rfl, rfl, ho13⟩ := hR14
                        refine o_rest ?_
                        refine o_L (y_assign rfl) rfl rfl ?_
                        refine o_nil0 rfl ?_
                        refine c_seq ?_
                        refine c_seq ?_
                        refine c_region ?_
                        refine o_L (y_assign rfl) rfl rfl ?_
                        refine o_nil0 rfl ?_
                        obtain ⟨f2, F2, hF3, hj2, hF4⟩ := fl2 hm
                        refine c_joinP (n := 4) (fun sh G => ∃ (c16 : Int), ∃ (z3 : Engine), ∃ (v17 : Value), ∃ (g17 : List Chunk), ∃ (v18 : Value), ∃ (g18 : List Chunk), ∃ (v19 : Value), ∃ (g19 : List Chunk), sh = [(12, .int .i64 c16)] ∧ G = [[(b6, .cells (Engine.enc (v17) (v18) (v19) z3).toArray 187 (0, 0))], g17, g18, g19] ∧ F2 (c16, z3) = some (rc1, rz1) ∧ Own rStr v17 z3.line_ g17 ∧ Own rInt v18 z3.sum g18 ∧ Own rInt v19 z3.nxt g19) (s_get (ks (ks (ks (ks (ks (ks (ks (ks (ks (ks (ks (ks (ks (ks (ks (ks (ks (ks k0)))))))))))))))))) (s_get (ks (ks (ks (ks (ks (ks (ks (ks (ks (ks (ks (ks (ks (ks (ks (ks (ks (ks k0)))))))))))))))))) (s_get (ks (ks (ks (ks (ks (ks (ks (ks (ks (ks (ks (ks (ks (ks (ks (ks (ks (ks k0)))))))))))))))))) (s_get (ks (ks (ks (ks (ks (ks (ks (ks (ks (ks (ks (ks (ks (ks (ks (ks (ks (ks k0)))))))))))))))))) (s_take (s_take (s_take (s_take (s_take (s_take (s_take (s_take (s_take (s_take (s_take (s_take (s_take (s_take (s_take (s_skip (s_take (s_take (s_take s_nil))))))))))))))))))))))) (.s (.s (.s (.s .z)))) (fun _ _ h => h) ?_ ?_
                        · skip
                          refine c_block ?_
                          refine c_loopP (n := 4) (fun mm sh G => ∃ (c15 : Int), ∃ (z2 : Engine), ∃ (v14 : Value), ∃ (g14 : List Chunk), ∃ (v15 : Value), ∃ (g15 : List Chunk), ∃ (v16 : Value), ∃ (g16 : List Chunk), sh = [(12, .int .i64 c15)] ∧ G = [[(b6, .cells (Engine.enc (v14) (v15) (v16) z2).toArray 187 (0, 0))], g14, g15, g16] ∧ m14_w2 n r x m l2 mm c15 z2 = some f2 ∧ Own rStr v14 z2.line_ g14 ∧ Own rInt v15 z2.sum g15 ∧ Own rInt v16 z2.nxt g16) n (s_get (ks (ks (ks (ks (ks (ks (ks (ks (ks (ks (ks (ks (ks (ks (ks (ks (ks (ks k0)))))))))))))))))) (s_get (ks (ks (ks (ks (ks (ks (ks (ks (ks (ks (ks (ks (ks (ks (ks (ks (ks (ks k0)))))))))))))))))) (s_get (ks (ks (ks (ks (ks (ks (ks (ks (ks (ks (ks (ks (ks (ks (ks (ks (ks (ks k0)))))))))))))))))) (s_get (ks (ks (ks (ks (ks (ks (ks (ks (ks (ks (ks (ks (ks (ks (ks (ks (ks (ks k0)))))))))))))))))) (s_take (s_take (s_take (s_take (s_take (s_take (s_take (s_take (s_take (s_take (s_take (s_take (s_take (s_take (s_take (s_skip (s_take (s_take (s_take s_nil))))))))))))))))))))))) (.s (.s (.s (.s .z)))) ⟨_, _, ⟨_, _, v5, _, v6, _, v7, _, rfl, rfl, hj2, ho5, ho6, ho7⟩, ⟨rfl, trivial⟩, _, (s_get (ks (ks (ks (ks (ks (ks (ks (ks (ks (ks (ks (ks (ks (ks (ks (ks (ks (ks k0)))))))))))))))))) (s_get (ks (ks (ks (ks (ks (ks (ks (ks (ks (ks (ks (ks (ks (ks (ks (ks (ks (ks k0)))))))))))))))))) (s_get (ks (ks (ks (ks (ks (ks (ks (ks (ks (ks (ks (ks (ks (ks (ks (ks (ks (ks k0)))))))))))))))))) (s_get (ks (ks (ks (ks (ks (ks (ks (ks (ks (ks (ks (ks (ks (ks (ks (ks (ks (ks k0)))))))))))))))))) (s_take (s_take (s_take (s_take (s_take (s_take (s_take (s_take (s_take (s_take (s_take (s_take (s_take (s_take (s_take (s_skip (s_take (s_take (s_take s_nil)))))))))))))))))))))))⟩ ?_
                          rintro mm sh G ⟨c15, z2, v14, g14, v15, g15, v16, g16, rfl, rfl, hm, ho14, ho15, ho16⟩
                          obtain ⟨mm2, rfl, hm⟩ := it2_s hm
                          refine c_seq ?_
                          refine c_seq ?_
                          refine c_region ?_
                          refine o_T (y_move rfl) rfl ?_
                          refine o_T (y_move rfl) rfl ?_
                          refine o_T (y_lenR ho13.rd Tryz.underlying57 rfl) rfl ?_
                          refine o_T (y_lss rfl rfl) rfl ?_
                          refine o_nil1 81 rfl rfl ?_
                          refine c_cond rfl (fun h13 => ?_) (fun h13 => ?_)
                          · have hm := cd_t h13 hm
                            refine c_skip ?_
                            refine c_seq ?_
                            refine c_block ?_
                            refine c_seq ?_
                            refine c_region ?_
                            refine o_T (y_move rfl) rfl ?_
                            refine o_T (y_move rfl) rfl ?_
                            refine o_T (y_move rfl) rfl ?_
                            refine o_T (y_move rfl) rfl ?_
                            obtain ⟨x2, hx16, hm⟩ := bd hm
                            obtain ⟨b11, w2, cs2, y2, z4, vs2, hc2, ha2, hr2, hy2⟩ := ho13.rd.ix hx16
                            obtain rfl : vs2 = File.enc x2 := hr2
                            refine o_T (hy2 sl_57 rfl rfl rfl) rfl ?_
                            refine o_T (y_fa fl_71_0 rfl) rfl ?_
                            refine o_ld one_9 rfl (ms (ms (ms (ms (ms (ms (ms (ms (ms (mg hc2)))))))))) (At.getA (ha2.comp File.a_path)) rfl ?_
                            obtain ⟨c17, z5, hx17, hm⟩ := bd2 hm
                            refine o_callC en_41 rfl (s_get (ks (ks (ks (ks (ks (ks (ks (ks (ks (ks k0)))))))))) (s_take (s_take (s_take (s_take (s_get (ks (ks (ks (ks (ks (ks (ks (ks (ks (ks (ks (ks (ks (ks k0)))))))))))))) (s_take (s_take (s_take (s_take (s_take s_nil))))))))))) (t41 ho14 ho15 ho16 ho8 ho9 ho10 ho11 hx17) rfl (fun u15 S15 hR15 => ?_)
                            obtain ⟨v20, g20, v21, g21, v22, g22, rfl, rfl, ho20, ho21, ho22⟩ := hR15
                            refine o_rest ?_
                            refine o_T (y_not rfl) rfl ?_
                            refine o_nil1 92 rfl rfl ?_
                            refine c_cond rfl (fun h14 => ?_) (fun h14 => ?_)
                            · have hm := cd_t h14 hm
                              refine c_seq ?_
                              refine c_region ?_
                              refine o_L (y_assign rfl) rfl rfl ?_
                              refine o_nil0 rfl ?_
                              refine c_ret ?_
                              obtain ⟨q2, hq2, hm⟩ := bd hm
                              have hm := fl_ret hm hF4
                              have hm := hq2.trans hm
                              obtain ⟨rfl, rfl⟩ := pr2 hm
                              refine fun aX wX heX hsX => ret1 Tryz.results14 heX rfl (s_get (ks (ks (ks (ks (ks (ks (ks (ks (ks (ks (ks (ks (ks (ks (ks k0))))))))))))))) (s_get (ks (ks (ks (ks (ks (ks (ks (ks (ks (ks (ks (ks (ks (ks (ks k0))))))))))))))) (s_get (ks (ks (ks (ks (ks (ks (ks (ks (ks (ks (ks (ks (ks (ks (ks k0))))))))))))))) (s_get (ks (ks (ks (ks (ks (ks (ks (ks (ks (ks (ks (ks (ks (ks (ks k0))))))))))))))) (s_get (ks (ks (ks (ks (ks (ks (ks (ks (ks (ks (ks (ks (ks (ks (ks k0))))))))))))))) (s_get (ks k0) (s_get (ks k0) (s_get (ks k0) (s_get (ks k0) (s_get (ks (ks (ks (ks (ks (ks (ks (ks k0)))))))) (s_get (ks (ks (ks (ks (ks (ks (ks (ks (ks k0))))))))) (s_take (s_get (ks (ks (ks (ks (ks (ks (ks k0))))))) (s_take (s_take (s_take (s_take (s_take (s_take (s_skip (s_skip (s_take s_nil)))))))))))))))))))))) ?_
                              exact ⟨v20, _, v21, _, v22, _, rfl, rfl, ho20, ho21, ho22⟩
                            · have hm := cd_f h14 hm
                              refine c_skip ?_
                              refine c_region ?_
                              refine o_T (y_move rfl) rfl ?_
                              refine o_T (y_add rfl rfl rfl) rfl ?_
                              refine o_L (y_assign rfl) rfl rfl ?_
                              refine o_nil0 rfl ?_
                              exact ⟨mm2, Nat.lt_succ_self _, _, _, ⟨_, _, v20, _, v21, _, v22, _, rfl, rfl, hm, ho20, ho21, ho22⟩, ⟨rfl, trivial⟩, ⟨rfl, rfl⟩, _, (s_get (ks k0) (s_get (ks k0) (s_get (ks k0) (s_get (ks k0) (s_get (ks (ks k0)) (s_get (ks (ks k0)) (s_get (ks (ks k0)) (s_get (ks (ks k0)) (s_get (ks (ks k0)) (s_get (ks (ks k0)) (s_take (s_get (ks k0) (s_get (ks k0) (s_get (ks k0) (s_get (ks k0) (s_get (ks k0) (s_get (ks k0) (s_get (ks k0) (s_get (ks k0) (s_take (s_take (s_take s_nil))))))))))))))))))))))⟩
                          · have hm := cd_f h13 hm
                            refine c_exit ?_
                            have hm := fl_nx hm hF4
                            exact ⟨_, _, ⟨_, _, v14, _, v15, _, v16, _, rfl, rfl, hm, ho14, ho15, ho16⟩, ⟨rfl, trivial⟩, ⟨rfl, rfl⟩, _, (s_take (s_take (s_take (s_take (s_take (s_take (s_take (s_take (s_take (s_take (s_take (s_take (s_take (s_take (s_take (s_take (s_take (s_take (s_take (s_take (s_take (s_take s_nil))))))))))))))))))))))⟩
                        · rintro sh G ⟨c16, z3, v17, g17, v18, g18, v19, g19, rfl, rfl, hm, ho17, ho18, ho19⟩
                          subst hF3
                          refine c_seq ?_
                          refine c_region ?_
                          refine o_T (y_move rfl) rfl ?_
                          obtain ⟨l3, hx18, hm⟩ := bd1 hm
                          refine o_callC en_42 rfl (s_skip (s_skip (s_skip (s_skip (s_take (s_take (s_take (s_take (s_take s_nil))))))))) (t42 ho8 ho9 ho10 ho11 hx18) rfl (fun u16 S16 hR16 => ?_)
                          obtain ⟨v23, g23, rfl, rfl, ho23⟩ := hR16
                          refine o_rest ?_
                          refine o_L (y_assign rfl) rfl rfl ?_
                          refine o_nil0 rfl ?_
                          refine c_seq ?_
                          refine c_seq ?_
                          refine c_region ?_
                          refine o_L (y_assign rfl) rfl rfl ?_
                          refine o_nil0 rfl ?_
                          obtain ⟨f3, F3, hF5, hj3, hF6⟩ := fl2 hm
                          refine c_joinP (n := 4) (fun sh G => ∃ (c19 : Int), ∃ (z7 : Engine), ∃ (v27 : Value), ∃ (g27 : List Chunk), ∃ (v28 : Value), ∃ (g28 : List Chunk), ∃ (v29 : Value), ∃ (g29 : List Chunk), sh = [(13, .int .i64 c19)] ∧ G = [[(b6, .cells (Engine.enc (v27) (v28) (v29) z7).toArray 187 (0, 0))], g27, g28, g29] ∧ F3 (c19, z7) = some (rc1, rz1) ∧ Own rStr v27 z7.line_ g27 ∧ Own rInt v28 z7.sum g28 ∧ Own rInt v29 z7.nxt g29) (s_get (ks (ks (ks (ks (ks (ks k0)))))) (s_get (ks (ks (ks (ks (ks (ks k0)))))) (s_get (ks (ks (ks (ks (ks (ks k0)))))) (s_get (ks (ks (ks (ks (ks (ks k0)))))) (s_take (s_take (s_take (s_take (s_take (s_take (s_skip (s_take (s_take (s_take (s_take (s_take (s_take (s_take (s_take (s_take (s_take (s_take (s_take s_nil))))))))))))))))))))))) (.s (.s (.s (.s .z)))) (fun _ _ h => h) ?_ ?_
                          · skip
                            refine c_block ?_
                            refine c_loopP (n := 4) (fun mm sh G => ∃ (c18 : Int), ∃ (z6 : Engine), ∃ (v24 : Value), ∃ (g24 : List Chunk), ∃ (v25 : Value), ∃ (g25 : List Chunk), ∃ (v26 : Value), ∃ (g26 : List Chunk), sh = [(13, .int .i64 c18)] ∧ G = [[(b6, .cells (Engine.enc (v24) (v25) (v26) z6).toArray 187 (0, 0))], g24, g25, g26] ∧ m14_w3 n r x m l3 mm c18 z6 = some f3 ∧ Own rStr v24 z6.line_ g24 ∧ Own rInt v25 z6.sum g25 ∧ Own rInt v26 z6.nxt g26) n (s_get (ks (ks (ks (ks (ks (ks k0)))))) (s_get (ks (ks (ks (ks (ks (ks k0)))))) (s_get (ks (ks (ks (ks (ks (ks k0)))))) (s_get (ks (ks (ks (ks (ks (ks k0)))))) (s_take (s_take (s_take (s_take (s_take (s_take (s_skip (s_take (s_take (s_take (s_take (s_take (s_take (s_take (s_take (s_take (s_take (s_take (s_take s_nil))))))))))))))))))))))) (.s (.s (.s (.s .z)))) ⟨_, _, ⟨_, _, v17, _, v18, _, v19, _, rfl, rfl, hj3, ho17, ho18, ho19⟩, ⟨rfl, trivial⟩, _, (s_get (ks (ks (ks (ks (ks (ks k0)))))) (s_get (ks (ks (ks (ks (ks (ks k0)))))) (s_get (ks (ks (ks (ks (ks (ks k0)))))) (s_get (ks (ks (ks (ks (ks (ks k0)))))) (s_take (s_take (s_take (s_take (s_take (s_take (s_skip (s_take (s_take (s_take (s_take (s_take (s_take (s_take (s_take (s_take (s_take (s_take (s_take s_nil)))))))))))))))))))))))⟩ ?_
                            rintro mm sh G ⟨c18, z6, v24, g24, v25, g25, v26, g26, rfl, rfl, hm, ho24, ho25, ho26⟩
                            obtain ⟨mm3, rfl, hm⟩ := it2_s hm
                            refine c_seq ?_
                            refine c_seq ?_
                            refine c_region ?_
                            refine o_T (y_move rfl) rfl ?_
                            refine o_T (y_move rfl) rfl ?_
                            refine o_T (y_lenR ho23.rd Tryz.underlying57 rfl) rfl ?_
                            refine o_T (y_lss rfl rfl) rfl ?_
                            refine o_nil1 98 rfl rfl ?_
                            refine c_cond rfl (fun h15 => ?_) (fun h15 => ?_)
                            · have hm := cd_t h15 hm
                              refine c_skip ?_
                              refine c_seq ?_
                              refine c_block ?_
                              refine c_seq ?_
                              refine c_region ?_
                              refine o_T (y_move rfl) rfl ?_
                              refine o_T (y_move rfl) rfl ?_
                              refine o_T (y_move rfl) rfl ?_
                              refine o_T (y_move rfl) rfl ?_
                              obtain ⟨x3, hx19, hm⟩ := bd hm
                              obtain ⟨b12, w3, cs3, y3, z8, vs3, hc3, ha3, hr3, hy3⟩ := ho23.rd.ix hx19
                              obtain rfl : vs3 = File.enc x3 := hr3
                              refine o_T (hy3 sl_57 rfl rfl rfl) rfl ?_
                              refine o_T (y_fa fl_71_0 rfl) rfl ?_
                              refine o_ld one_9 rfl (ms (ms (ms (ms (ms (ms (ms (ms (ms (mg hc3)))))))))) (At.getA (ha3.comp File.a_path)) rfl ?_
                              obtain ⟨c20, z9, hx20, hm⟩ := bd2 hm
                              refine o_callC en_41 rfl (s_get (ks (ks (ks (ks (ks (ks (ks (ks (ks (ks k0)))))))))) (s_take (s_take (s_take (s_take (s_get (ks (ks (ks (ks (ks (ks (ks (ks (ks (ks (ks (ks (ks (ks k0)))))))))))))) (s_take (s_take (s_take (s_take (s_take s_nil))))))))))) (t41 ho24 ho25 ho26 ho8 ho9 ho10 ho11 hx20) rfl (fun u17 S17 hR17 => ?_)
                              obtain ⟨v30, g30, v31, g31, v32, g32, rfl, rfl, ho30, ho31, ho32⟩ := hR17
                              refine o_rest ?_
                              refine o_T (y_not rfl) rfl ?_
                              refine o_nil1 109 rfl rfl ?_
                              refine c_cond rfl (fun h16 => ?_) (fun h16 => ?_)
                              · have hm := cd_t h16 hm
                                refine c_seq ?_
                                refine c_region ?_
                                refine o_L (y_assign rfl) rfl rfl ?_
                                refine o_nil0 rfl ?_
                                refine c_ret ?_
                                obtain ⟨q3, hq3, hm⟩ := bd hm
                                have hm := fl_ret hm hF6
                                have hm := hq3.trans hm
                                obtain ⟨rfl, rfl⟩ := pr2 hm
                                refine fun aX wX heX hsX => ret1 Tryz.results14 heX rfl (s_get (ks (ks (ks (ks (ks (ks (ks (ks (ks (ks (ks (ks (ks (ks (ks k0))))))))))))))) (s_get (ks (ks (ks (ks (ks (ks (ks (ks (ks (ks (ks (ks (ks (ks (ks k0))))))))))))))) (s_get (ks (ks (ks (ks (ks (ks (ks (ks (ks (ks (ks (ks (ks (ks (ks k0))))))))))))))) (s_get (ks (ks (ks (ks (ks (ks (ks (ks (ks (ks (ks (ks (ks (ks (ks k0))))))))))))))) (s_get (ks (ks (ks (ks (ks (ks (ks (ks (ks (ks (ks (ks (ks (ks (ks k0))))))))))))))) (s_get (ks k0) (s_get (ks k0) (s_get (ks k0) (s_get (ks k0) (s_get (ks (ks (ks (ks (ks (ks (ks (ks k0)))))))) (s_get (ks (ks (ks (ks (ks (ks (ks (ks (ks k0))))))))) (s_take (s_get (ks (ks (ks (ks (ks (ks (ks k0))))))) (s_take (s_take (s_take (s_take (s_take (s_take (s_skip (s_skip (s_take s_nil)))))))))))))))))))))) ?_
                                exact ⟨v30, _, v31, _, v32, _, rfl, rfl, ho30, ho31, ho32⟩
                              · have hm := cd_f h16 hm
                                refine c_skip ?_
                                refine c_region ?_
                                refine o_T (y_move rfl) rfl ?_
                                refine o_T (y_add rfl rfl rfl) rfl ?_
                                refine o_L (y_assign rfl) rfl rfl ?_
                                refine o_nil0 rfl ?_
                                exact ⟨mm3, Nat.lt_succ_self _, _, _, ⟨_, _, v30, _, v31, _, v32, _, rfl, rfl, hm, ho30, ho31, ho32⟩, ⟨rfl, trivial⟩, ⟨rfl, rfl⟩, _, (s_get (ks k0) (s_get (ks k0) (s_get (ks k0) (s_get (ks k0) (s_get (ks (ks k0)) (s_get (ks (ks k0)) (s_get (ks (ks k0)) (s_get (ks (ks k0)) (s_get (ks (ks k0)) (s_get (ks (ks k0)) (s_take (s_get (ks k0) (s_get (ks k0) (s_get (ks k0) (s_get (ks k0) (s_get (ks k0) (s_get (ks k0) (s_get (ks k0) (s_get (ks k0) (s_take (s_take (s_take s_nil))))))))))))))))))))))⟩
                            · have hm := cd_f h15 hm
                              refine c_exit ?_
                              have hm := fl_nx hm hF6
                              exact ⟨_, _, ⟨_, _, v24, _, v25, _, v26, _, rfl, rfl, hm, ho24, ho25, ho26⟩, ⟨rfl, trivial⟩, ⟨rfl, rfl⟩, _, (s_take (s_take (s_take (s_take (s_take (s_take (s_take (s_take (s_take (s_take (s_take (s_take (s_take (s_take (s_take (s_take (s_take (s_take (s_take (s_take (s_take (s_take s_nil))))))))))))))))))))))⟩
                          · rintro sh G ⟨c19, z7, v27, g27, v28, g28, v29, g29, rfl, rfl, hm, ho27, ho28, ho29⟩
                            subst hF5
                            refine c_seq ?_
                            refine c_seq ?_
                            refine c_region ?_
                            refine o_lda ag_37 rfl (ms (ms (ms (ms (ms (ms (ms (ms (ms (ms (ms (ms (ms (ms (ms (ms (ms (ms (ms (ms m0)))))))))))))))))))) (At.exs At.refl (Below.len _ _ _ _ _ _ _ _)) (At.fits At.refl (Below.len _ _ _ _ _ _ _ _)) rfl ?_
                            obtain ⟨c21, hx21, hm⟩ := bd1 hm
                            refine o_callC en_43 rfl (s_skip (s_skip (s_skip (s_skip (s_skip (s_skip (s_skip (s_skip (s_skip (s_skip (s_get (ks (ks (ks (ks k0)))) (s_get (ks (ks (ks (ks k0)))) (s_get (ks (ks (ks (ks k0)))) (s_get (ks (ks (ks (ks k0)))) (s_get (ks (ks (ks (ks k0)))) (s_get (ks k0) (s_get (ks (ks k0)) (s_take (s_take (s_take s_nil)))))))))))))))))))) (t43 ho1 ho2 ho3 ho4 hx21) rfl (fun u18 S18 hR18 => ?_)
                            obtain ⟨rfl, rfl⟩ := hR18
                            refine o_rest ?_
                            refine o_T (y_not rfl) rfl ?_
                            refine o_nil1 112 rfl rfl ?_
                            refine c_cond rfl (fun h17 => ?_) (fun h17 => ?_)
                            · have hm := cd_t h17 hm
                              refine c_seq ?_
                              refine c_region ?_
                              refine o_L (y_assign rfl) rfl rfl ?_
                              refine o_nil0 rfl ?_
                              refine c_ret ?_
                              obtain ⟨rfl, rfl⟩ := pr2 hm
                              refine fun aX wX heX hsX => ret1 Tryz.results14 heX rfl (s_take (s_take (s_take (s_take (s_take (s_get (ks (ks (ks (ks (ks k0))))) (s_get (ks (ks (ks (ks (ks k0))))) (s_get (ks (ks (ks (ks (ks k0))))) (s_get (ks (ks (ks (ks (ks k0))))) (s_take (s_take (s_take (s_take (s_take (s_take (s_take (s_take (s_take (s_take (s_skip (s_skip (s_take s_nil)))))))))))))))))))))) ?_
                              exact ⟨v27, _, v28, _, v29, _, rfl, rfl, ho27, ho28, ho29⟩
                            · have hm := cd_f h17 hm
                              refine c_skip ?_
                              refine c_seq ?_
                              refine c_seq ?_
                              refine c_region ?_
                              refine o_lda ag_37 rfl (ms (ms (ms (ms (ms (ms (ms (ms (ms (ms (ms (ms (ms (ms (ms (ms (ms (ms (ms (ms m0)))))))))))))))))))) (At.exs At.refl (Below.len _ _ _ _ _ _ _ _)) (At.fits At.refl (Below.len _ _ _ _ _ _ _ _)) rfl ?_
                              obtain ⟨c22, hx22, hm⟩ := bd1 hm
                              refine o_callC en_44 rfl (s_skip (s_skip (s_skip (s_skip (s_skip (s_take (s_take (s_take (s_take s_nil))))))))) (t44 hx22) rfl (fun u19 S19 hR19 => ?_)
                              obtain ⟨rfl, rfl⟩ := hR19
                              refine o_rest ?_
                              refine o_T (y_not rfl) rfl ?_
                              refine o_nil1 115 rfl rfl ?_
                              refine c_cond rfl (fun h18 => ?_) (fun h18 => ?_)
                              · have hm := cd_t h18 hm
                                refine c_seq ?_
                                refine c_region ?_
                                refine o_L (y_assign rfl) rfl rfl ?_
                                refine o_nil0 rfl ?_
                                refine c_ret ?_
                                obtain ⟨rfl, rfl⟩ := pr2 hm
                                refine fun aX wX heX hsX => ret1 Tryz.results14 heX rfl (s_get (ks (ks (ks (ks k0)))) (s_get (ks (ks (ks (ks k0)))) (s_get (ks (ks (ks (ks k0)))) (s_get (ks (ks (ks (ks k0)))) (s_get (ks (ks (ks (ks k0)))) (s_get (ks (ks (ks (ks (ks k0))))) (s_get (ks (ks (ks (ks (ks k0))))) (s_get (ks (ks (ks (ks (ks k0))))) (s_get (ks (ks (ks (ks (ks k0))))) (s_take (s_take (s_take (s_take (s_take (s_take (s_take (s_take (s_take (s_take (s_skip (s_skip (s_take s_nil)))))))))))))))))))))) ?_
                                exact ⟨v27, _, v28, _, v29, _, rfl, rfl, ho27, ho28, ho29⟩
                              · have hm := cd_f h18 hm
                                refine c_skip ?_
                                refine c_seq ?_
                                refine c_region ?_
                                refine o_lda ag_37 rfl (ms (ms (ms (ms (ms (ms (ms (ms (ms (ms (ms (ms (ms (ms (ms (ms (ms (ms (ms (ms m0)))))))))))))))))))) (At.exs At.refl (Below.len _ _ _ _ _ _ _ _)) (At.fits At.refl (Below.len _ _ _ _ _ _ _ _)) rfl ?_
                                refine o_T (y_move rfl) rfl ?_
                                refine o_T (y_move rfl) rfl ?_
                                obtain ⟨c23, hx23, hm⟩ := bd1 hm
                                refine o_callC en_20 rfl (s_skip (s_take (s_skip (s_skip (s_skip (s_skip (s_skip (s_skip (s_skip (s_skip (s_skip (s_skip (s_skip (s_skip (s_take (s_take (s_take (s_take (s_take s_nil))))))))))))))))))) (t20 ho8 ho9 ho10 ho11 hx23) rfl (fun u20 S20 hR20 => ?_)
                                obtain ⟨rfl, rfl⟩ := hR20
                                refine o_rest ?_
                                refine o_L (y_assign rfl) rfl rfl ?_
                                refine o_nil0 rfl ?_
                                refine c_ret ?_
                                obtain ⟨rfl, rfl⟩ := pr2 hm
                                refine fun aX wX heX hsX => ret1 Tryz.results14 heX rfl (s_get (ks (ks (ks (ks (ks (ks (ks (ks (ks k0))))))))) (s_get (ks (ks (ks (ks (ks (ks (ks (ks (ks k0))))))))) (s_get (ks (ks (ks (ks (ks (ks (ks (ks (ks k0))))))))) (s_get (ks (ks (ks (ks (ks (ks (ks (ks (ks k0))))))))) (s_get (ks (ks (ks (ks (ks (ks (ks (ks (ks k0))))))))) (s_get (ks (ks (ks (ks (ks (ks (ks (ks (ks (ks k0)))))))))) (s_get (ks (ks (ks (ks (ks (ks (ks (ks (ks (ks k0)))))))))) (s_get (ks (ks (ks (ks (ks (ks (ks (ks (ks (ks k0)))))))))) (s_get (ks (ks (ks (ks (ks (ks (ks (ks (ks (ks k0)))))))))) (s_get (ks (ks (ks (ks (ks (ks k0)))))) (s_take (s_get (ks (ks (ks (ks (ks k0))))) (s_get (ks (ks (ks (ks (ks k0))))) (s_get (ks (ks (ks (ks (ks k0))))) (s_take (s_take (s_take (s_take (s_take (s_skip (s_skip (s_take s_nil)))))))))))))))))))))) ?_
                                exact ⟨v27, _, v28, _, v29, _, rfl, rfl, ho27, ho28, ho29⟩
end Go.Proofs.Qxb6500350aGreat
