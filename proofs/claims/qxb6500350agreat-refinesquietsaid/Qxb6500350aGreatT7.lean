/- MADE BY PROGRAM (tools350/mir.py): mirror and walk. -/
import Derived.Test.Qxb6500350aGreatF2
import Derived.Test.Qxb6500350aGreatMt
import Derived.Test.Qxb6500350aGreatT9
import Derived.Test.Qxb6500350aGreatT10
import Derived.Test.Qxb6500350aGreatT11
import Derived.Test.Qxb6500350aGreatT12
import Derived.Test.Qxb6500350aGreatT13
import Derived.Test.Qxb6500350aGreatT14
import Derived.Test.Qxb6500350aGreatT15
import Derived.Test.Qxb6500350aGreatT16
import Derived.Test.Qxb6500350aGreatT17
import Derived.Test.Qxb6500350aGreatT18
import Derived.Test.Qxb6500350aGreatT19
import Derived.Test.Qxb6500350aGreatT20
import Derived.Test.Qxb6500350aGreatT21
import Derived.Test.Qxb6500350aGreatT22
set_option linter.unusedVariables false
set_option linter.unusedSimpArgs false
set_option maxRecDepth 20000
set_option maxHeartbeats 4000000
namespace Go.Proofs.Qxb6500350aGreat
open Go.Eng

/- towerlaw.walk -/
def m7_w1 (n : Nat) (script : (List Op_)) (steady : Bool) (quiet : Bool) (mm : Nat) : RepoM → RepoM → Dev → Engine → Graph → Trees → Store → RepoR → Index → Bool → Int → Below → Option (Flow (Int × Int) (RepoM × RepoM × Dev × Engine × Graph × Trees × Store × RepoR × Index × Bool × Int × Below)) := it12 (fun lp1 z14 z15 z16 z17 z18 z19 z20 z21 z22 c4 c5 z23 =>
cond ((decide (c5 < (script.length : Int))) && (decide (c5 < 4398046511104))) (
Option.bind (ixL script c5) fun x2 =>
nm (x2 : Op_) fun z35 =>
cond (decide (¬ (z35.kind = 14))) (
ob1 (m15 n z16 z23) fun z36 =>
ob1 (m12 n z14) fun z37 =>
ob1 (m16 n z20 z23) fun c8 =>
ob1 (m17 n z14) fun c9 =>
ob10 (m18 n z36 z17 z18 z20 z21 z19 z22 z14 z23 z35 c4) fun c10 c11 z38 z39 z40 z41 z42 z43 z44 z45 =>
ob1 (m13 n z38 z23) fun c12 =>
cond (!c10) (
Option.bind (some (c5, c5)) fun q3 => some (.ret q3)) (
ob1 (m17 n z45) fun c13 =>
ob1 (cond (decide (z35.kind = 12)) (
some 1) (
some (wi (c9 - c13)))) fun c14 =>
ob1 (m16 n z41 z23) fun c15 =>
flow (cond c11 (
cond (decide (c14 ≤ c8)) (
Option.bind (Option.bind (some (c5, c5)) fun q5 => some (.ret q5)) fun q4 => some (.ret q4)) (
cond (decide (¬ (c15 = c8))) (
Option.bind (Option.bind (some (c5, c5)) fun q7 => some (.ret q7)) fun q6 => some (.ret q6)) (
ob1 (m12 n z37) fun z47 =>
some (.nx z47)))) (
cond ((decide (¬ (z35.kind = 12))) && (decide (c14 < (wi (c8 - c15))))) (
Option.bind (Option.bind (some (c5, c5)) fun q9 => some (.ret q9)) fun q8 => some (.ret q8)) (
some (.nx z45)))) some (un1 fun z46 =>
ob1 (m19 n z35.kind) fun c16 =>
ob1 (cond (!c16) (
some ((decide (z35.kind = 12)) && (!c11))) (
some c4)) fun c17 =>
ob1 (m20 n z41 z46 z23 c17) fun c18 =>
cond (!c18) (
Option.bind (some (c5, c5)) fun q10 => some (.ret q10)) (
cond (!quiet) (
ob2 (m14 n z38 z39 z40 z41 z42 z43 z44 z46 z23 c17) fun c19 z48 =>
cond (!c19) (
Option.bind (some (c5, c5)) fun q11 => some (.ret q11)) (
ob1 (m13 n z38 z23) fun c20 =>
cond (decide (¬ (c20 = c12))) (
Option.bind (some (c5, c5)) fun q12 => some (.ret q12)) (
lp1 z46 z37 z38 z48 z40 z43 z41 z42 z44 c17 (wi (c5 + 1)) z23))) (
lp1 z46 z37 z38 z39 z40 z43 z41 z42 z44 c17 (wi (c5 + 1)) z23))))) (
cond (!steady) (
ob1 (m13 n z16 z23) fun c21 =>
nm (z23 : Below) fun z49 =>
ob8 (m21 n z16 z49 z35.a) fun x3 z50 z51 z52 z53 z54 z55 z56 =>
nm (x3 : Below) fun z57 =>
ob1 (m13 n z50 z57) fun c22 =>
cond (z57.rooted && (decide (¬ (c22 = 0)))) (
Option.bind (some (c5, c5)) fun q13 => some (.ret q13)) (
cond ((!z57.rooted) && (decide (¬ (c22 = 3)))) (
Option.bind (some (c5, c5)) fun q14 => some (.ret q14)) (
ob1 (m22 n z15) fun z58 =>
ob1 (m22 n z14) fun z59 =>
ob2 (m14 n z50 z55 z53 z51 z56 z52 z54 z58 z57 false) fun c23 z60 =>
ob2 (m14 n z50 z60 z53 z51 z56 z52 z54 z59 z57 c4) fun c24 z61 =>
ob1 (m13 n z50 z57) fun c25 =>
cond (decide (¬ (c25 = c22))) (
Option.bind (some (c5, c5)) fun q15 => some (.ret q15)) (
cond ((!c23) && (!c24)) (
Option.bind (some (c5, c5)) fun q16 => some (.ret q16)) (
cond (((decide (z35.a ≤ 0)) || (decide (z35.a < c21))) && (!c23)) (
Option.bind (some (c5, c5)) fun q17 => some (.ret q17)) (
cond ((decide (c21 ≤ z35.a)) && (!c24)) (
Option.bind (some (c5, c5)) fun q18 => some (.ret q18)) (
ob1 (cond c24 (
some z59) (
some z58)) fun z62 =>
ob1 (m12 n z62) fun z63 =>
cond quiet (
ob8 (m21 n z16 z49 z35.a) fun x4 z64 z65 z66 z67 z68 z69 z70 =>
nm (x4 : Below) fun z71 =>
lp1 z62 z63 z64 z69 z67 z66 z65 z70 z68 (c4 && c24) (wi (c5 + 1)) z71) (
lp1 z62 z63 z50 z61 z53 z52 z51 z56 z54 (c4 && c24) (wi (c5 + 1)) z57)))))))) (
lp1 z14 z15 z16 z17 z18 z19 z20 z21 z22 c4 (wi (c5 + 1)) z23))) (
some (.nx (z14, z15, z16, z17, z18, z19, z20, z21, z22, c4, c5, z23)))) mm
def m7 (n : Nat) (script : (List Op_)) (steady : Bool) (quiet : Bool) : Option (Int × Int) :=
ob8 (m9 n ) fun x1 z1 z2 z3 z4 z5 z6 z7 =>
nm (x1 : Below) fun z8 =>
ob1 (m10 n ) fun z9 =>
ob1 (m11 n z9) fun z10 =>
ob1 (m12 n z10) fun z11 =>
ob1 (m13 n z1 z8) fun c1 =>
cond (decide (¬ (c1 = 3))) (
some (0, 0)) (
flow (cond (!quiet) (
ob2 (m14 n z1 z6 z4 z2 z7 z3 z5 z10 z8 false) fun c2 z13 =>
cond (!c2) (
Option.bind (some (0, 0)) fun q1 => some (.ret q1)) (
ob1 (m13 n z1 z8) fun c3 =>
cond (decide (¬ (c3 = c1))) (
Option.bind (some (0, 0)) fun q2 => some (.ret q2)) (
some (.nx z13)))) (
some (.nx z6))) some (un1 fun z12 =>
flow (m7_w1 n script steady quiet n z10 z11 z1 z12 z4 z3 z2 z7 z5 false 0 z8) some (un12 fun z24 z25 z26 z27 z28 z29 z30 z31 z32 c6 c7 z33 =>
cond (decide ((script.length : Int) < 4398046511104)) (
some ((-1), (script.length : Int))) (
some ((-1), 4398046511104)))))
theorem t7 {n : Nat} {C : List Chunk} {rc1 : Int} {rc2 : Int} {v1 : Value} {script : (List Op_)} {steady : Bool} {quiet : Bool} (hr1 : Rd rOp_ C v1 script)  (hm : m7 n script steady quiet = some (rc1, rc2)) : Trip Tryz.prog 7 #[v1, .bool steady, .bool quiet] ([] ++ [C]) (fun u S' => .tuple #[.int .i64 rc1, .int .i64 rc2] = u ∧ S' = [] ++ [C]) := by
  refine fn_entry (args := [v1, .bool steady, .bool quiet]) Tryz.func7 rfl Tryz.ntmps7 rfl (fun w0 => ?_)
  refine c_seq ?_
  refine c_region ?_
  refine o_L (y_assign rfl) rfl rfl ?_
  refine o_L (y_assign rfl) rfl rfl ?_
  refine o_nil0 rfl ?_
  refine c_seq ?_
  refine c_region ?_
  obtain ⟨x1, z1, z2, z3, z4, z5, z6, z7, hx1, hm⟩ := bd8 hm
  refine o_callC en_9 rfl s_nil (t9 hx1) rfl (fun u1 S1 hR1 => ?_)
  obtain ⟨b1, v2, g1, v3, g2, v4, g3, v5, g4, b2, b3, b4, b5, b6, v6, g5, v7, g6, v8, g7, b7, rfl, rfl, ho1, ho2, ho3, ho4, ho5, ho6, ho7⟩ := hR1
  refine o_rest ?_
  refine o_alloc ze_37 rfl rfl (fun b8 => ?_)
  obtain ⟨z8, hn1, hm⟩ := nm_s hm
  refine o_stNA ag_37 rfl rfl (Below.plain rfl rfl rfl rfl rfl rfl rfl _) (Below.len _ _ _ _ _ _ _ _) (Upd.refl ((Below.len _ _ _ _ _ _ _ _).trans (Below.len _ _ _ _ _ _ _ _).symm)) r0 (show (Below.enc (.pointer (some ⟨b1, 0, none⟩)) (.pointer (some ⟨b2, 0, none⟩)) (.pointer (some ⟨b3, 0, none⟩)) (.pointer (some ⟨b4, 0, none⟩)) (.pointer (some ⟨b5, 0, none⟩)) (.pointer (some ⟨b6, 0, none⟩)) (.pointer (some ⟨b7, 0, none⟩)) z8) = _ from by subst hn1; rfl) ?_
  refine o_nil0 rfl ?_
  refine c_seq ?_
  refine c_region ?_
  obtain ⟨z9, hx2, hm⟩ := bd1 hm
  refine o_callC en_10 rfl s_nil (t10 hx2) rfl (fun u2 S2 hR2 => ?_)
  obtain ⟨b9, v9, g8, v10, g9, v11, g10, v12, g11, rfl, rfl, ho8, ho9, ho10, ho11⟩ := hR2
  refine o_rest ?_
  refine o_L (y_assign rfl) rfl rfl ?_
  refine o_nil0 rfl ?_
  refine c_seq ?_
  refine c_region ?_
  refine o_T (y_move rfl) rfl ?_
  obtain ⟨z10, hx3, hm⟩ := bd1 hm
  refine o_callC en_11 rfl (s_take (s_take (s_take (s_take (s_take s_nil))))) (t11 ho8 ho9 ho10 ho11 hx3) rfl (fun u3 S3 hR3 => ?_)
  obtain ⟨rfl, rfl, ho12, ho13, ho14, ho15⟩ := hR3
  refine o_rest ?_
  refine o_nil0 rfl ?_
  refine c_seq ?_
  refine c_region ?_
  refine o_T (y_move rfl) rfl ?_
  obtain ⟨z11, hx4, hm⟩ := bd1 hm
  refine o_callC en_12 rfl (s_take (s_take (s_take (s_take (s_take s_nil))))) (t12 ho12 ho13 ho14 ho15 hx4) rfl (fun u4 S4 hR4 => ?_)
  obtain ⟨b10, v17, g16, v18, g17, v19, g18, v20, g19, rfl, rfl, ho16, ho17, ho18, ho19⟩ := hR4
  refine o_rest ?_
  refine o_L (y_assign rfl) rfl rfl ?_
  refine o_nil0 rfl ?_
  refine c_seq ?_
  refine c_region ?_
  refine o_L (y_assign rfl) rfl rfl ?_
  refine o_nil0 rfl ?_
  refine c_seq ?_
  refine c_region ?_
  refine o_lda ag_37 rfl (ms (ms (ms (ms (ms (ms (ms (ms (ms (ms m0)))))))))) (At.exs At.refl (Below.len _ _ _ _ _ _ _ _)) (At.fits At.refl (Below.len _ _ _ _ _ _ _ _)) rfl ?_
  obtain ⟨c1, hx5, hm⟩ := bd1 hm
  refine o_callC en_13 rfl (s_skip (s_skip (s_skip (s_skip (s_skip (s_skip (s_skip (s_skip (s_skip (s_skip (s_skip (s_take (s_take (s_take (s_take (s_take s_nil)))))))))))))))) (t13 ho1 ho2 ho3 ho4 hx5) rfl (fun u5 S5 hR5 => ?_)
  obtain ⟨rfl, rfl⟩ := hR5
  refine o_rest ?_
  refine o_L (y_assign rfl) rfl rfl ?_
  refine o_nil0 rfl ?_
  refine c_seq ?_
  refine c_seq ?_
  refine c_region ?_
  refine o_T (y_move rfl) rfl ?_
  refine o_T (y_neq rfl rfl) rfl ?_
  refine o_nil1 39 rfl rfl ?_
  refine c_cond rfl (fun h1 => ?_) (fun h1 => ?_)
  · have hm := cd_t h1 hm
    refine c_seq ?_
    refine c_region ?_
    refine o_L (y_assign rfl) rfl rfl ?_
    refine o_L (y_assign rfl) rfl rfl ?_
    refine o_nil0 rfl ?_
    refine c_ret ?_
    obtain ⟨rfl, rfl⟩ := pr2 hm
    refine fun aX wX heX hsX => ret2 Tryz.results7 heX rfl rfl (s_skip (s_skip (s_skip (s_skip (s_skip (s_skip (s_skip (s_skip (s_skip (s_skip (s_skip (s_skip (s_skip (s_skip (s_skip (s_skip (s_skip (s_skip (s_skip (s_skip (s_skip (s_skip (s_skip (s_skip (s_skip (s_take s_nil)))))))))))))))))))))))))) ?_
    exact ⟨rfl, rfl⟩
  · have hm := cd_f h1 hm
    refine c_skip ?_
    refine c_seq ?_
    refine c_seq ?_
    refine c_region ?_
    refine o_T (y_move rfl) rfl ?_
    refine o_T (y_not rfl) rfl ?_
    refine o_nil1 41 rfl rfl ?_
    obtain ⟨f1, F1, hF1, hj1, hF2⟩ := fl2 hm
    refine c_joinP (n := 4) (fun sh G => ∃ (z12 : Engine), ∃ (v21 : Value), ∃ (g20 : List Chunk), ∃ (v22 : Value), ∃ (g21 : List Chunk), ∃ (v23 : Value), ∃ (g22 : List Chunk), sh = [] ∧ G = [[(b6, .cells (Engine.enc (v21) (v22) (v23) z12).toArray 187 (0, 0))], g20, g21, g22] ∧ F1 z12 = some (rc1, rc2) ∧ Own rStr v21 z12.line_ g20 ∧ Own rInt v22 z12.sum g21 ∧ Own rInt v23 z12.nxt g22) (s_get (ks (ks (ks (ks (ks (ks (ks (ks (ks (ks (ks (ks (ks (ks (ks (ks (ks (ks (ks (ks k0)))))))))))))))))))) (s_get (ks (ks (ks (ks (ks (ks (ks (ks (ks (ks (ks (ks (ks (ks (ks (ks (ks (ks (ks (ks k0)))))))))))))))))))) (s_get (ks (ks (ks (ks (ks (ks (ks (ks (ks (ks (ks (ks (ks (ks (ks (ks (ks (ks (ks (ks k0)))))))))))))))))))) (s_get (ks (ks (ks (ks (ks (ks (ks (ks (ks (ks (ks (ks (ks (ks (ks (ks (ks (ks (ks (ks k0)))))))))))))))))))) (s_take (s_take (s_take (s_take (s_take (s_take (s_take (s_take (s_take (s_take (s_take (s_take (s_take (s_take (s_take (s_take (s_take (s_take (s_take (s_take (s_take (s_take s_nil)))))))))))))))))))))))))) (.s (.s (.s (.s .z)))) (fun _ _ h => h) ?_ ?_
    · as_aux_lemma =>
      have hm := hj1
      refine c_cond rfl (fun h2 => ?_) (fun h2 => ?_)
      · have hm := cd_t h2 hm
        refine c_seq ?_
        refine c_seq ?_
        refine c_region ?_
        refine o_lda ag_37 rfl (ms (ms (ms (ms (ms (ms (ms (ms (ms (ms (ms (ms (ms (ms (ms m0))))))))))))))) (At.exs At.refl (Below.len _ _ _ _ _ _ _ _)) (At.fits At.refl (Below.len _ _ _ _ _ _ _ _)) rfl ?_
        refine o_T (y_move rfl) rfl ?_
        refine o_T (y_move rfl) rfl ?_
        obtain ⟨c2, z13, hx6, hm⟩ := bd2 hm
        refine o_callC en_14 rfl (s_take (s_take (s_take (s_take (s_take (s_get (ks (ks (ks (ks (ks (ks (ks (ks (ks (ks (ks (ks (ks (ks (ks k0))))))))))))))) (s_get (ks (ks (ks (ks (ks (ks (ks (ks (ks (ks (ks (ks (ks (ks (ks k0))))))))))))))) (s_get (ks (ks (ks (ks (ks (ks (ks (ks (ks (ks (ks (ks (ks (ks (ks k0))))))))))))))) (s_get (ks (ks (ks (ks (ks (ks (ks (ks (ks (ks (ks (ks (ks (ks (ks k0))))))))))))))) (s_get (ks (ks (ks (ks (ks (ks (ks (ks (ks (ks (ks (ks (ks k0))))))))))))) (s_get (ks (ks (ks (ks (ks (ks (ks (ks (ks (ks (ks k0))))))))))) (s_get (ks (ks (ks (ks (ks (ks (ks (ks (ks (ks (ks (ks (ks k0))))))))))))) (s_get (ks (ks (ks (ks (ks (ks (ks (ks (ks (ks (ks k0))))))))))) (s_get (ks (ks (ks (ks (ks (ks (ks (ks (ks (ks (ks k0))))))))))) (s_take (s_take (s_take (s_take (s_take s_nil))))))))))))))))))) (t14 ho1 ho2 ho3 ho4 ho5 ho6 ho7 ho12 ho13 ho14 ho15 hx6) rfl (fun u6 S6 hR6 => ?_)
        obtain ⟨v24, g23, v25, g24, v26, g25, rfl, rfl, ho23, ho24, ho25⟩ := hR6
        refine o_rest ?_
        refine o_T (y_not rfl) rfl ?_
        refine o_nil1 46 rfl rfl ?_
        refine c_cond rfl (fun h3 => ?_) (fun h3 => ?_)
        · have hm := cd_t h3 hm
          refine c_seq ?_
          refine c_region ?_
          refine o_L (y_assign rfl) rfl rfl ?_
          refine o_L (y_assign rfl) rfl rfl ?_
          refine o_nil0 rfl ?_
          refine c_ret ?_
          obtain ⟨q1, hq1, hm⟩ := bd hm
          have hm := fl_ret hm hF2
          have hm := hq1.trans hm
          obtain ⟨rfl, rfl⟩ := pr2 hm
          refine fun aX wX heX hsX => ret2 Tryz.results7 heX rfl rfl (s_skip (s_skip (s_skip (s_skip (s_skip (s_skip (s_skip (s_skip (s_skip (s_skip (s_skip (s_skip (s_skip (s_skip (s_skip (s_skip (s_skip (s_skip (s_skip (s_skip (s_skip (s_skip (s_skip (s_skip (s_skip (s_take s_nil)))))))))))))))))))))))))) ?_
          exact ⟨rfl, rfl⟩
        · have hm := cd_f h3 hm
          refine c_skip ?_
          refine c_seq ?_
          refine c_region ?_
          refine o_lda ag_37 rfl (ms (ms (ms (ms (ms (ms (ms (ms (ms (ms (ms (ms (ms (ms (ms (ms (ms (ms (ms (ms (ms (ms (ms (ms m0)))))))))))))))))))))))) (At.exs At.refl (Below.len _ _ _ _ _ _ _ _)) (At.fits At.refl (Below.len _ _ _ _ _ _ _ _)) rfl ?_
          obtain ⟨c3, hx7, hm⟩ := bd1 hm
          refine o_callC en_13 rfl (s_take (s_take (s_take (s_take (s_take s_nil))))) (t13 ho1 ho2 ho3 ho4 hx7) rfl (fun u7 S7 hR7 => ?_)
          obtain ⟨rfl, rfl⟩ := hR7
          refine o_rest ?_
          refine o_T (y_move rfl) rfl ?_
          refine o_T (y_neq rfl rfl) rfl ?_
          refine o_nil1 50 rfl rfl ?_
          refine c_cond rfl (fun h4 => ?_) (fun h4 => ?_)
          · have hm := cd_t h4 hm
            refine c_seq ?_
            refine c_region ?_
            refine o_L (y_assign rfl) rfl rfl ?_
            refine o_L (y_assign rfl) rfl rfl ?_
            refine o_nil0 rfl ?_
            refine c_ret ?_
            obtain ⟨q2, hq2, hm⟩ := bd hm
            have hm := fl_ret hm hF2
            have hm := hq2.trans hm
            obtain ⟨rfl, rfl⟩ := pr2 hm
            refine fun aX wX heX hsX => ret2 Tryz.results7 heX rfl rfl (s_skip (s_skip (s_skip (s_skip (s_skip (s_skip (s_skip (s_skip (s_skip (s_skip (s_skip (s_skip (s_skip (s_skip (s_skip (s_skip (s_skip (s_skip (s_skip (s_skip (s_skip (s_skip (s_skip (s_skip (s_skip (s_take s_nil)))))))))))))))))))))))))) ?_
            exact ⟨rfl, rfl⟩
          · have hm := cd_f h4 hm
            refine c_skip ?_
            have hm := fl_nx hm hF2
            exact ⟨_, _, ⟨_, v24, _, v25, _, v26, _, rfl, rfl, hm, ho23, ho24, ho25⟩, trivial, ⟨rfl, rfl⟩, _, (s_get (ks (ks (ks (ks (ks k0))))) (s_get (ks (ks (ks (ks (ks k0))))) (s_get (ks (ks (ks (ks (ks k0))))) (s_get (ks (ks (ks (ks (ks k0))))) (s_take (s_take (s_take (s_take (s_take (s_get (ks (ks (ks (ks (ks k0))))) (s_get (ks (ks (ks (ks (ks k0))))) (s_get (ks (ks (ks (ks (ks k0))))) (s_get (ks (ks (ks (ks (ks k0))))) (s_get (ks (ks (ks (ks (ks k0))))) (s_get (ks (ks (ks (ks (ks k0))))) (s_get (ks (ks (ks (ks (ks k0))))) (s_get (ks (ks (ks (ks (ks k0))))) (s_get (ks (ks (ks (ks (ks k0))))) (s_get (ks (ks (ks (ks (ks k0))))) (s_get (ks (ks (ks (ks (ks k0))))) (s_get (ks k0) (s_get (ks (ks k0)) (s_take (s_get (ks k0) (s_take (s_take s_nil))))))))))))))))))))))))))⟩
      · have hm := cd_f h2 hm
        refine c_skip ?_
        have hm := fl_nx hm hF2
        exact ⟨_, _, ⟨_, v6, _, v7, _, v8, _, rfl, rfl, hm, ho5, ho6, ho7⟩, trivial, ⟨rfl, rfl⟩, _, (s_get (ks (ks (ks (ks (ks (ks (ks (ks (ks (ks (ks (ks (ks (ks (ks (ks (ks (ks (ks (ks k0)))))))))))))))))))) (s_get (ks (ks (ks (ks (ks (ks (ks (ks (ks (ks (ks (ks (ks (ks (ks (ks (ks (ks (ks (ks k0)))))))))))))))))))) (s_get (ks (ks (ks (ks (ks (ks (ks (ks (ks (ks (ks (ks (ks (ks (ks (ks (ks (ks (ks (ks k0)))))))))))))))))))) (s_get (ks (ks (ks (ks (ks (ks (ks (ks (ks (ks (ks (ks (ks (ks (ks (ks (ks (ks (ks (ks k0)))))))))))))))))))) (s_take (s_take (s_take (s_take (s_take (s_take (s_take (s_take (s_take (s_take (s_take (s_take (s_take (s_take (s_take (s_take (s_take (s_take (s_take (s_take (s_take (s_take s_nil))))))))))))))))))))))))))⟩
    · as_aux_lemma =>
      rintro sh G ⟨z12, v21, g20, v22, g21, v23, g22, rfl, rfl, hm, ho20, ho21, ho22⟩
      subst hF1
      refine c_seq ?_
      refine c_seq ?_
      refine c_region ?_
      refine o_L (y_assign rfl) rfl rfl ?_
      refine o_nil0 rfl ?_
      obtain ⟨f2, F2, hF3, hj2, hF4⟩ := fl2 hm
      refine c_joinP (n := 25) (fun sh G => ∃ (z24 : RepoM), ∃ (z25 : RepoM), ∃ (z26 : Dev), ∃ (z27 : Engine), ∃ (z28 : Graph), ∃ (z29 : Trees), ∃ (z30 : Store), ∃ (z31 : RepoR), ∃ (z32 : Index), ∃ (c6 : Bool), ∃ (c7 : Int), ∃ (z33 : Below), ∃ (b20 : Nat), ∃ (v42 : Value), ∃ (g41 : List Chunk), ∃ (v43 : Value), ∃ (g42 : List Chunk), ∃ (v44 : Value), ∃ (g43 : List Chunk), ∃ (v45 : Value), ∃ (g44 : List Chunk), ∃ (b21 : Nat), ∃ (v46 : Value), ∃ (g45 : List Chunk), ∃ (v47 : Value), ∃ (g46 : List Chunk), ∃ (v48 : Value), ∃ (g47 : List Chunk), ∃ (v49 : Value), ∃ (g48 : List Chunk), ∃ (b22 : Nat), ∃ (v50 : Value), ∃ (g49 : List Chunk), ∃ (v51 : Value), ∃ (g50 : List Chunk), ∃ (v52 : Value), ∃ (g51 : List Chunk), ∃ (v53 : Value), ∃ (g52 : List Chunk), ∃ (b23 : Nat), ∃ (v54 : Value), ∃ (g53 : List Chunk), ∃ (v55 : Value), ∃ (g54 : List Chunk), ∃ (v56 : Value), ∃ (g55 : List Chunk), ∃ (b24 : Nat), ∃ (b25 : Nat), ∃ (b26 : Nat), ∃ (b27 : Nat), ∃ (b28 : Nat), sh = [(9, .pointer (some ⟨b20, 0, none⟩)), (10, .pointer (some ⟨b21, 0, none⟩)), (11, .bool c6), (13, .int .i64 c7)] ∧ G = [[(b20, .cells (RepoM.enc (v42) (v43) (v44) (v45) z24).toArray 59 (0, 0))], g41, g42, g43, g44, [(b21, .cells (RepoM.enc (v46) (v47) (v48) (v49) z25).toArray 59 (0, 0))], g45, g46, g47, g48, [(b22, .cells (Dev.enc (v50) (v51) (v52) (v53) z26).toArray 85 (0, 0))], g49, g50, g51, g52, [(b23, .cells (Engine.enc (v54) (v55) (v56) z27).toArray 187 (0, 0))], g53, g54, g55, [(b24, .cells (Graph.enc (.pointer (some ⟨b25, 0, none⟩)) z28).toArray 179 (0, 0))], [(b25, .cells (Trees.enc (.pointer (some ⟨b26, 0, none⟩)) z29).toArray 169 (0, 0))], [(b26, .cells (Store.enc (.pointer (some ⟨b22, 0, none⟩)) z30).toArray 126 (0, 0))], [(b27, .cells (RepoR.enc (.pointer (some ⟨b24, 0, none⟩)) (.pointer (some ⟨b28, 0, none⟩)) (.pointer (some ⟨b23, 0, none⟩)) z31).toArray 130 (0, 0))], [(b28, .cells (Index.enc z32).toArray 184 (0, 0))], [(b8, .cells (Below.enc (.pointer (some ⟨b22, 0, none⟩)) (.pointer (some ⟨b26, 0, none⟩)) (.pointer (some ⟨b25, 0, none⟩)) (.pointer (some ⟨b24, 0, none⟩)) (.pointer (some ⟨b28, 0, none⟩)) (.pointer (some ⟨b23, 0, none⟩)) (.pointer (some ⟨b27, 0, none⟩)) z33).toArray 37 (0, 0))]] ∧ F2 (z24, z25, z26, z27, z28, z29, z30, z31, z32, c6, c7, z33) = some (rc1, rc2) ∧ Own rNode v42 z24.nodes g41 ∧ Own rRef_ v43 z24.refs g42 ∧ Own rFile v44 z24.index g43 ∧ Own rFile v45 z24.work g44 ∧ Own rNode v46 z25.nodes g45 ∧ Own rRef_ v47 z25.refs g46 ∧ Own rFile v48 z25.index g47 ∧ Own rFile v49 z25.work g48 ∧ Own rByte v50 z26.blk g49 ∧ Own rByte v51 z26.base g50 ∧ Own rInt v52 z26.at_ g51 ∧ Own rByte v53 z26.data g52 ∧ Own rStr v54 z27.line_ g53 ∧ Own rInt v55 z27.sum g54 ∧ Own rInt v56 z27.nxt g55) (s_take (s_take (s_take (s_take (s_take (s_take (s_take (s_take (s_take (s_take (s_take (s_take (s_take (s_take (s_take (s_take (s_take (s_take (s_take (s_take (s_take (s_take (s_take (s_take (s_take (s_take s_nil)))))))))))))))))))))))))) (.s (.s (.s (.s (.s (.s (.s (.s (.s (.s (.s (.s (.s (.s (.s (.s (.s (.s (.s (.s (.s (.s (.s (.s (.s .z))))))))))))))))))))))))) (fun _ _ h => h) ?_ ?_
      · as_aux_lemma =>
        skip
        refine c_block ?_
        refine c_loopP (n := 25) (fun mm sh G => ∃ (z14 : RepoM), ∃ (z15 : RepoM), ∃ (z16 : Dev), ∃ (z17 : Engine), ∃ (z18 : Graph), ∃ (z19 : Trees), ∃ (z20 : Store), ∃ (z21 : RepoR), ∃ (z22 : Index), ∃ (c4 : Bool), ∃ (c5 : Int), ∃ (z23 : Below), ∃ (b11 : Nat), ∃ (v27 : Value), ∃ (g26 : List Chunk), ∃ (v28 : Value), ∃ (g27 : List Chunk), ∃ (v29 : Value), ∃ (g28 : List Chunk), ∃ (v30 : Value), ∃ (g29 : List Chunk), ∃ (b12 : Nat), ∃ (v31 : Value), ∃ (g30 : List Chunk), ∃ (v32 : Value), ∃ (g31 : List Chunk), ∃ (v33 : Value), ∃ (g32 : List Chunk), ∃ (v34 : Value), ∃ (g33 : List Chunk), ∃ (b13 : Nat), ∃ (v35 : Value), ∃ (g34 : List Chunk), ∃ (v36 : Value), ∃ (g35 : List Chunk), ∃ (v37 : Value), ∃ (g36 : List Chunk), ∃ (v38 : Value), ∃ (g37 : List Chunk), ∃ (b14 : Nat), ∃ (v39 : Value), ∃ (g38 : List Chunk), ∃ (v40 : Value), ∃ (g39 : List Chunk), ∃ (v41 : Value), ∃ (g40 : List Chunk), ∃ (b15 : Nat), ∃ (b16 : Nat), ∃ (b17 : Nat), ∃ (b18 : Nat), ∃ (b19 : Nat), sh = [(9, .pointer (some ⟨b11, 0, none⟩)), (10, .pointer (some ⟨b12, 0, none⟩)), (11, .bool c4), (13, .int .i64 c5)] ∧ G = [[(b11, .cells (RepoM.enc (v27) (v28) (v29) (v30) z14).toArray 59 (0, 0))], g26, g27, g28, g29, [(b12, .cells (RepoM.enc (v31) (v32) (v33) (v34) z15).toArray 59 (0, 0))], g30, g31, g32, g33, [(b13, .cells (Dev.enc (v35) (v36) (v37) (v38) z16).toArray 85 (0, 0))], g34, g35, g36, g37, [(b14, .cells (Engine.enc (v39) (v40) (v41) z17).toArray 187 (0, 0))], g38, g39, g40, [(b15, .cells (Graph.enc (.pointer (some ⟨b16, 0, none⟩)) z18).toArray 179 (0, 0))], [(b16, .cells (Trees.enc (.pointer (some ⟨b17, 0, none⟩)) z19).toArray 169 (0, 0))], [(b17, .cells (Store.enc (.pointer (some ⟨b13, 0, none⟩)) z20).toArray 126 (0, 0))], [(b18, .cells (RepoR.enc (.pointer (some ⟨b15, 0, none⟩)) (.pointer (some ⟨b19, 0, none⟩)) (.pointer (some ⟨b14, 0, none⟩)) z21).toArray 130 (0, 0))], [(b19, .cells (Index.enc z22).toArray 184 (0, 0))], [(b8, .cells (Below.enc (.pointer (some ⟨b13, 0, none⟩)) (.pointer (some ⟨b17, 0, none⟩)) (.pointer (some ⟨b16, 0, none⟩)) (.pointer (some ⟨b15, 0, none⟩)) (.pointer (some ⟨b19, 0, none⟩)) (.pointer (some ⟨b14, 0, none⟩)) (.pointer (some ⟨b18, 0, none⟩)) z23).toArray 37 (0, 0))]] ∧ m7_w1 n script steady quiet mm z14 z15 z16 z17 z18 z19 z20 z21 z22 c4 c5 z23 = some f2 ∧ Own rNode v27 z14.nodes g26 ∧ Own rRef_ v28 z14.refs g27 ∧ Own rFile v29 z14.index g28 ∧ Own rFile v30 z14.work g29 ∧ Own rNode v31 z15.nodes g30 ∧ Own rRef_ v32 z15.refs g31 ∧ Own rFile v33 z15.index g32 ∧ Own rFile v34 z15.work g33 ∧ Own rByte v35 z16.blk g34 ∧ Own rByte v36 z16.base g35 ∧ Own rInt v37 z16.at_ g36 ∧ Own rByte v38 z16.data g37 ∧ Own rStr v39 z17.line_ g38 ∧ Own rInt v40 z17.sum g39 ∧ Own rInt v41 z17.nxt g40) n (s_take (s_take (s_take (s_take (s_take (s_take (s_take (s_take (s_take (s_take (s_take (s_take (s_take (s_take (s_take (s_take (s_take (s_take (s_take (s_take (s_take (s_take (s_take (s_take (s_take (s_take s_nil)))))))))))))))))))))))))) (.s (.s (.s (.s (.s (.s (.s (.s (.s (.s (.s (.s (.s (.s (.s (.s (.s (.s (.s (.s (.s (.s (.s (.s (.s .z))))))))))))))))))))))))) ⟨_, _, ⟨_, _, _, _, _, _, _, _, _, _, _, _, b9, v9, _, v10, _, v11, _, v12, _, b10, v17, _, v18, _, v19, _, v20, _, b1, v2, _, v3, _, v4, _, v5, _, b6, v21, _, v22, _, v23, _, b4, b3, b2, b7, b5, rfl, rfl, hj2, ho12, ho13, ho14, ho15, ho16, ho17, ho18, ho19, ho1, ho2, ho3, ho4, ho20, ho21, ho22⟩, ⟨rfl, rfl, rfl, rfl, trivial⟩, _, (s_get (ks (ks (ks (ks (ks (ks (ks (ks (ks k0))))))))) (s_get (ks (ks (ks (ks (ks (ks (ks (ks (ks k0))))))))) (s_get (ks (ks (ks (ks (ks (ks (ks (ks (ks k0))))))))) (s_get (ks (ks (ks (ks (ks (ks (ks (ks (ks k0))))))))) (s_get (ks (ks (ks (ks (ks (ks (ks (ks (ks k0))))))))) (s_get (ks (ks (ks (ks (ks (ks (ks (ks (ks k0))))))))) (s_get (ks (ks (ks (ks (ks (ks (ks (ks (ks k0))))))))) (s_get (ks (ks (ks (ks (ks (ks (ks (ks (ks k0))))))))) (s_get (ks (ks (ks (ks (ks (ks (ks (ks (ks k0))))))))) (s_get (ks (ks (ks (ks (ks (ks (ks (ks (ks k0))))))))) (s_get (ks (ks (ks (ks k0)))) (s_get (ks (ks (ks (ks k0)))) (s_get (ks (ks (ks (ks k0)))) (s_get (ks (ks (ks (ks k0)))) (s_get (ks (ks (ks (ks k0)))) (s_take (s_take (s_take (s_take (s_get (ks (ks (ks k0))) (s_get (ks (ks k0)) (s_get (ks k0) (s_get (ks (ks k0)) (s_get (ks k0) (s_take (s_take s_nil))))))))))))))))))))))))))⟩ ?_
        rintro mm sh G ⟨z14, z15, z16, z17, z18, z19, z20, z21, z22, c4, c5, z23, b11, v27, g26, v28, g27, v29, g28, v30, g29, b12, v31, g30, v32, g31, v33, g32, v34, g33, b13, v35, g34, v36, g35, v37, g36, v38, g37, b14, v39, g38, v40, g39, v41, g40, b15, b16, b17, b18, b19, rfl, rfl, hm, ho26, ho27, ho28, ho29, ho30, ho31, ho32, ho33, ho34, ho35, ho36, ho37, ho38, ho39, ho40⟩
        obtain ⟨mm1, rfl, hm⟩ := it12_s hm
        refine c_seq ?_
        refine c_seq ?_
        refine c_joinP (n := 0) (fun sh G => sh = [(58, .bool ((decide (c5 < (script.length : Int))) && (decide (c5 < 4398046511104))))] ∧ G = []) Sel.all' .z (fun _ _ h => h) ?_ ?_
        · skip
          refine c_region ?_
          refine o_T (y_move rfl) rfl ?_
          refine o_T (y_move rfl) rfl ?_
          refine o_T (y_lenR hr1 Tryz.underlying22 rfl) rfl ?_
          refine o_T (y_lss rfl rfl) rfl ?_
          refine o_T (y_move rfl) rfl ?_
          refine o_split 55 rfl (fun h5 => ?_) (fun h5 => ?_)
          · skip
            refine o_take rfl rfl rfl ?_
            refine o_T (y_move rfl) rfl ?_
            refine o_take rfl rfl rfl ?_
            refine o_T (y_lss rfl rfl) rfl ?_
            refine o_T (y_pickT rfl rfl) rfl ?_
            refine o_nil1 58 rfl rfl ?_
            refine ⟨_, _, ⟨rfl, rfl⟩, ⟨by first | rfl | exact gtb rfl (by simp only [h5, Bool.true_and, Bool.false_and, Bool.true_or, Bool.false_or, Bool.and_true, Bool.and_false, Bool.or_true, Bool.or_false, Bool.not_true, Bool.not_false]), trivial⟩, ⟨rfl, rfl⟩, _, (s_take (s_take (s_take (s_take (s_take (s_take (s_take (s_take (s_take (s_take (s_take (s_take (s_take (s_take (s_take (s_take (s_take (s_take (s_take (s_take (s_take (s_take (s_take (s_take (s_take (s_take s_nil))))))))))))))))))))))))))⟩
          · skip
            refine o_pass rfl rfl rfl rfl rfl ?_
            refine o_pass rfl rfl rfl rfl rfl ?_
            refine o_T (y_pickF rfl rfl) rfl ?_
            refine o_nil1 58 rfl rfl ?_
            refine ⟨_, _, ⟨rfl, rfl⟩, ⟨by first | rfl | exact gtb rfl (by simp only [h5, Bool.true_and, Bool.false_and, Bool.true_or, Bool.false_or, Bool.and_true, Bool.and_false, Bool.or_true, Bool.or_false, Bool.not_true, Bool.not_false]), trivial⟩, ⟨rfl, rfl⟩, _, (s_take (s_take (s_take (s_take (s_take (s_take (s_take (s_take (s_take (s_take (s_take (s_take (s_take (s_take (s_take (s_take (s_take (s_take (s_take (s_take (s_take (s_take (s_take (s_take (s_take (s_take s_nil))))))))))))))))))))))))))⟩
        · as_aux_lemma =>
          rintro sh G ⟨rfl, rfl⟩
          refine c_cond rfl (fun h6 => ?_) (fun h6 => ?_)
          · have hm := cd_t h6 hm
            refine c_skip ?_
            refine c_seq ?_
            refine c_block ?_
            refine c_seq ?_
            refine c_region ?_
            refine o_T (y_move rfl) rfl ?_
            refine o_T (y_move rfl) rfl ?_
            obtain ⟨x2, hx8, hm⟩ := bd hm
            obtain ⟨b29, w1, cs1, y1, z34, vs1, hc1, ha1, hr2, hy1⟩ := hr1.ix hx8
            obtain rfl : vs1 = Op_.enc x2 := hr2
            refine o_T (hy1 sl_22 rfl rfl rfl) rfl ?_
            refine o_lda ag_44 rfl (ms (ms (ms (ms (ms (ms (ms (ms (ms (ms (ms (ms (ms (ms (ms (ms (ms (ms (ms (ms (ms (ms (ms (ms (ms (mg hc1)))))))))))))))))))))))))) (At.ext (ha1) (Op_.len _)) (At.fit (ha1) (Op_.len _)) rfl ?_
            refine o_alloc ze_44 rfl rfl (fun b30 => ?_)
            obtain ⟨z35, hn2, hm⟩ := nm_s hm
            refine o_stNA ag_44 rfl rfl (Op_.plain _) (Op_.len _) (Upd.refl ((Op_.len _).trans (Op_.len _).symm)) r0 (show (Op_.enc z35) = _ from by subst hn2; rfl) ?_
            refine o_nil0 rfl ?_
            refine c_seq ?_
            refine c_region ?_
            refine o_T (y_fa fl_44_0 rfl) rfl ?_
            refine o_ld one_3 rfl m0 (At.got (At.refl.comp Op_.a_kind)) rfl ?_
            refine o_T (y_neq rfl rfl) rfl ?_
            refine o_nil1 67 rfl rfl ?_
            refine c_cond rfl (fun h7 => ?_) (fun h7 => ?_)
            · have hm := cd_t h7 hm
              refine c_seq ?_
              refine c_region ?_
              refine o_lda ag_37 rfl (ms (ms (ms (ms (ms (ms (ms (ms (ms (ms (ms (ms (ms (ms (ms (ms (ms (ms (ms (ms (ms (ms (ms (ms (ms m0))))))))))))))))))))))))) (At.exs At.refl (Below.len _ _ _ _ _ _ _ _)) (At.fits At.refl (Below.len _ _ _ _ _ _ _ _)) rfl ?_
              obtain ⟨z36, hx9, hm⟩ := bd1 hm
              refine o_callC en_15 rfl (s_skip (s_skip (s_skip (s_skip (s_skip (s_skip (s_skip (s_skip (s_skip (s_skip (s_skip (s_take (s_take (s_take (s_take (s_take s_nil)))))))))))))))) (t15 ho34 ho35 ho36 ho37 hx9) rfl (fun u8 S8 hR8 => ?_)
              obtain ⟨v57, g56, v58, g57, v59, g58, v60, g59, rfl, rfl, ho56, ho57, ho58, ho59⟩ := hR8
              refine o_rest ?_
              refine o_nil0 rfl ?_
              refine c_seq ?_
              refine c_region ?_
              refine o_T (y_move rfl) rfl ?_
              obtain ⟨z37, hx10, hm⟩ := bd1 hm
              refine o_callC en_12 rfl (s_skip (s_skip (s_skip (s_skip (s_skip (s_skip (s_take (s_take (s_take (s_take (s_take s_nil))))))))))) (t12 ho26 ho27 ho28 ho29 hx10) rfl (fun u9 S9 hR9 => ?_)
              obtain ⟨b31, v61, g60, v62, g61, v63, g62, v64, g63, rfl, rfl, ho60, ho61, ho62, ho63⟩ := hR9
              refine o_rest ?_
              refine o_L (y_assign rfl) rfl rfl ?_
              refine o_nil0 rfl ?_
              refine c_seq ?_
              refine c_region ?_
              refine o_lda ag_37 rfl (ms (ms (ms (ms (ms (ms (ms (ms (ms (ms (ms (ms (ms (ms (ms (ms (ms (ms (ms (ms (ms (ms (ms (ms (ms (ms (ms (ms (ms (ms m0)))))))))))))))))))))))))))))) (At.exs At.refl (Below.len _ _ _ _ _ _ _ _)) (At.fits At.refl (Below.len _ _ _ _ _ _ _ _)) rfl ?_
              obtain ⟨c8, hx11, hm⟩ := bd1 hm
              refine o_callC en_16 rfl (s_skip (s_skip (s_skip (s_skip (s_skip (s_skip (s_skip (s_skip (s_skip (s_skip (s_skip (s_skip (s_skip (s_skip (s_skip (s_skip (s_skip (s_skip (s_skip (s_skip (s_skip (s_skip (s_skip (s_skip (s_skip (s_skip (s_skip (s_take s_nil)))))))))))))))))))))))))))) (t16 hx11) rfl (fun u10 S10 hR10 => ?_)
              obtain ⟨rfl, rfl⟩ := hR10
              refine o_rest ?_
              refine o_L (y_assign rfl) rfl rfl ?_
              refine o_nil0 rfl ?_
              refine c_seq ?_
              refine c_region ?_
              refine o_T (y_move rfl) rfl ?_
              obtain ⟨c9, hx12, hm⟩ := bd1 hm
              refine o_callC en_17 rfl (s_skip (s_take (s_take (s_take (s_take (s_take s_nil)))))) (t17 ho26 ho27 ho28 ho29 hx12) rfl (fun u11 S11 hR11 => ?_)
              obtain ⟨rfl, rfl⟩ := hR11
              refine o_rest ?_
              refine o_L (y_assign rfl) rfl rfl ?_
              refine o_nil0 rfl ?_
              refine c_seq ?_
              refine c_region ?_
              refine o_lda ag_37 rfl (ms (ms (ms (ms (ms (ms (ms (ms (ms (ms (ms (ms (ms (ms (ms (ms (ms (ms (ms (ms (ms (ms (ms (ms (ms (ms (ms (ms (ms (ms m0)))))))))))))))))))))))))))))) (At.exs At.refl (Below.len _ _ _ _ _ _ _ _)) (At.fits At.refl (Below.len _ _ _ _ _ _ _ _)) rfl ?_
              refine o_T (y_move rfl) rfl ?_
              refine o_lda ag_44 rfl (ms (ms (ms (ms (ms (ms (ms (ms (ms (ms (ms (ms (ms (ms (ms (ms m0)))))))))))))))) (At.exs At.refl (Op_.len _)) (At.fits At.refl (Op_.len _)) rfl ?_
              refine o_T (y_move rfl) rfl ?_
              obtain ⟨c10, c11, z38, z39, z40, z41, z42, z43, z44, z45, hx13, hm⟩ := bd10 hm
              refine o_callC en_18 rfl (s_get (ks (ks (ks (ks (ks (ks (ks (ks (ks (ks (ks k0))))))))))) (s_get (ks (ks (ks (ks (ks (ks (ks (ks (ks (ks (ks k0))))))))))) (s_get (ks (ks (ks (ks (ks (ks (ks (ks (ks (ks (ks k0))))))))))) (s_get (ks (ks (ks (ks (ks (ks (ks (ks (ks (ks (ks k0))))))))))) (s_get (ks (ks (ks (ks (ks (ks (ks (ks (ks (ks (ks k0))))))))))) (s_get (ks (ks (ks (ks (ks (ks (ks (ks (ks (ks (ks (ks (ks (ks (ks (ks (ks k0))))))))))))))))) (s_get (ks (ks (ks (ks (ks (ks (ks (ks (ks (ks (ks (ks (ks (ks (ks (ks (ks k0))))))))))))))))) (s_get (ks (ks (ks (ks (ks (ks (ks (ks (ks (ks (ks (ks (ks (ks (ks (ks (ks k0))))))))))))))))) (s_get (ks (ks (ks (ks (ks (ks (ks (ks (ks (ks (ks (ks (ks (ks (ks (ks (ks k0))))))))))))))))) (s_get (ks (ks (ks (ks (ks (ks (ks (ks (ks (ks (ks (ks (ks (ks (ks (ks (ks k0))))))))))))))))) (s_get (ks (ks (ks (ks (ks k0))))) (s_get (ks (ks (ks (ks (ks (ks (ks (ks (ks (ks (ks (ks (ks (ks (ks (ks (ks k0))))))))))))))))) (s_get (ks (ks (ks (ks (ks (ks (ks (ks (ks (ks (ks (ks (ks (ks (ks (ks k0)))))))))))))))) (s_get (ks (ks (ks (ks (ks (ks (ks (ks (ks (ks (ks (ks (ks (ks (ks (ks k0)))))))))))))))) (s_take (s_take (s_take (s_take (s_take s_nil))))))))))))))))))) (t18 ho56 ho57 ho58 ho59 ho38 ho39 ho40 ho26 ho27 ho28 ho29 hx13) rfl (fun u12 S12 hR12 => ?_)
              obtain ⟨v65, g64, v66, g65, v67, g66, v68, g67, v69, g68, v70, g69, v71, g70, v72, g71, v73, g72, v74, g73, v75, g74, rfl, rfl, ho64, ho65, ho66, ho67, ho68, ho69, ho70, ho71, ho72, ho73, ho74⟩ := hR12
              refine o_rest ?_
              refine o_T (y_move rfl) rfl ?_
              refine o_T (y_extract rfl rfl) rfl ?_
              refine o_T (y_extract rfl rfl) rfl ?_
              refine o_L (y_assign rfl) rfl rfl ?_
              refine o_L (y_assign rfl) rfl rfl ?_
              refine o_nil0 rfl ?_
              refine c_seq ?_
              refine c_region ?_
              refine o_lda ag_37 rfl (ms (ms (ms (ms (ms (ms (ms (ms (ms (ms (ms (ms (ms (ms (ms (ms (ms (ms (ms (ms (ms (ms (ms (ms (ms (ms (ms (ms (ms (ms m0)))))))))))))))))))))))))))))) (At.exs At.refl (Below.len _ _ _ _ _ _ _ _)) (At.fits At.refl (Below.len _ _ _ _ _ _ _ _)) rfl ?_
              obtain ⟨c12, hx14, hm⟩ := bd1 hm
              refine o_callC en_13 rfl (s_take (s_take (s_take (s_take (s_take s_nil))))) (t13 ho64 ho65 ho66 ho67 hx14) rfl (fun u13 S13 hR13 => ?_)
              obtain ⟨rfl, rfl⟩ := hR13
              refine o_rest ?_
              refine o_L (y_assign rfl) rfl rfl ?_
              refine o_nil0 rfl ?_
              refine c_seq ?_
              refine c_seq ?_
              refine c_region ?_
              refine o_T (y_move rfl) rfl ?_
              refine o_T (y_not rfl) rfl ?_
              refine o_nil1 87 rfl rfl ?_
              refine c_cond rfl (fun h8 => ?_) (fun h8 => ?_)
              · have hm := cd_t h8 hm
                refine c_seq ?_
                refine c_region ?_
                refine o_T (y_move rfl) rfl ?_
                refine o_T (y_move rfl) rfl ?_
                refine o_L (y_assign rfl) rfl rfl ?_
                refine o_L (y_assign rfl) rfl rfl ?_
                refine o_nil0 rfl ?_
                refine c_ret ?_
                obtain ⟨q3, hq3, hm⟩ := bd hm
                have hm := fl_ret hm hF4
                have hm := hq3.trans hm
                obtain ⟨rfl, rfl⟩ := pr2 hm
                refine fun aX wX heX hsX => ret2 Tryz.results7 heX rfl rfl (s_skip (s_skip (s_skip (s_skip (s_skip (s_skip (s_skip (s_skip (s_skip (s_skip (s_skip (s_skip (s_skip (s_skip (s_skip (s_skip (s_skip (s_skip (s_skip (s_skip (s_skip (s_skip (s_skip (s_skip (s_skip (s_skip (s_skip (s_skip (s_skip (s_skip (s_skip (s_take s_nil)))))))))))))))))))))))))))))))) ?_
                exact ⟨rfl, rfl⟩
              · have hm := cd_f h8 hm
                refine c_skip ?_
                refine c_seq ?_
                refine c_region ?_
                refine o_T (y_move rfl) rfl ?_
                obtain ⟨c13, hx15, hm⟩ := bd1 hm
                refine o_callC en_17 rfl (s_skip (s_skip (s_skip (s_skip (s_skip (s_skip (s_skip (s_skip (s_skip (s_skip (s_skip (s_skip (s_skip (s_skip (s_take (s_take (s_take (s_take (s_take s_nil))))))))))))))))))) (t17 ho71 ho72 ho73 ho74 hx15) rfl (fun u14 S14 hR14 => ?_)
                obtain ⟨rfl, rfl⟩ := hR14
                refine o_rest ?_
                refine o_L (y_assign rfl) rfl rfl ?_
                refine o_nil0 rfl ?_
                refine c_seq ?_
                refine c_region ?_
                refine o_T (y_move rfl) rfl ?_
                refine o_T (y_move rfl) rfl ?_
                refine o_T (y_sub rfl rfl rfl) rfl ?_
                refine o_L (y_assign rfl) rfl rfl ?_
                refine o_nil0 rfl ?_
                refine c_seq ?_
                refine c_seq ?_
                refine c_region ?_
                refine o_T (y_fa fl_44_0 rfl) rfl ?_
                refine o_ld one_3 rfl (ms (ms (ms (ms (ms (ms (ms (ms (ms (ms (ms (ms (ms (ms (ms (ms (ms (ms (ms (ms (ms (ms (ms (ms m0)))))))))))))))))))))))) (At.got (At.refl.comp Op_.a_kind)) rfl ?_
                refine o_T (y_eql rfl rfl) rfl ?_
                refine o_nil1 97 rfl rfl ?_
                obtain ⟨c14, hj3, hm⟩ := bd1 hm
                refine c_joinP (n := 0) (fun sh G => sh = [(21, .int .i64 c14)] ∧ G = []) (s_take (s_take (s_take (s_take (s_take (s_take (s_take (s_take (s_take (s_take (s_take (s_take (s_take (s_take (s_take (s_take (s_take (s_take (s_take (s_take (s_take (s_take (s_take (s_take (s_take (s_skip (s_skip (s_skip (s_skip (s_skip (s_take (s_take s_nil)))))))))))))))))))))))))))))))) .z (fun _ _ h => h) ?_ ?_
                · as_aux_lemma =>
                  have hm := hj3
                  refine c_cond rfl (fun h9 => ?_) (fun h9 => ?_)
                  · have hm := cd_t h9 hm
                    refine c_region ?_
                    refine o_L (y_assign rfl) rfl rfl ?_
                    refine o_nil0 rfl ?_
                    obtain rfl := p1 hm
                    exact ⟨_, _, ⟨rfl, rfl⟩, ⟨rfl, trivial⟩, ⟨rfl, rfl⟩, _, (s_take (s_take (s_take (s_take (s_take (s_take (s_take (s_take (s_take (s_take (s_take (s_take (s_take (s_take (s_take (s_take (s_take (s_take (s_take (s_take (s_take (s_take (s_take (s_take (s_take (s_skip (s_skip (s_skip (s_skip (s_skip (s_take (s_take s_nil))))))))))))))))))))))))))))))))⟩
                  · have hm := cd_f h9 hm
                    refine c_skip ?_
                    obtain rfl := p1 hm
                    exact ⟨_, _, ⟨rfl, rfl⟩, ⟨rfl, trivial⟩, ⟨rfl, rfl⟩, _, (s_take (s_take (s_take (s_take (s_take (s_take (s_take (s_take (s_take (s_take (s_take (s_take (s_take (s_take (s_take (s_take (s_take (s_take (s_take (s_take (s_take (s_take (s_take (s_take (s_take (s_skip (s_skip (s_skip (s_skip (s_skip (s_take (s_take s_nil))))))))))))))))))))))))))))))))⟩
                · as_aux_lemma =>
                  rintro sh G ⟨rfl, rfl⟩
                  refine c_seq ?_
                  refine c_region ?_
                  refine o_lda ag_37 rfl (ms (ms (ms (ms (ms (ms (ms (ms (ms (ms (ms (ms (ms (ms (ms (ms (ms (ms (ms (ms (ms (ms (ms (ms (ms m0))))))))))))))))))))))))) (At.exs At.refl (Below.len _ _ _ _ _ _ _ _)) (At.fits At.refl (Below.len _ _ _ _ _ _ _ _)) rfl ?_
                  obtain ⟨c15, hx16, hm⟩ := bd1 hm
                  refine o_callC en_16 rfl (s_skip (s_skip (s_skip (s_skip (s_skip (s_skip (s_skip (s_skip (s_skip (s_skip (s_skip (s_skip (s_skip (s_skip (s_skip (s_take s_nil)))))))))))))))) (t16 hx16) rfl (fun u15 S15 hR15 => ?_)
                  obtain ⟨rfl, rfl⟩ := hR15
                  refine o_rest ?_
                  refine o_L (y_assign rfl) rfl rfl ?_
                  refine o_nil0 rfl ?_
                  refine c_seq ?_
                  refine c_seq ?_
                  refine c_region ?_
                  refine o_T (y_move rfl) rfl ?_
                  refine o_nil1 100 rfl rfl ?_
                  obtain ⟨f3, F3, hF5, hj4, hF6⟩ := fl2 hm
                  refine c_joinP (n := 5) (fun sh G => ∃ (z46 : RepoM), ∃ (b32 : Nat), ∃ (v76 : Value), ∃ (g75 : List Chunk), ∃ (v77 : Value), ∃ (g76 : List Chunk), ∃ (v78 : Value), ∃ (g77 : List Chunk), ∃ (v79 : Value), ∃ (g78 : List Chunk), sh = [(9, .pointer (some ⟨b32, 0, none⟩))] ∧ G = [[(b32, .cells (RepoM.enc (v76) (v77) (v78) (v79) z46).toArray 59 (0, 0))], g75, g76, g77, g78] ∧ F3 z46 = some f2 ∧ Own rNode v76 z46.nodes g75 ∧ Own rRef_ v77 z46.refs g76 ∧ Own rFile v78 z46.index g77 ∧ Own rFile v79 z46.work g78) (s_get (ks k0) (s_get (ks k0) (s_get (ks k0) (s_get (ks k0) (s_get (ks k0) (s_take (s_take (s_take (s_take (s_take (s_take (s_take (s_take (s_take (s_take (s_take (s_take (s_take (s_take (s_take (s_take (s_take (s_take (s_take (s_take (s_take (s_take s_nil))))))))))))))))))))))))))) (.s (.s (.s (.s (.s .z))))) (fun _ _ h => h) ?_ ?_
                  · as_aux_lemma =>
                    have hm := hj4
                    refine c_cond rfl (fun h10 => ?_) (fun h10 => ?_)
                    · have hm := cd_t h10 hm
                      refine c_seq ?_
                      refine c_seq ?_
                      refine c_region ?_
                      refine o_T (y_move rfl) rfl ?_
                      refine o_T (y_move rfl) rfl ?_
                      refine o_T (y_geq rfl rfl) rfl ?_
                      refine o_nil1 103 rfl rfl ?_
                      refine c_cond rfl (fun h11 => ?_) (fun h11 => ?_)
                      · have hm := cd_t h11 hm
                        refine c_seq ?_
                        refine c_region ?_
                        refine o_T (y_move rfl) rfl ?_
                        refine o_T (y_move rfl) rfl ?_
                        refine o_L (y_assign rfl) rfl rfl ?_
                        refine o_L (y_assign rfl) rfl rfl ?_
                        refine o_nil0 rfl ?_
                        refine c_ret ?_
                        obtain ⟨q4, hq4, hm⟩ := bd hm
                        have hm := fl_ret hm hF6
                        have hm := hq4.trans hm
                        obtain ⟨q5, hq5, hm⟩ := bd hm
                        have hm := fl_ret hm hF4
                        have hm := hq5.trans hm
                        obtain ⟨rfl, rfl⟩ := pr2 hm
                        refine fun aX wX heX hsX => ret2 Tryz.results7 heX rfl rfl (s_skip (s_skip (s_skip (s_skip (s_skip (s_skip (s_skip (s_skip (s_skip (s_skip (s_skip (s_skip (s_skip (s_skip (s_skip (s_skip (s_skip (s_skip (s_skip (s_skip (s_skip (s_skip (s_skip (s_skip (s_skip (s_skip (s_take s_nil))))))))))))))))))))))))))) ?_
                        exact ⟨rfl, rfl⟩
                      · have hm := cd_f h11 hm
                        refine c_skip ?_
                        refine c_seq ?_
                        refine c_seq ?_
                        refine c_region ?_
                        refine o_T (y_move rfl) rfl ?_
                        refine o_T (y_move rfl) rfl ?_
                        refine o_T (y_neq rfl rfl) rfl ?_
                        refine o_nil1 108 rfl rfl ?_
                        refine c_cond rfl (fun h12 => ?_) (fun h12 => ?_)
                        · have hm := cd_t h12 hm
                          refine c_seq ?_
                          refine c_region ?_
                          refine o_T (y_move rfl) rfl ?_
                          refine o_T (y_move rfl) rfl ?_
                          refine o_L (y_assign rfl) rfl rfl ?_
                          refine o_L (y_assign rfl) rfl rfl ?_
                          refine o_nil0 rfl ?_
                          refine c_ret ?_
                          obtain ⟨q6, hq6, hm⟩ := bd hm
                          have hm := fl_ret hm hF6
                          have hm := hq6.trans hm
                          obtain ⟨q7, hq7, hm⟩ := bd hm
                          have hm := fl_ret hm hF4
                          have hm := hq7.trans hm
                          obtain ⟨rfl, rfl⟩ := pr2 hm
                          refine fun aX wX heX hsX => ret2 Tryz.results7 heX rfl rfl (s_skip (s_skip (s_skip (s_skip (s_skip (s_skip (s_skip (s_skip (s_skip (s_skip (s_skip (s_skip (s_skip (s_skip (s_skip (s_skip (s_skip (s_skip (s_skip (s_skip (s_skip (s_skip (s_skip (s_skip (s_skip (s_skip (s_take s_nil))))))))))))))))))))))))))) ?_
                          exact ⟨rfl, rfl⟩
                        · have hm := cd_f h12 hm
                          refine c_skip ?_
                          refine c_region ?_
                          refine o_T (y_move rfl) rfl ?_
                          obtain ⟨z47, hx17, hm⟩ := bd1 hm
                          refine o_callC en_12 rfl (s_skip (s_skip (s_skip (s_skip (s_skip (s_skip (s_skip (s_skip (s_skip (s_skip (s_skip (s_skip (s_skip (s_skip (s_skip (s_skip (s_skip (s_skip (s_skip (s_take (s_take (s_take (s_take (s_take s_nil)))))))))))))))))))))))) (t12 ho60 ho61 ho62 ho63 hx17) rfl (fun u16 S16 hR16 => ?_)
                          obtain ⟨b33, v80, g79, v81, g80, v82, g81, v83, g82, rfl, rfl, ho79, ho80, ho81, ho82⟩ := hR16
                          refine o_rest ?_
                          refine o_L (y_assign rfl) rfl rfl ?_
                          refine o_nil0 rfl ?_
                          have hm := fl_nx hm hF6
                          exact ⟨_, _, ⟨_, b33, v80, _, v81, _, v82, _, v83, _, rfl, rfl, hm, ho79, ho80, ho81, ho82⟩, ⟨rfl, trivial⟩, ⟨rfl, rfl⟩, _, (s_get (ks (ks (ks (ks (ks k0))))) (s_get (ks (ks (ks (ks (ks k0))))) (s_get (ks (ks (ks (ks (ks k0))))) (s_get (ks (ks (ks (ks (ks k0))))) (s_get (ks (ks (ks (ks (ks k0))))) (s_get (ks (ks (ks (ks (ks k0))))) (s_get (ks (ks (ks (ks (ks (ks (ks (ks (ks (ks k0)))))))))) (s_get (ks (ks (ks (ks (ks (ks (ks (ks (ks (ks k0)))))))))) (s_get (ks (ks (ks (ks (ks (ks (ks (ks (ks (ks k0)))))))))) (s_get (ks (ks (ks (ks (ks (ks (ks (ks (ks (ks k0)))))))))) (s_get (ks (ks (ks (ks (ks (ks (ks (ks (ks (ks k0)))))))))) (s_get (ks (ks (ks (ks (ks (ks (ks (ks (ks (ks k0)))))))))) (s_get (ks (ks (ks (ks (ks (ks (ks (ks (ks (ks k0)))))))))) (s_get (ks (ks (ks (ks (ks (ks (ks (ks (ks (ks k0)))))))))) (s_get (ks (ks (ks (ks (ks (ks (ks (ks (ks (ks k0)))))))))) (s_get (ks (ks (ks (ks (ks (ks (ks (ks (ks (ks k0)))))))))) (s_get (ks (ks (ks (ks (ks (ks (ks (ks (ks (ks k0)))))))))) (s_get (ks (ks (ks (ks (ks (ks (ks (ks (ks (ks k0)))))))))) (s_get (ks (ks (ks (ks (ks (ks (ks (ks (ks (ks k0)))))))))) (s_take (s_take (s_take (s_take (s_take (s_skip (s_skip (s_skip (s_skip (s_skip (s_take (s_take (s_take s_nil))))))))))))))))))))))))))))))))⟩
                    · have hm := cd_f h10 hm
                      refine c_seq ?_
                      refine c_joinP (n := 0) (fun sh G => sh = [(122, .bool ((decide (¬ (z35.kind = 12))) && (decide (c14 < (wi (c8 - c15))))))] ∧ G = []) Sel.all' .z (fun _ _ h => h) ?_ ?_
                      · skip
                        refine c_region ?_
                        refine o_T (y_fa fl_44_0 rfl) rfl ?_
                        refine o_ld one_3 rfl (ms (ms (ms (ms (ms (ms (ms (ms (ms (ms (ms (ms (ms (ms (ms (ms (ms (ms (ms (ms (ms (ms (ms (ms m0)))))))))))))))))))))))) (At.got (At.refl.comp Op_.a_kind)) rfl ?_
                        refine o_T (y_neq rfl rfl) rfl ?_
                        refine o_T (y_move rfl) rfl ?_
                        refine o_split 116 rfl (fun h13 => ?_) (fun h13 => ?_)
                        · skip
                          refine o_take rfl rfl rfl ?_
                          refine o_T (y_move rfl) rfl ?_
                          refine o_take rfl rfl rfl ?_
                          refine o_T (y_move rfl) rfl ?_
                          refine o_take rfl rfl rfl ?_
                          refine o_T (y_sub rfl rfl rfl) rfl ?_
                          refine o_take rfl rfl rfl ?_
                          refine o_T (y_move rfl) rfl ?_
                          refine o_take rfl rfl rfl ?_
                          refine o_T (y_gtr rfl rfl) rfl ?_
                          refine o_T (y_pickT rfl rfl) rfl ?_
                          refine o_nil1 122 rfl rfl ?_
                          refine ⟨_, _, ⟨rfl, rfl⟩, ⟨by first | rfl | exact gtb rfl (by simp only [h13, Bool.true_and, Bool.false_and, Bool.true_or, Bool.false_or, Bool.and_true, Bool.and_false, Bool.or_true, Bool.or_false, Bool.not_true, Bool.not_false]), trivial⟩, ⟨rfl, rfl⟩, _, (s_take (s_take (s_take (s_take (s_take (s_take (s_take (s_take (s_take (s_take (s_take (s_take (s_take (s_take (s_take (s_take (s_take (s_take (s_take (s_take (s_take (s_take (s_take (s_take (s_take (s_take (s_take s_nil)))))))))))))))))))))))))))⟩
                        · skip
                          refine o_pass rfl rfl rfl rfl rfl ?_
                          refine o_pass rfl rfl rfl rfl rfl ?_
                          refine o_pass rfl rfl rfl rfl rfl ?_
                          refine o_pass rfl rfl rfl rfl rfl ?_
                          refine o_pass rfl rfl rfl rfl rfl ?_
                          refine o_T (y_pickF rfl rfl) rfl ?_
                          refine o_nil1 122 rfl rfl ?_
                          refine ⟨_, _, ⟨rfl, rfl⟩, ⟨by first | rfl | exact gtb rfl (by simp only [h13, Bool.true_and, Bool.false_and, Bool.true_or, Bool.false_or, Bool.and_true, Bool.and_false, Bool.or_true, Bool.or_false, Bool.not_true, Bool.not_false]), trivial⟩, ⟨rfl, rfl⟩, _, (s_take (s_take (s_take (s_take (s_take (s_take (s_take (s_take (s_take (s_take (s_take (s_take (s_take (s_take (s_take (s_take (s_take (s_take (s_take (s_take (s_take (s_take (s_take (s_take (s_take (s_take (s_take s_nil)))))))))))))))))))))))))))⟩
                      · as_aux_lemma =>
                        rintro sh G ⟨rfl, rfl⟩
                        refine c_cond rfl (fun h14 => ?_) (fun h14 => ?_)
                        · have hm := cd_t h14 hm
                          refine c_seq ?_
                          refine c_region ?_
                          refine o_T (y_move rfl) rfl ?_
                          refine o_T (y_move rfl) rfl ?_
                          refine o_L (y_assign rfl) rfl rfl ?_
                          refine o_L (y_assign rfl) rfl rfl ?_
                          refine o_nil0 rfl ?_
                          refine c_ret ?_
                          obtain ⟨q8, hq8, hm⟩ := bd hm
                          have hm := fl_ret hm hF6
                          have hm := hq8.trans hm
                          obtain ⟨q9, hq9, hm⟩ := bd hm
                          have hm := fl_ret hm hF4
                          have hm := hq9.trans hm
                          obtain ⟨rfl, rfl⟩ := pr2 hm
                          refine fun aX wX heX hsX => ret2 Tryz.results7 heX rfl rfl (s_skip (s_skip (s_skip (s_skip (s_skip (s_skip (s_skip (s_skip (s_skip (s_skip (s_skip (s_skip (s_skip (s_skip (s_skip (s_skip (s_skip (s_skip (s_skip (s_skip (s_skip (s_skip (s_skip (s_skip (s_skip (s_skip (s_take s_nil))))))))))))))))))))))))))) ?_
                          exact ⟨rfl, rfl⟩
                        · have hm := cd_f h14 hm
                          refine c_skip ?_
                          have hm := fl_nx hm hF6
                          exact ⟨_, _, ⟨_, b11, v72, _, v73, _, v74, _, v75, _, rfl, rfl, hm, ho71, ho72, ho73, ho74⟩, ⟨rfl, trivial⟩, ⟨rfl, rfl⟩, _, (s_get (ks k0) (s_get (ks k0) (s_get (ks k0) (s_get (ks k0) (s_get (ks k0) (s_take (s_take (s_take (s_take (s_take (s_take (s_take (s_take (s_take (s_take (s_take (s_take (s_take (s_take (s_take (s_take (s_take (s_take (s_take (s_take (s_take (s_take s_nil)))))))))))))))))))))))))))⟩
                  · as_aux_lemma =>
                    rintro sh G ⟨z46, b32, v76, g75, v77, g76, v78, g77, v79, g78, rfl, rfl, hm, ho75, ho76, ho77, ho78⟩
                    subst hF5
                    refine c_seq ?_
                    refine c_seq ?_
                    refine c_region ?_
                    refine o_T (y_fa fl_44_0 rfl) rfl ?_
                    refine o_ld one_3 rfl (ms (ms (ms (ms (ms (ms (ms (ms (ms (ms (ms (ms (ms (ms (ms (ms (ms (ms (ms (ms (ms (ms (ms (ms m0)))))))))))))))))))))))) (At.got (At.refl.comp Op_.a_kind)) rfl ?_
                    obtain ⟨c16, hx18, hm⟩ := bd1 hm
                    refine o_callC en_19 rfl s_nil (t19 hx18) rfl (fun u17 S17 hR17 => ?_)
                    obtain ⟨rfl, rfl⟩ := hR17
                    refine o_rest ?_
                    refine o_T (y_not rfl) rfl ?_
                    refine o_nil1 128 rfl rfl ?_
                    obtain ⟨c17, hj5, hm⟩ := bd1 hm
                    refine c_joinP (n := 0) (fun sh G => sh = [(11, .bool c17)] ∧ G = []) (s_take (s_take (s_take (s_take (s_take (s_take (s_take (s_take (s_take (s_take (s_take (s_take (s_take (s_take (s_take (s_take (s_take (s_take (s_take (s_take (s_take (s_take (s_take (s_take (s_skip (s_take (s_take s_nil))))))))))))))))))))))))))) .z (fun _ _ h => h) ?_ ?_
                    · as_aux_lemma =>
                      have hm := hj5
                      refine c_cond rfl (fun h15 => ?_) (fun h15 => ?_)
                      · have hm := cd_t h15 hm
                        refine c_joinEnd (fun sh G => sh = [(11, .bool ((decide (z35.kind = 12)) && (!c11)))] ∧ G = []) (fun _ _ h => h) rfl ?_ ?_
                        · skip
                          refine c_region ?_
                          refine o_T (y_fa fl_44_0 rfl) rfl ?_
                          refine o_ld one_3 rfl (ms (ms (ms (ms (ms (ms (ms (ms (ms (ms (ms (ms (ms (ms (ms (ms (ms (ms (ms (ms (ms (ms (ms (ms m0)))))))))))))))))))))))) (At.got (At.refl.comp Op_.a_kind)) rfl ?_
                          refine o_T (y_eql rfl rfl) rfl ?_
                          refine o_T (y_move rfl) rfl ?_
                          refine o_split 132 rfl (fun h16 => ?_) (fun h16 => ?_)
                          · skip
                            refine o_take rfl rfl rfl ?_
                            refine o_T (y_move rfl) rfl ?_
                            refine o_take rfl rfl rfl ?_
                            refine o_T (y_not rfl) rfl ?_
                            refine o_T (y_pickT rfl rfl) rfl ?_
                            refine o_L (y_assign rfl) rfl rfl ?_
                            refine o_nil0 rfl ?_
                            refine ⟨_, _, ⟨rfl, rfl⟩, ⟨by first | rfl | exact gtb rfl (by simp only [h16, Bool.true_and, Bool.false_and, Bool.true_or, Bool.false_or, Bool.and_true, Bool.and_false, Bool.or_true, Bool.or_false, Bool.not_true, Bool.not_false]), trivial⟩, ⟨rfl, rfl⟩, _, (s_take (s_take (s_take (s_take (s_take (s_take (s_take (s_take (s_take (s_take (s_take (s_take (s_take (s_take (s_take (s_take (s_take (s_take (s_take (s_take (s_take (s_take (s_take (s_take (s_take (s_take (s_take s_nil)))))))))))))))))))))))))))⟩
                          · skip
                            refine o_pass rfl rfl rfl rfl rfl ?_
                            refine o_pass rfl rfl rfl rfl rfl ?_
                            refine o_T (y_pickF rfl rfl) rfl ?_
                            refine o_L (y_assign rfl) rfl rfl ?_
                            refine o_nil0 rfl ?_
                            refine ⟨_, _, ⟨rfl, rfl⟩, ⟨by first | rfl | exact gtb rfl (by simp only [h16, Bool.true_and, Bool.false_and, Bool.true_or, Bool.false_or, Bool.and_true, Bool.and_false, Bool.or_true, Bool.or_false, Bool.not_true, Bool.not_false]), trivial⟩, ⟨rfl, rfl⟩, _, (s_take (s_take (s_take (s_take (s_take (s_take (s_take (s_take (s_take (s_take (s_take (s_take (s_take (s_take (s_take (s_take (s_take (s_take (s_take (s_take (s_take (s_take (s_take (s_take (s_take (s_take (s_take s_nil)))))))))))))))))))))))))))⟩
                        · as_aux_lemma =>
                          rintro sh G ⟨rfl, rfl⟩
                          obtain rfl := p1 hm
                          exact ⟨_, _, ⟨rfl, rfl⟩, ⟨rfl, trivial⟩, ⟨rfl, rfl⟩, _, (s_take (s_take (s_take (s_take (s_take (s_take (s_take (s_take (s_take (s_take (s_take (s_take (s_take (s_take (s_take (s_take (s_take (s_take (s_take (s_take (s_take (s_take (s_take (s_take (s_skip (s_take (s_take s_nil)))))))))))))))))))))))))))⟩
                      · have hm := cd_f h15 hm
                        refine c_skip ?_
                        obtain rfl := p1 hm
                        exact ⟨_, _, ⟨rfl, rfl⟩, ⟨rfl, trivial⟩, ⟨rfl, rfl⟩, _, (s_take (s_take (s_take (s_take (s_take (s_take (s_take (s_take (s_take (s_take (s_take (s_take (s_take (s_take (s_take (s_take (s_take (s_take (s_take (s_take (s_take (s_take (s_take (s_take (s_skip (s_take (s_take s_nil)))))))))))))))))))))))))))⟩
                    · as_aux_lemma =>
                      rintro sh G ⟨rfl, rfl⟩
                      refine c_seq ?_
                      refine c_seq ?_
                      refine c_region ?_
                      refine o_lda ag_37 rfl (ms (ms (ms (ms (ms (ms (ms (ms (ms (ms (ms (ms (ms (ms (ms (ms (ms (ms (ms (ms (ms (ms (ms (ms m0)))))))))))))))))))))))) (At.exs At.refl (Below.len _ _ _ _ _ _ _ _)) (At.fits At.refl (Below.len _ _ _ _ _ _ _ _)) rfl ?_
                      refine o_T (y_move rfl) rfl ?_
                      refine o_T (y_move rfl) rfl ?_
                      obtain ⟨c18, hx19, hm⟩ := bd1 hm
                      refine o_callC en_20 rfl (s_get (ks (ks (ks (ks (ks k0))))) (s_take (s_take (s_take (s_take (s_take s_nil)))))) (t20 ho75 ho76 ho77 ho78 hx19) rfl (fun u18 S18 hR18 => ?_)
                      obtain ⟨rfl, rfl⟩ := hR18
                      refine o_rest ?_
                      refine o_T (y_not rfl) rfl ?_
                      refine o_nil1 140 rfl rfl ?_
                      refine c_cond rfl (fun h17 => ?_) (fun h17 => ?_)
                      · have hm := cd_t h17 hm
                        refine c_seq ?_
                        refine c_region ?_
                        refine o_T (y_move rfl) rfl ?_
                        refine o_T (y_move rfl) rfl ?_
                        refine o_L (y_assign rfl) rfl rfl ?_
                        refine o_L (y_assign rfl) rfl rfl ?_
                        refine o_nil0 rfl ?_
                        refine c_ret ?_
                        obtain ⟨q10, hq10, hm⟩ := bd hm
                        have hm := fl_ret hm hF4
                        have hm := hq10.trans hm
                        obtain ⟨rfl, rfl⟩ := pr2 hm
                        refine fun aX wX heX hsX => ret2 Tryz.results7 heX rfl rfl (s_skip (s_skip (s_skip (s_skip (s_skip (s_skip (s_skip (s_skip (s_skip (s_skip (s_skip (s_skip (s_skip (s_skip (s_skip (s_skip (s_skip (s_skip (s_skip (s_skip (s_skip (s_skip (s_skip (s_skip (s_skip (s_take s_nil)))))))))))))))))))))))))) ?_
                        exact ⟨rfl, rfl⟩
                      · have hm := cd_f h17 hm
                        refine c_skip ?_
                        refine c_seq ?_
                        refine c_region ?_
                        refine o_T (y_move rfl) rfl ?_
                        refine o_T (y_not rfl) rfl ?_
                        refine o_nil1 144 rfl rfl ?_
                        refine c_cond rfl (fun h18 => ?_) (fun h18 => ?_)
                        · have hm := cd_t h18 hm
                          refine c_seq ?_
                          refine c_seq ?_
                          refine c_region ?_
                          refine o_lda ag_37 rfl (ms (ms (ms (ms (ms (ms (ms (ms (ms (ms (ms (ms (ms (ms (ms (ms (ms (ms (ms (ms (ms (ms (ms (ms m0)))))))))))))))))))))))) (At.exs At.refl (Below.len _ _ _ _ _ _ _ _)) (At.fits At.refl (Below.len _ _ _ _ _ _ _ _)) rfl ?_
                          refine o_T (y_move rfl) rfl ?_
                          refine o_T (y_move rfl) rfl ?_
                          obtain ⟨c19, z48, hx20, hm⟩ := bd2 hm
                          refine o_callC en_14 rfl (s_get (ks (ks (ks (ks (ks (ks k0)))))) (s_get (ks (ks (ks (ks (ks (ks k0)))))) (s_get (ks (ks (ks (ks (ks (ks k0)))))) (s_get (ks (ks (ks (ks (ks (ks k0)))))) (s_get (ks (ks (ks (ks (ks (ks k0)))))) (s_get (ks (ks (ks (ks (ks (ks k0)))))) (s_get (ks (ks (ks (ks (ks (ks k0)))))) (s_get (ks (ks (ks (ks (ks (ks k0)))))) (s_get (ks (ks (ks (ks (ks (ks k0)))))) (s_get (ks (ks (ks (ks (ks (ks k0)))))) (s_take (s_get (ks (ks (ks (ks (ks k0))))) (s_get (ks (ks (ks (ks (ks k0))))) (s_get (ks (ks (ks (ks (ks k0))))) (s_take (s_take (s_take (s_take (s_take s_nil))))))))))))))))))) (t14 ho64 ho65 ho66 ho67 ho68 ho69 ho70 ho75 ho76 ho77 ho78 hx20) rfl (fun u19 S19 hR19 => ?_)
                          obtain ⟨v84, g83, v85, g84, v86, g85, rfl, rfl, ho83, ho84, ho85⟩ := hR19
                          refine o_rest ?_
                          refine o_T (y_not rfl) rfl ?_
                          refine o_nil1 149 rfl rfl ?_
                          refine c_cond rfl (fun h19 => ?_) (fun h19 => ?_)
                          · have hm := cd_t h19 hm
                            refine c_seq ?_
                            refine c_region ?_
                            refine o_T (y_move rfl) rfl ?_
                            refine o_T (y_move rfl) rfl ?_
                            refine o_L (y_assign rfl) rfl rfl ?_
                            refine o_L (y_assign rfl) rfl rfl ?_
                            refine o_nil0 rfl ?_
                            refine c_ret ?_
                            obtain ⟨q11, hq11, hm⟩ := bd hm
                            have hm := fl_ret hm hF4
                            have hm := hq11.trans hm
                            obtain ⟨rfl, rfl⟩ := pr2 hm
                            refine fun aX wX heX hsX => ret2 Tryz.results7 heX rfl rfl (s_skip (s_skip (s_skip (s_skip (s_skip (s_skip (s_skip (s_skip (s_skip (s_skip (s_skip (s_skip (s_skip (s_skip (s_skip (s_skip (s_skip (s_skip (s_skip (s_skip (s_skip (s_skip (s_skip (s_skip (s_skip (s_take s_nil)))))))))))))))))))))))))) ?_
                            exact ⟨rfl, rfl⟩
                          · have hm := cd_f h19 hm
                            refine c_skip ?_
                            refine c_seq ?_
                            refine c_region ?_
                            refine o_lda ag_37 rfl (ms (ms (ms (ms (ms (ms (ms (ms (ms (ms (ms (ms (ms (ms (ms (ms (ms (ms (ms (ms (ms (ms (ms (ms m0)))))))))))))))))))))))) (At.exs At.refl (Below.len _ _ _ _ _ _ _ _)) (At.fits At.refl (Below.len _ _ _ _ _ _ _ _)) rfl ?_
                            obtain ⟨c20, hx21, hm⟩ := bd1 hm
                            refine o_callC en_13 rfl (s_take (s_take (s_take (s_take (s_take s_nil))))) (t13 ho64 ho65 ho66 ho67 hx21) rfl (fun u20 S20 hR20 => ?_)
                            obtain ⟨rfl, rfl⟩ := hR20
                            refine o_rest ?_
                            refine o_T (y_move rfl) rfl ?_
                            refine o_T (y_neq rfl rfl) rfl ?_
                            refine o_nil1 155 rfl rfl ?_
                            refine c_cond rfl (fun h20 => ?_) (fun h20 => ?_)
                            · have hm := cd_t h20 hm
                              refine c_seq ?_
                              refine c_region ?_
                              refine o_T (y_move rfl) rfl ?_
                              refine o_T (y_move rfl) rfl ?_
                              refine o_L (y_assign rfl) rfl rfl ?_
                              refine o_L (y_assign rfl) rfl rfl ?_
                              refine o_nil0 rfl ?_
                              refine c_ret ?_
                              obtain ⟨q12, hq12, hm⟩ := bd hm
                              have hm := fl_ret hm hF4
                              have hm := hq12.trans hm
                              obtain ⟨rfl, rfl⟩ := pr2 hm
                              refine fun aX wX heX hsX => ret2 Tryz.results7 heX rfl rfl (s_skip (s_skip (s_skip (s_skip (s_skip (s_skip (s_skip (s_skip (s_skip (s_skip (s_skip (s_skip (s_skip (s_skip (s_skip (s_skip (s_skip (s_skip (s_skip (s_skip (s_skip (s_skip (s_skip (s_skip (s_skip (s_take s_nil)))))))))))))))))))))))))) ?_
                              exact ⟨rfl, rfl⟩
                            · have hm := cd_f h20 hm
                              refine c_skip ?_
                              refine c_region ?_
                              refine o_T (y_move rfl) rfl ?_
                              refine o_T (y_add rfl rfl rfl) rfl ?_
                              refine o_L (y_assign rfl) rfl rfl ?_
                              refine o_nil0 rfl ?_
                              exact ⟨mm1, Nat.lt_succ_self _, _, _, ⟨_, _, _, _, _, _, _, _, _, _, _, _, b32, v76, _, v77, _, v78, _, v79, _, b31, v61, _, v62, _, v63, _, v64, _, b13, v65, _, v66, _, v67, _, v68, _, b14, v84, _, v85, _, v86, _, b15, b16, b17, b18, b19, rfl, rfl, hm, ho75, ho76, ho77, ho78, ho60, ho61, ho62, ho63, ho64, ho65, ho66, ho67, ho83, ho84, ho85⟩, ⟨rfl, rfl, rfl, rfl, trivial⟩, ⟨rfl, rfl⟩, _, (s_get (ks (ks (ks (ks (ks (ks (ks (ks (ks (ks (ks (ks (ks (ks k0)))))))))))))) (s_get (ks (ks (ks (ks (ks (ks (ks (ks (ks (ks (ks (ks (ks (ks k0)))))))))))))) (s_get (ks (ks (ks (ks (ks (ks (ks (ks (ks (ks (ks (ks (ks (ks k0)))))))))))))) (s_get (ks (ks (ks (ks (ks (ks (ks (ks (ks (ks (ks (ks (ks (ks k0)))))))))))))) (s_get (ks (ks (ks (ks (ks (ks (ks (ks (ks (ks (ks (ks (ks (ks k0)))))))))))))) (s_get (ks (ks (ks (ks (ks (ks (ks (ks (ks (ks (ks (ks (ks (ks k0)))))))))))))) (s_get (ks (ks (ks (ks (ks (ks (ks (ks (ks (ks (ks (ks (ks (ks k0)))))))))))))) (s_get (ks (ks (ks (ks (ks (ks (ks (ks (ks (ks (ks (ks (ks (ks k0)))))))))))))) (s_get (ks (ks (ks (ks (ks (ks (ks (ks (ks (ks (ks (ks (ks (ks k0)))))))))))))) (s_get (ks (ks (ks (ks (ks (ks (ks (ks (ks (ks (ks (ks (ks (ks k0)))))))))))))) (s_take (s_take (s_take (s_take (s_take (s_take (s_take (s_take (s_take (s_take (s_get (ks (ks k0)) (s_take (s_take (s_take (s_take (s_take s_nil))))))))))))))))))))))))))⟩
                        · have hm := cd_f h18 hm
                          refine c_skip ?_
                          refine c_region ?_
                          refine o_T (y_move rfl) rfl ?_
                          refine o_T (y_add rfl rfl rfl) rfl ?_
                          refine o_L (y_assign rfl) rfl rfl ?_
                          refine o_nil0 rfl ?_
                          exact ⟨mm1, Nat.lt_succ_self _, _, _, ⟨_, _, _, _, _, _, _, _, _, _, _, _, b32, v76, _, v77, _, v78, _, v79, _, b31, v61, _, v62, _, v63, _, v64, _, b13, v65, _, v66, _, v67, _, v68, _, b14, v69, _, v70, _, v71, _, b15, b16, b17, b18, b19, rfl, rfl, hm, ho75, ho76, ho77, ho78, ho60, ho61, ho62, ho63, ho64, ho65, ho66, ho67, ho68, ho69, ho70⟩, ⟨rfl, rfl, rfl, rfl, trivial⟩, ⟨rfl, rfl⟩, _, (s_get (ks k0) (s_get (ks k0) (s_get (ks k0) (s_get (ks k0) (s_get (ks k0) (s_get (ks (ks (ks (ks (ks (ks (ks (ks (ks (ks (ks (ks (ks (ks k0)))))))))))))) (s_get (ks (ks (ks (ks (ks (ks (ks (ks (ks (ks (ks (ks (ks (ks k0)))))))))))))) (s_get (ks (ks (ks (ks (ks (ks (ks (ks (ks (ks (ks (ks (ks (ks k0)))))))))))))) (s_get (ks (ks (ks (ks (ks (ks (ks (ks (ks (ks (ks (ks (ks (ks k0)))))))))))))) (s_get (ks (ks (ks (ks (ks (ks (ks (ks (ks (ks (ks (ks (ks (ks k0)))))))))))))) (s_get (ks k0) (s_get (ks k0) (s_get (ks k0) (s_get (ks k0) (s_get (ks k0) (s_get (ks k0) (s_get (ks k0) (s_get (ks k0) (s_get (ks k0) (s_get (ks k0) (s_get (ks (ks k0)) (s_take (s_take (s_take (s_take (s_take s_nil))))))))))))))))))))))))))⟩
            · have hm := cd_f h7 hm
              refine c_seq ?_
              refine c_region ?_
              refine o_T (y_move rfl) rfl ?_
              refine o_T (y_not rfl) rfl ?_
              refine o_nil1 159 rfl rfl ?_
              refine c_cond rfl (fun h21 => ?_) (fun h21 => ?_)
              · have hm := cd_t h21 hm
                refine c_seq ?_
                refine c_region ?_
                refine o_lda ag_37 rfl (ms (ms (ms (ms (ms (ms (ms (ms (ms (ms (ms (ms (ms (ms (ms (ms (ms (ms (ms (ms (ms (ms (ms (ms (ms m0))))))))))))))))))))))))) (At.exs At.refl (Below.len _ _ _ _ _ _ _ _)) (At.fits At.refl (Below.len _ _ _ _ _ _ _ _)) rfl ?_
                obtain ⟨c21, hx22, hm⟩ := bd1 hm
                refine o_callC en_13 rfl (s_skip (s_skip (s_skip (s_skip (s_skip (s_skip (s_skip (s_skip (s_skip (s_skip (s_skip (s_take (s_take (s_take (s_take (s_take s_nil)))))))))))))))) (t13 ho34 ho35 ho36 ho37 hx22) rfl (fun u21 S21 hR21 => ?_)
                obtain ⟨rfl, rfl⟩ := hR21
                refine o_rest ?_
                refine o_L (y_assign rfl) rfl rfl ?_
                refine o_nil0 rfl ?_
                refine c_seq ?_
                refine c_region ?_
                refine o_lda ag_37 rfl (ms (ms (ms (ms (ms (ms (ms (ms (ms (ms (ms (ms (ms (ms (ms (ms (ms (ms (ms (ms (ms (ms (ms (ms (ms m0))))))))))))))))))))))))) (At.exs At.refl (Below.len _ _ _ _ _ _ _ _)) (At.fits At.refl (Below.len _ _ _ _ _ _ _ _)) rfl ?_
                refine o_alloc ze_37 rfl rfl (fun b34 => ?_)
                obtain ⟨z49, hn3, hm⟩ := nm_s hm
                refine o_stNA ag_37 rfl rfl (Below.plain rfl rfl rfl rfl rfl rfl rfl _) (Below.len _ _ _ _ _ _ _ _) (Upd.refl ((Below.len _ _ _ _ _ _ _ _).trans (Below.len _ _ _ _ _ _ _ _).symm)) r0 (show (Below.enc (.pointer (some ⟨b13, 0, none⟩)) (.pointer (some ⟨b17, 0, none⟩)) (.pointer (some ⟨b16, 0, none⟩)) (.pointer (some ⟨b15, 0, none⟩)) (.pointer (some ⟨b19, 0, none⟩)) (.pointer (some ⟨b14, 0, none⟩)) (.pointer (some ⟨b18, 0, none⟩)) z49) = _ from by subst hn3; rfl) ?_
                refine o_nil0 rfl ?_
                refine c_seq ?_
                refine c_region ?_
                refine o_lda ag_37 rfl m0 (At.exs At.refl (Below.len _ _ _ _ _ _ _ _)) (At.fits At.refl (Below.len _ _ _ _ _ _ _ _)) rfl ?_
                refine o_T (y_fa fl_44_1 rfl) rfl ?_
                refine o_ld one_3 rfl (ms (ms (ms (ms (ms (ms m0)))))) (At.got (At.refl.comp Op_.a_a)) rfl ?_
                obtain ⟨x3, z50, z51, z52, z53, z54, z55, z56, hx23, hm⟩ := bd8 hm
                refine o_callC en_21 rfl (s_skip (s_take (s_take (s_take (s_take (s_take s_nil)))))) (t21 ho34 ho35 ho36 ho37 hx23) rfl (fun u22 S22 hR22 => ?_)
                obtain ⟨b35, v87, g86, v88, g87, v89, g88, v90, g89, b36, b37, b38, b39, b40, v91, g90, v92, g91, v93, g92, b41, rfl, rfl, ho86, ho87, ho88, ho89, ho90, ho91, ho92⟩ := hR22
                refine o_rest ?_
                obtain ⟨z57, hn4, hm⟩ := nm_s hm
                refine o_stNA ag_37 rfl rfl (Below.plain rfl rfl rfl rfl rfl rfl rfl _) (Below.len _ _ _ _ _ _ _ _) (Upd.refl ((Below.len _ _ _ _ _ _ _ _).trans (Below.len _ _ _ _ _ _ _ _).symm)) (rs (rs (rs (rs (rs (rs (rs (rs (rs (rs (rs (rs (rs (rs (rs (rs (rs (rs (rs (rs (rs (rs (rs (rs (rs (rs (rs (rs (rs (rs (rs (rs (rs (rs (rs (rs (rs (rs (rs (rs r0)))))))))))))))))))))))))))))))))))))))) (show (Below.enc (.pointer (some ⟨b35, 0, none⟩)) (.pointer (some ⟨b36, 0, none⟩)) (.pointer (some ⟨b37, 0, none⟩)) (.pointer (some ⟨b38, 0, none⟩)) (.pointer (some ⟨b39, 0, none⟩)) (.pointer (some ⟨b40, 0, none⟩)) (.pointer (some ⟨b41, 0, none⟩)) z57) = _ from by subst hn4; rfl) ?_
                refine o_nil0 rfl ?_
                refine c_seq ?_
                refine c_region ?_
                refine o_lda ag_37 rfl (ms (ms (ms (ms (ms (ms (ms (ms (ms (ms (ms (ms (ms (ms (ms (ms (ms (ms (ms (ms (ms (ms (ms (ms (ms (ms (ms (ms (ms (ms (ms (ms (ms (ms (ms (ms (ms (ms (ms (ms m0)))))))))))))))))))))))))))))))))))))))) (At.exs At.refl (Below.len _ _ _ _ _ _ _ _)) (At.fits At.refl (Below.len _ _ _ _ _ _ _ _)) rfl ?_
                obtain ⟨c22, hx24, hm⟩ := bd1 hm
                refine o_callC en_13 rfl (s_skip (s_skip (s_skip (s_skip (s_skip (s_take (s_take (s_take (s_take (s_take s_nil)))))))))) (t13 ho86 ho87 ho88 ho89 hx24) rfl (fun u23 S23 hR23 => ?_)
                obtain ⟨rfl, rfl⟩ := hR23
                refine o_rest ?_
                refine o_L (y_assign rfl) rfl rfl ?_
                refine o_nil0 rfl ?_
                refine c_seq ?_
                refine c_seq ?_
                refine c_joinP (n := 0) (fun sh G => sh = [(174, .bool (z57.rooted && (decide (¬ (c22 = 0)))))] ∧ G = []) Sel.all' .z (fun _ _ h => h) ?_ ?_
                · skip
                  refine c_region ?_
                  refine o_T (y_fa fl_37_2 rfl) rfl ?_
                  refine o_ld one_4 rfl (ms (ms (ms (ms (ms (ms (ms (ms (ms (ms (ms (ms (ms (ms (ms (ms (ms (ms (ms (ms (ms (ms (ms (ms (ms (ms (ms (ms (ms (ms (ms (ms (ms (ms (ms (ms (ms (ms (ms (ms m0)))))))))))))))))))))))))))))))))))))))) (At.got (At.refl.comp Below.a_rooted)) rfl ?_
                  refine o_T (y_move rfl) rfl ?_
                  refine o_split 171 rfl (fun h22 => ?_) (fun h22 => ?_)
                  · skip
                    refine o_take rfl rfl rfl ?_
                    refine o_T (y_move rfl) rfl ?_
                    refine o_take rfl rfl rfl ?_
                    refine o_T (y_neq rfl rfl) rfl ?_
                    refine o_T (y_pickT rfl rfl) rfl ?_
                    refine o_nil1 174 rfl rfl ?_
                    refine ⟨_, _, ⟨rfl, rfl⟩, ⟨by first | rfl | exact gtb rfl (by simp only [h22, Bool.true_and, Bool.false_and, Bool.true_or, Bool.false_or, Bool.and_true, Bool.and_false, Bool.or_true, Bool.or_false, Bool.not_true, Bool.not_false]), trivial⟩, ⟨rfl, rfl⟩, _, (s_take (s_take (s_take (s_take (s_take (s_take (s_take (s_take (s_take (s_take (s_take (s_take (s_take (s_take (s_take (s_take (s_take (s_take (s_take (s_take (s_take (s_take (s_take (s_take (s_take (s_take (s_take (s_take (s_take (s_take (s_take (s_take (s_take (s_take (s_take (s_take (s_take (s_take (s_take (s_take (s_take (s_take s_nil))))))))))))))))))))))))))))))))))))))))))⟩
                  · skip
                    refine o_pass rfl rfl rfl rfl rfl ?_
                    refine o_pass rfl rfl rfl rfl rfl ?_
                    refine o_T (y_pickF rfl rfl) rfl ?_
                    refine o_nil1 174 rfl rfl ?_
                    refine ⟨_, _, ⟨rfl, rfl⟩, ⟨by first | rfl | exact gtb rfl (by simp only [h22, Bool.true_and, Bool.false_and, Bool.true_or, Bool.false_or, Bool.and_true, Bool.and_false, Bool.or_true, Bool.or_false, Bool.not_true, Bool.not_false]), trivial⟩, ⟨rfl, rfl⟩, _, (s_take (s_take (s_take (s_take (s_take (s_take (s_take (s_take (s_take (s_take (s_take (s_take (s_take (s_take (s_take (s_take (s_take (s_take (s_take (s_take (s_take (s_take (s_take (s_take (s_take (s_take (s_take (s_take (s_take (s_take (s_take (s_take (s_take (s_take (s_take (s_take (s_take (s_take (s_take (s_take (s_take (s_take s_nil))))))))))))))))))))))))))))))))))))))))))⟩
                · as_aux_lemma =>
                  rintro sh G ⟨rfl, rfl⟩
                  refine c_cond rfl (fun h23 => ?_) (fun h23 => ?_)
                  · have hm := cd_t h23 hm
                    refine c_seq ?_
                    refine c_region ?_
                    refine o_T (y_move rfl) rfl ?_
                    refine o_T (y_move rfl) rfl ?_
                    refine o_L (y_assign rfl) rfl rfl ?_
                    refine o_L (y_assign rfl) rfl rfl ?_
                    refine o_nil0 rfl ?_
                    refine c_ret ?_
                    obtain ⟨q13, hq13, hm⟩ := bd hm
                    have hm := fl_ret hm hF4
                    have hm := hq13.trans hm
                    obtain ⟨rfl, rfl⟩ := pr2 hm
                    refine fun aX wX heX hsX => ret2 Tryz.results7 heX rfl rfl (s_skip (s_skip (s_skip (s_skip (s_skip (s_skip (s_skip (s_skip (s_skip (s_skip (s_skip (s_skip (s_skip (s_skip (s_skip (s_skip (s_skip (s_skip (s_skip (s_skip (s_skip (s_skip (s_skip (s_skip (s_skip (s_skip (s_skip (s_skip (s_skip (s_skip (s_skip (s_skip (s_skip (s_skip (s_skip (s_skip (s_skip (s_skip (s_skip (s_skip (s_skip (s_take s_nil)))))))))))))))))))))))))))))))))))))))))) ?_
                    exact ⟨rfl, rfl⟩
                  · have hm := cd_f h23 hm
                    refine c_skip ?_
                    refine c_seq ?_
                    refine c_seq ?_
                    refine c_joinP (n := 0) (fun sh G => sh = [(183, .bool ((!z57.rooted) && (decide (¬ (c22 = 3)))))] ∧ G = []) Sel.all' .z (fun _ _ h => h) ?_ ?_
                    · skip
                      refine c_region ?_
                      refine o_T (y_fa fl_37_2 rfl) rfl ?_
                      refine o_ld one_4 rfl (ms (ms (ms (ms (ms (ms (ms (ms (ms (ms (ms (ms (ms (ms (ms (ms (ms (ms (ms (ms (ms (ms (ms (ms (ms (ms (ms (ms (ms (ms (ms (ms (ms (ms (ms (ms (ms (ms (ms (ms m0)))))))))))))))))))))))))))))))))))))))) (At.got (At.refl.comp Below.a_rooted)) rfl ?_
                      refine o_T (y_not rfl) rfl ?_
                      refine o_T (y_move rfl) rfl ?_
                      refine o_split 180 rfl (fun h24 => ?_) (fun h24 => ?_)
                      · skip
                        refine o_take rfl rfl rfl ?_
                        refine o_T (y_move rfl) rfl ?_
                        refine o_take rfl rfl rfl ?_
                        refine o_T (y_neq rfl rfl) rfl ?_
                        refine o_T (y_pickT rfl rfl) rfl ?_
                        refine o_nil1 183 rfl rfl ?_
                        refine ⟨_, _, ⟨rfl, rfl⟩, ⟨by first | rfl | exact gtb rfl (by simp only [h24, Bool.true_and, Bool.false_and, Bool.true_or, Bool.false_or, Bool.and_true, Bool.and_false, Bool.or_true, Bool.or_false, Bool.not_true, Bool.not_false]), trivial⟩, ⟨rfl, rfl⟩, _, (s_take (s_take (s_take (s_take (s_take (s_take (s_take (s_take (s_take (s_take (s_take (s_take (s_take (s_take (s_take (s_take (s_take (s_take (s_take (s_take (s_take (s_take (s_take (s_take (s_take (s_take (s_take (s_take (s_take (s_take (s_take (s_take (s_take (s_take (s_take (s_take (s_take (s_take (s_take (s_take (s_take (s_take s_nil))))))))))))))))))))))))))))))))))))))))))⟩
                      · skip
                        refine o_pass rfl rfl rfl rfl rfl ?_
                        refine o_pass rfl rfl rfl rfl rfl ?_
                        refine o_T (y_pickF rfl rfl) rfl ?_
                        refine o_nil1 183 rfl rfl ?_
                        refine ⟨_, _, ⟨rfl, rfl⟩, ⟨by first | rfl | exact gtb rfl (by simp only [h24, Bool.true_and, Bool.false_and, Bool.true_or, Bool.false_or, Bool.and_true, Bool.and_false, Bool.or_true, Bool.or_false, Bool.not_true, Bool.not_false]), trivial⟩, ⟨rfl, rfl⟩, _, (s_take (s_take (s_take (s_take (s_take (s_take (s_take (s_take (s_take (s_take (s_take (s_take (s_take (s_take (s_take (s_take (s_take (s_take (s_take (s_take (s_take (s_take (s_take (s_take (s_take (s_take (s_take (s_take (s_take (s_take (s_take (s_take (s_take (s_take (s_take (s_take (s_take (s_take (s_take (s_take (s_take (s_take s_nil))))))))))))))))))))))))))))))))))))))))))⟩
                    · as_aux_lemma =>
                      rintro sh G ⟨rfl, rfl⟩
                      refine c_cond rfl (fun h25 => ?_) (fun h25 => ?_)
                      · have hm := cd_t h25 hm
                        refine c_seq ?_
                        refine c_region ?_
                        refine o_T (y_move rfl) rfl ?_
                        refine o_T (y_move rfl) rfl ?_
                        refine o_L (y_assign rfl) rfl rfl ?_
                        refine o_L (y_assign rfl) rfl rfl ?_
                        refine o_nil0 rfl ?_
                        refine c_ret ?_
                        obtain ⟨q14, hq14, hm⟩ := bd hm
                        have hm := fl_ret hm hF4
                        have hm := hq14.trans hm
                        obtain ⟨rfl, rfl⟩ := pr2 hm
                        refine fun aX wX heX hsX => ret2 Tryz.results7 heX rfl rfl (s_skip (s_skip (s_skip (s_skip (s_skip (s_skip (s_skip (s_skip (s_skip (s_skip (s_skip (s_skip (s_skip (s_skip (s_skip (s_skip (s_skip (s_skip (s_skip (s_skip (s_skip (s_skip (s_skip (s_skip (s_skip (s_skip (s_skip (s_skip (s_skip (s_skip (s_skip (s_skip (s_skip (s_skip (s_skip (s_skip (s_skip (s_skip (s_skip (s_skip (s_skip (s_take s_nil)))))))))))))))))))))))))))))))))))))))))) ?_
                        exact ⟨rfl, rfl⟩
                      · have hm := cd_f h25 hm
                        refine c_skip ?_
                        refine c_seq ?_
                        refine c_region ?_
                        refine o_T (y_move rfl) rfl ?_
                        obtain ⟨z58, hx25, hm⟩ := bd1 hm
                        refine o_callC en_22 rfl (s_skip (s_skip (s_skip (s_skip (s_skip (s_skip (s_skip (s_skip (s_skip (s_skip (s_skip (s_skip (s_skip (s_skip (s_skip (s_skip (s_skip (s_skip (s_skip (s_skip (s_skip (s_skip (s_skip (s_skip (s_skip (s_skip (s_take (s_take (s_take (s_take (s_take s_nil))))))))))))))))))))))))))))))) (t22 ho30 ho31 ho32 ho33 hx25) rfl (fun u24 S24 hR24 => ?_)
                        obtain ⟨b42, v94, g93, v95, g94, v96, g95, v97, g96, rfl, rfl, ho93, ho94, ho95, ho96⟩ := hR24
                        refine o_rest ?_
                        refine o_L (y_assign rfl) rfl rfl ?_
                        refine o_nil0 rfl ?_
                        refine c_seq ?_
                        refine c_region ?_
                        refine o_T (y_move rfl) rfl ?_
                        obtain ⟨z59, hx26, hm⟩ := bd1 hm
                        refine o_callC en_22 rfl (s_skip (s_skip (s_skip (s_skip (s_skip (s_skip (s_skip (s_skip (s_skip (s_skip (s_skip (s_skip (s_skip (s_skip (s_skip (s_skip (s_skip (s_skip (s_skip (s_skip (s_skip (s_skip (s_skip (s_skip (s_skip (s_skip (s_skip (s_skip (s_skip (s_skip (s_skip (s_take (s_take (s_take (s_take (s_take s_nil)))))))))))))))))))))))))))))))))))) (t22 ho26 ho27 ho28 ho29 hx26) rfl (fun u25 S25 hR25 => ?_)
                        obtain ⟨b43, v98, g97, v99, g98, v100, g99, v101, g100, rfl, rfl, ho97, ho98, ho99, ho100⟩ := hR25
                        refine o_rest ?_
                        refine o_L (y_assign rfl) rfl rfl ?_
                        refine o_nil0 rfl ?_
                        refine c_seq ?_
                        refine c_region ?_
                        refine o_lda ag_37 rfl (ms (ms (ms (ms (ms (ms (ms (ms (ms (ms (ms (ms (ms (ms (ms (ms (ms (ms (ms (ms (ms (ms (ms (ms (ms (ms (ms (ms (ms (ms (ms (ms (ms (ms (ms (ms (ms (ms (ms (ms (ms (ms (ms (ms (ms (ms (ms (ms (ms (ms m0)))))))))))))))))))))))))))))))))))))))))))))))))) (At.exs At.refl (Below.len _ _ _ _ _ _ _ _)) (At.fits At.refl (Below.len _ _ _ _ _ _ _ _)) rfl ?_
                        refine o_T (y_move rfl) rfl ?_
                        obtain ⟨c23, z60, hx27, hm⟩ := bd2 hm
                        refine o_callC en_14 rfl (s_skip (s_skip (s_skip (s_skip (s_skip (s_skip (s_skip (s_skip (s_skip (s_skip (s_skip (s_skip (s_skip (s_skip (s_skip (s_get (ks (ks (ks (ks (ks k0))))) (s_get (ks (ks (ks (ks (ks k0))))) (s_get (ks (ks (ks (ks (ks k0))))) (s_get (ks (ks (ks (ks (ks k0))))) (s_get (ks (ks (ks (ks (ks k0))))) (s_get (ks (ks (ks (ks (ks (ks (ks (ks (ks (ks (ks (ks (ks (ks k0)))))))))))))) (s_get (ks (ks (ks (ks (ks (ks (ks (ks (ks (ks (ks (ks (ks (ks k0)))))))))))))) (s_get (ks (ks (ks (ks (ks (ks (ks (ks (ks (ks (ks (ks (ks (ks k0)))))))))))))) (s_get (ks (ks (ks (ks (ks (ks (ks (ks (ks (ks (ks (ks (ks (ks k0)))))))))))))) (s_get (ks (ks (ks (ks (ks (ks (ks (ks (ks (ks (ks (ks k0)))))))))))) (s_get (ks (ks (ks (ks (ks (ks (ks (ks (ks (ks k0)))))))))) (s_get (ks (ks (ks (ks (ks (ks (ks (ks (ks (ks (ks (ks k0)))))))))))) (s_get (ks (ks (ks (ks (ks (ks (ks (ks (ks (ks k0)))))))))) (s_get (ks (ks (ks (ks (ks (ks (ks (ks (ks (ks k0)))))))))) (s_take (s_take (s_take (s_take (s_take s_nil)))))))))))))))))))))))))))))))))) (t14 ho86 ho87 ho88 ho89 ho90 ho91 ho92 ho93 ho94 ho95 ho96 hx27) rfl (fun u26 S26 hR26 => ?_)
                        obtain ⟨v102, g101, v103, g102, v104, g103, rfl, rfl, ho101, ho102, ho103⟩ := hR26
                        refine o_rest ?_
                        refine o_L (y_assign rfl) rfl rfl ?_
                        refine o_nil0 rfl ?_
                        refine c_seq ?_
                        refine c_region ?_
                        refine o_lda ag_37 rfl (ms (ms (ms (ms (ms (ms (ms (ms (ms (ms (ms (ms (ms (ms (ms (ms (ms (ms (ms (ms (ms (ms (ms (ms (ms (ms (ms (ms (ms (ms (ms (ms (ms (ms (ms (ms (ms (ms (ms (ms (ms (ms (ms (ms (ms (ms (ms (ms (ms (ms m0)))))))))))))))))))))))))))))))))))))))))))))))))) (At.exs At.refl (Below.len _ _ _ _ _ _ _ _)) (At.fits At.refl (Below.len _ _ _ _ _ _ _ _)) rfl ?_
                        refine o_T (y_move rfl) rfl ?_
                        refine o_T (y_move rfl) rfl ?_
                        obtain ⟨c24, z61, hx28, hm⟩ := bd2 hm
                        refine o_callC en_14 rfl (s_take (s_take (s_take (s_take (s_take (s_take (s_take (s_take (s_take (s_take (s_take (s_take (s_take (s_take (s_skip (s_skip (s_skip (s_skip (s_skip (s_skip (s_skip (s_skip (s_skip (s_skip (s_take (s_take (s_take (s_take (s_take s_nil))))))))))))))))))))))))))))) (t14 ho86 ho87 ho88 ho89 ho101 ho102 ho103 ho97 ho98 ho99 ho100 hx28) rfl (fun u27 S27 hR27 => ?_)
                        obtain ⟨v105, g104, v106, g105, v107, g106, rfl, rfl, ho104, ho105, ho106⟩ := hR27
                        refine o_rest ?_
                        refine o_L (y_assign rfl) rfl rfl ?_
                        refine o_nil0 rfl ?_
                        refine c_seq ?_
                        refine c_seq ?_
                        refine c_region ?_
                        refine o_lda ag_37 rfl (ms (ms (ms (ms (ms (ms (ms (ms (ms (ms (ms (ms (ms (ms (ms (ms (ms (ms (ms (ms (ms (ms (ms (ms (ms (ms (ms (ms (ms (ms (ms (ms (ms (ms (ms (ms (ms (ms (ms (ms (ms (ms (ms (ms (ms (ms (ms (ms (ms (ms m0)))))))))))))))))))))))))))))))))))))))))))))))))) (At.exs At.refl (Below.len _ _ _ _ _ _ _ _)) (At.fits At.refl (Below.len _ _ _ _ _ _ _ _)) rfl ?_
                        obtain ⟨c25, hx29, hm⟩ := bd1 hm
                        refine o_callC en_13 rfl (s_take (s_take (s_take (s_take (s_take s_nil))))) (t13 ho86 ho87 ho88 ho89 hx29) rfl (fun u28 S28 hR28 => ?_)
                        obtain ⟨rfl, rfl⟩ := hR28
                        refine o_rest ?_
                        refine o_T (y_move rfl) rfl ?_
                        refine o_T (y_neq rfl rfl) rfl ?_
                        refine o_nil1 200 rfl rfl ?_
                        refine c_cond rfl (fun h26 => ?_) (fun h26 => ?_)
                        · have hm := cd_t h26 hm
                          refine c_seq ?_
                          refine c_region ?_
                          refine o_T (y_move rfl) rfl ?_
                          refine o_T (y_move rfl) rfl ?_
                          refine o_L (y_assign rfl) rfl rfl ?_
                          refine o_L (y_assign rfl) rfl rfl ?_
                          refine o_nil0 rfl ?_
                          refine c_ret ?_
                          obtain ⟨q15, hq15, hm⟩ := bd hm
                          have hm := fl_ret hm hF4
                          have hm := hq15.trans hm
                          obtain ⟨rfl, rfl⟩ := pr2 hm
                          refine fun aX wX heX hsX => ret2 Tryz.results7 heX rfl rfl (s_skip (s_skip (s_skip (s_skip (s_skip (s_skip (s_skip (s_skip (s_skip (s_skip (s_skip (s_skip (s_skip (s_skip (s_skip (s_skip (s_skip (s_skip (s_skip (s_skip (s_skip (s_skip (s_skip (s_skip (s_skip (s_skip (s_skip (s_skip (s_skip (s_skip (s_skip (s_skip (s_skip (s_skip (s_skip (s_skip (s_skip (s_skip (s_skip (s_skip (s_skip (s_skip (s_skip (s_skip (s_skip (s_skip (s_skip (s_skip (s_skip (s_skip (s_skip (s_take s_nil)))))))))))))))))))))))))))))))))))))))))))))))))))) ?_
                          exact ⟨rfl, rfl⟩
                        · have hm := cd_f h26 hm
                          refine c_skip ?_
                          refine c_seq ?_
                          refine c_seq ?_
                          refine c_joinP (n := 0) (fun sh G => sh = [(208, .bool ((!c23) && (!c24)))] ∧ G = []) Sel.all' .z (fun _ _ h => h) ?_ ?_
                          · skip
                            refine c_region ?_
                            refine o_T (y_move rfl) rfl ?_
                            refine o_T (y_not rfl) rfl ?_
                            refine o_T (y_move rfl) rfl ?_
                            refine o_split 205 rfl (fun h27 => ?_) (fun h27 => ?_)
                            · skip
                              refine o_take rfl rfl rfl ?_
                              refine o_T (y_move rfl) rfl ?_
                              refine o_take rfl rfl rfl ?_
                              refine o_T (y_not rfl) rfl ?_
                              refine o_T (y_pickT rfl rfl) rfl ?_
                              refine o_nil1 208 rfl rfl ?_
                              refine ⟨_, _, ⟨rfl, rfl⟩, ⟨by first | rfl | exact gtb rfl (by simp only [h27, Bool.true_and, Bool.false_and, Bool.true_or, Bool.false_or, Bool.and_true, Bool.and_false, Bool.or_true, Bool.or_false, Bool.not_true, Bool.not_false]), trivial⟩, ⟨rfl, rfl⟩, _, (s_take (s_take (s_take (s_take (s_take (s_take (s_take (s_take (s_take (s_take (s_take (s_take (s_take (s_take (s_take (s_take (s_take (s_take (s_take (s_take (s_take (s_take (s_take (s_take (s_take (s_take (s_take (s_take (s_take (s_take (s_take (s_take (s_take (s_take (s_take (s_take (s_take (s_take (s_take (s_take (s_take (s_take (s_take (s_take (s_take (s_take (s_take (s_take (s_take (s_take (s_take (s_take s_nil))))))))))))))))))))))))))))))))))))))))))))))))))))⟩
                            · skip
                              refine o_pass rfl rfl rfl rfl rfl ?_
                              refine o_pass rfl rfl rfl rfl rfl ?_
                              refine o_T (y_pickF rfl rfl) rfl ?_
                              refine o_nil1 208 rfl rfl ?_
                              refine ⟨_, _, ⟨rfl, rfl⟩, ⟨by first | rfl | exact gtb rfl (by simp only [h27, Bool.true_and, Bool.false_and, Bool.true_or, Bool.false_or, Bool.and_true, Bool.and_false, Bool.or_true, Bool.or_false, Bool.not_true, Bool.not_false]), trivial⟩, ⟨rfl, rfl⟩, _, (s_take (s_take (s_take (s_take (s_take (s_take (s_take (s_take (s_take (s_take (s_take (s_take (s_take (s_take (s_take (s_take (s_take (s_take (s_take (s_take (s_take (s_take (s_take (s_take (s_take (s_take (s_take (s_take (s_take (s_take (s_take (s_take (s_take (s_take (s_take (s_take (s_take (s_take (s_take (s_take (s_take (s_take (s_take (s_take (s_take (s_take (s_take (s_take (s_take (s_take (s_take (s_take s_nil))))))))))))))))))))))))))))))))))))))))))))))))))))⟩
                          · as_aux_lemma =>
                            rintro sh G ⟨rfl, rfl⟩
                            refine c_cond rfl (fun h28 => ?_) (fun h28 => ?_)
                            · have hm := cd_t h28 hm
                              refine c_seq ?_
                              refine c_region ?_
                              refine o_T (y_move rfl) rfl ?_
                              refine o_T (y_move rfl) rfl ?_
                              refine o_L (y_assign rfl) rfl rfl ?_
                              refine o_L (y_assign rfl) rfl rfl ?_
                              refine o_nil0 rfl ?_
                              refine c_ret ?_
                              obtain ⟨q16, hq16, hm⟩ := bd hm
                              have hm := fl_ret hm hF4
                              have hm := hq16.trans hm
                              obtain ⟨rfl, rfl⟩ := pr2 hm
                              refine fun aX wX heX hsX => ret2 Tryz.results7 heX rfl rfl (s_skip (s_skip (s_skip (s_skip (s_skip (s_skip (s_skip (s_skip (s_skip (s_skip (s_skip (s_skip (s_skip (s_skip (s_skip (s_skip (s_skip (s_skip (s_skip (s_skip (s_skip (s_skip (s_skip (s_skip (s_skip (s_skip (s_skip (s_skip (s_skip (s_skip (s_skip (s_skip (s_skip (s_skip (s_skip (s_skip (s_skip (s_skip (s_skip (s_skip (s_skip (s_skip (s_skip (s_skip (s_skip (s_skip (s_skip (s_skip (s_skip (s_skip (s_skip (s_take s_nil)))))))))))))))))))))))))))))))))))))))))))))))))))) ?_
                              exact ⟨rfl, rfl⟩
                            · have hm := cd_f h28 hm
                              refine c_skip ?_
                              refine c_seq ?_
                              refine c_seq ?_
                              refine c_joinP (n := 0) (fun sh G => sh = [(223, .bool (((decide (z35.a ≤ 0)) || (decide (z35.a < c21))) && (!c23)))] ∧ G = []) Sel.all' .z (fun _ _ h => h) ?_ ?_
                              · skip
                                refine c_region ?_
                                refine o_T (y_fa fl_44_1 rfl) rfl ?_
                                refine o_ld one_3 rfl (ms (ms (ms (ms (ms (ms (ms (ms (ms (ms (ms (ms (ms (ms (ms (ms (ms (ms (ms (ms (ms (ms (ms (ms (ms (ms (ms (ms (ms (ms (ms (ms (ms (ms (ms (ms (ms (ms (ms (ms m0)))))))))))))))))))))))))))))))))))))))) (At.got (At.refl.comp Op_.a_a)) rfl ?_
                                refine o_T (y_leq rfl rfl) rfl ?_
                                refine o_T (y_move rfl) rfl ?_
                                refine o_split 214 rfl (fun h29 => ?_) (fun h29 => ?_)
                                · skip
                                  refine o_pass rfl rfl rfl rfl rfl ?_
                                  refine o_pass rfl rfl rfl rfl rfl ?_
                                  refine o_pass rfl rfl rfl rfl rfl ?_
                                  refine o_pass rfl rfl rfl rfl rfl ?_
                                  refine o_T (y_pickT rfl rfl) rfl ?_
                                  refine o_T (y_move rfl) rfl ?_
                                  refine o_take rfl rfl rfl ?_
                                  refine o_T (y_move rfl) rfl ?_
                                  refine o_take rfl rfl rfl ?_
                                  refine o_T (y_not rfl) rfl ?_
                                  refine o_T (y_pickT rfl rfl) rfl ?_
                                  refine o_nil1 223 rfl rfl ?_
                                  refine ⟨_, _, ⟨rfl, rfl⟩, ⟨by first | rfl | exact gtb rfl (by simp only [h29, Bool.true_and, Bool.false_and, Bool.true_or, Bool.false_or, Bool.and_true, Bool.and_false, Bool.or_true, Bool.or_false, Bool.not_true, Bool.not_false]), trivial⟩, ⟨rfl, rfl⟩, _, (s_take (s_take (s_take (s_take (s_take (s_take (s_take (s_take (s_take (s_take (s_take (s_take (s_take (s_take (s_take (s_take (s_take (s_take (s_take (s_take (s_take (s_take (s_take (s_take (s_take (s_take (s_take (s_take (s_take (s_take (s_take (s_take (s_take (s_take (s_take (s_take (s_take (s_take (s_take (s_take (s_take (s_take (s_take (s_take (s_take (s_take (s_take (s_take (s_take (s_take (s_take (s_take s_nil))))))))))))))))))))))))))))))))))))))))))))))))))))⟩
                                · skip
                                  refine o_take rfl rfl rfl ?_
                                  refine o_T (y_fa fl_44_1 rfl) rfl ?_
                                  refine o_take rfl rfl rfl ?_
                                  refine o_ld one_3 rfl (ms (ms (ms (ms (ms (ms (ms (ms (ms (ms (ms (ms (ms (ms (ms (ms (ms (ms (ms (ms (ms (ms (ms (ms (ms (ms (ms (ms (ms (ms (ms (ms (ms (ms (ms (ms (ms (ms (ms (ms m0)))))))))))))))))))))))))))))))))))))))) (At.got (At.refl.comp Op_.a_a)) rfl ?_
                                  refine o_take rfl rfl rfl ?_
                                  refine o_T (y_move rfl) rfl ?_
                                  refine o_take rfl rfl rfl ?_
                                  refine o_T (y_lss rfl rfl) rfl ?_
                                  refine o_T (y_pickF rfl rfl) rfl ?_
                                  refine o_T (y_move rfl) rfl ?_
                                  refine o_split 220 rfl (fun h30 => ?_) (fun h30 => ?_)
                                  · skip
                                    refine o_take rfl rfl rfl ?_
                                    refine o_T (y_move rfl) rfl ?_
                                    refine o_take rfl rfl rfl ?_
                                    refine o_T (y_not rfl) rfl ?_
                                    refine o_T (y_pickT rfl rfl) rfl ?_
                                    refine o_nil1 223 rfl rfl ?_
                                    refine ⟨_, _, ⟨rfl, rfl⟩, ⟨by first | rfl | exact gtb rfl (by simp only [h29, h30, Bool.true_and, Bool.false_and, Bool.true_or, Bool.false_or, Bool.and_true, Bool.and_false, Bool.or_true, Bool.or_false, Bool.not_true, Bool.not_false]), trivial⟩, ⟨rfl, rfl⟩, _, (s_take (s_take (s_take (s_take (s_take (s_take (s_take (s_take (s_take (s_take (s_take (s_take (s_take (s_take (s_take (s_take (s_take (s_take (s_take (s_take (s_take (s_take (s_take (s_take (s_take (s_take (s_take (s_take (s_take (s_take (s_take (s_take (s_take (s_take (s_take (s_take (s_take (s_take (s_take (s_take (s_take (s_take (s_take (s_take (s_take (s_take (s_take (s_take (s_take (s_take (s_take (s_take s_nil))))))))))))))))))))))))))))))))))))))))))))))))))))⟩
                                  · skip
                                    refine o_pass rfl rfl rfl rfl rfl ?_
                                    refine o_pass rfl rfl rfl rfl rfl ?_
                                    refine o_T (y_pickF rfl rfl) rfl ?_
                                    refine o_nil1 223 rfl rfl ?_
                                    refine ⟨_, _, ⟨rfl, rfl⟩, ⟨by first | rfl | exact gtb rfl (by simp only [h29, h30, Bool.true_and, Bool.false_and, Bool.true_or, Bool.false_or, Bool.and_true, Bool.and_false, Bool.or_true, Bool.or_false, Bool.not_true, Bool.not_false]), trivial⟩, ⟨rfl, rfl⟩, _, (s_take (s_take (s_take (s_take (s_take (s_take (s_take (s_take (s_take (s_take (s_take (s_take (s_take (s_take (s_take (s_take (s_take (s_take (s_take (s_take (s_take (s_take (s_take (s_take (s_take (s_take (s_take (s_take (s_take (s_take (s_take (s_take (s_take (s_take (s_take (s_take (s_take (s_take (s_take (s_take (s_take (s_take (s_take (s_take (s_take (s_take (s_take (s_take (s_take (s_take (s_take (s_take s_nil))))))))))))))))))))))))))))))))))))))))))))))))))))⟩
                              · as_aux_lemma =>
                                rintro sh G ⟨rfl, rfl⟩
                                refine c_cond rfl (fun h31 => ?_) (fun h31 => ?_)
                                · have hm := cd_t h31 hm
                                  refine c_seq ?_
                                  refine c_region ?_
                                  refine o_T (y_move rfl) rfl ?_
                                  refine o_T (y_move rfl) rfl ?_
                                  refine o_L (y_assign rfl) rfl rfl ?_
                                  refine o_L (y_assign rfl) rfl rfl ?_
                                  refine o_nil0 rfl ?_
                                  refine c_ret ?_
                                  obtain ⟨q17, hq17, hm⟩ := bd hm
                                  have hm := fl_ret hm hF4
                                  have hm := hq17.trans hm
                                  obtain ⟨rfl, rfl⟩ := pr2 hm
                                  refine fun aX wX heX hsX => ret2 Tryz.results7 heX rfl rfl (s_skip (s_skip (s_skip (s_skip (s_skip (s_skip (s_skip (s_skip (s_skip (s_skip (s_skip (s_skip (s_skip (s_skip (s_skip (s_skip (s_skip (s_skip (s_skip (s_skip (s_skip (s_skip (s_skip (s_skip (s_skip (s_skip (s_skip (s_skip (s_skip (s_skip (s_skip (s_skip (s_skip (s_skip (s_skip (s_skip (s_skip (s_skip (s_skip (s_skip (s_skip (s_skip (s_skip (s_skip (s_skip (s_skip (s_skip (s_skip (s_skip (s_skip (s_skip (s_take s_nil)))))))))))))))))))))))))))))))))))))))))))))))))))) ?_
                                  exact ⟨rfl, rfl⟩
                                · have hm := cd_f h31 hm
                                  refine c_skip ?_
                                  refine c_seq ?_
                                  refine c_seq ?_
                                  refine c_joinP (n := 0) (fun sh G => sh = [(233, .bool ((decide (c21 ≤ z35.a)) && (!c24)))] ∧ G = []) Sel.all' .z (fun _ _ h => h) ?_ ?_
                                  · skip
                                    refine c_region ?_
                                    refine o_T (y_fa fl_44_1 rfl) rfl ?_
                                    refine o_ld one_3 rfl (ms (ms (ms (ms (ms (ms (ms (ms (ms (ms (ms (ms (ms (ms (ms (ms (ms (ms (ms (ms (ms (ms (ms (ms (ms (ms (ms (ms (ms (ms (ms (ms (ms (ms (ms (ms (ms (ms (ms (ms m0)))))))))))))))))))))))))))))))))))))))) (At.got (At.refl.comp Op_.a_a)) rfl ?_
                                    refine o_T (y_move rfl) rfl ?_
                                    refine o_T (y_geq rfl rfl) rfl ?_
                                    refine o_T (y_move rfl) rfl ?_
                                    refine o_split 230 rfl (fun h32 => ?_) (fun h32 => ?_)
                                    · skip
                                      refine o_take rfl rfl rfl ?_
                                      refine o_T (y_move rfl) rfl ?_
                                      refine o_take rfl rfl rfl ?_
                                      refine o_T (y_not rfl) rfl ?_
                                      refine o_T (y_pickT rfl rfl) rfl ?_
                                      refine o_nil1 233 rfl rfl ?_
                                      refine ⟨_, _, ⟨rfl, rfl⟩, ⟨by first | rfl | exact gtb rfl (by simp only [h32, Bool.true_and, Bool.false_and, Bool.true_or, Bool.false_or, Bool.and_true, Bool.and_false, Bool.or_true, Bool.or_false, Bool.not_true, Bool.not_false]), trivial⟩, ⟨rfl, rfl⟩, _, (s_take (s_take (s_take (s_take (s_take (s_take (s_take (s_take (s_take (s_take (s_take (s_take (s_take (s_take (s_take (s_take (s_take (s_take (s_take (s_take (s_take (s_take (s_take (s_take (s_take (s_take (s_take (s_take (s_take (s_take (s_take (s_take (s_take (s_take (s_take (s_take (s_take (s_take (s_take (s_take (s_take (s_take (s_take (s_take (s_take (s_take (s_take (s_take (s_take (s_take (s_take (s_take s_nil))))))))))))))))))))))))))))))))))))))))))))))))))))⟩
                                    · skip
                                      refine o_pass rfl rfl rfl rfl rfl ?_
                                      refine o_pass rfl rfl rfl rfl rfl ?_
                                      refine o_T (y_pickF rfl rfl) rfl ?_
                                      refine o_nil1 233 rfl rfl ?_
                                      refine ⟨_, _, ⟨rfl, rfl⟩, ⟨by first | rfl | exact gtb rfl (by simp only [h32, Bool.true_and, Bool.false_and, Bool.true_or, Bool.false_or, Bool.and_true, Bool.and_false, Bool.or_true, Bool.or_false, Bool.not_true, Bool.not_false]), trivial⟩, ⟨rfl, rfl⟩, _, (s_take (s_take (s_take (s_take (s_take (s_take (s_take (s_take (s_take (s_take (s_take (s_take (s_take (s_take (s_take (s_take (s_take (s_take (s_take (s_take (s_take (s_take (s_take (s_take (s_take (s_take (s_take (s_take (s_take (s_take (s_take (s_take (s_take (s_take (s_take (s_take (s_take (s_take (s_take (s_take (s_take (s_take (s_take (s_take (s_take (s_take (s_take (s_take (s_take (s_take (s_take (s_take s_nil))))))))))))))))))))))))))))))))))))))))))))))))))))⟩
                                  · as_aux_lemma =>
                                    rintro sh G ⟨rfl, rfl⟩
                                    refine c_cond rfl (fun h33 => ?_) (fun h33 => ?_)
                                    · have hm := cd_t h33 hm
                                      refine c_seq ?_
                                      refine c_region ?_
                                      refine o_T (y_move rfl) rfl ?_
                                      refine o_T (y_move rfl) rfl ?_
                                      refine o_L (y_assign rfl) rfl rfl ?_
                                      refine o_L (y_assign rfl) rfl rfl ?_
                                      refine o_nil0 rfl ?_
                                      refine c_ret ?_
                                      obtain ⟨q18, hq18, hm⟩ := bd hm
                                      have hm := fl_ret hm hF4
                                      have hm := hq18.trans hm
                                      obtain ⟨rfl, rfl⟩ := pr2 hm
                                      refine fun aX wX heX hsX => ret2 Tryz.results7 heX rfl rfl (s_skip (s_skip (s_skip (s_skip (s_skip (s_skip (s_skip (s_skip (s_skip (s_skip (s_skip (s_skip (s_skip (s_skip (s_skip (s_skip (s_skip (s_skip (s_skip (s_skip (s_skip (s_skip (s_skip (s_skip (s_skip (s_skip (s_skip (s_skip (s_skip (s_skip (s_skip (s_skip (s_skip (s_skip (s_skip (s_skip (s_skip (s_skip (s_skip (s_skip (s_skip (s_skip (s_skip (s_skip (s_skip (s_skip (s_skip (s_skip (s_skip (s_skip (s_skip (s_take s_nil)))))))))))))))))))))))))))))))))))))))))))))))))))) ?_
                                      exact ⟨rfl, rfl⟩
                                    · have hm := cd_f h33 hm
                                      refine c_skip ?_
                                      refine c_seq ?_
                                      refine c_seq ?_
                                      refine c_region ?_
                                      refine o_T (y_move rfl) rfl ?_
                                      refine o_nil1 236 rfl rfl ?_
                                      obtain ⟨z62, hj6, hm⟩ := bd1 hm
                                      refine c_joinP (n := 5) (fun sh G => ∃ (b44 : Nat), ∃ (v108 : Value), ∃ (g107 : List Chunk), ∃ (v109 : Value), ∃ (g108 : List Chunk), ∃ (v110 : Value), ∃ (g109 : List Chunk), ∃ (v111 : Value), ∃ (g110 : List Chunk), sh = [(9, .pointer (some ⟨b44, 0, none⟩))] ∧ G = [[(b44, .cells (RepoM.enc (v108) (v109) (v110) (v111) z62).toArray 59 (0, 0))], g107, g108, g109, g110] ∧ Own rNode v108 z62.nodes g107 ∧ Own rRef_ v109 z62.refs g108 ∧ Own rFile v110 z62.index g109 ∧ Own rFile v111 z62.work g110) (s_get (ks (ks (ks (ks (ks (ks (ks (ks (ks (ks (ks (ks (ks (ks (ks (ks (ks (ks (ks (ks (ks (ks (ks (ks k0)))))))))))))))))))))))) (s_get (ks (ks (ks (ks (ks (ks (ks (ks (ks (ks (ks (ks (ks (ks (ks (ks (ks (ks (ks (ks (ks (ks (ks (ks k0)))))))))))))))))))))))) (s_get (ks (ks (ks (ks (ks (ks (ks (ks (ks (ks (ks (ks (ks (ks (ks (ks (ks (ks (ks (ks (ks (ks (ks (ks k0)))))))))))))))))))))))) (s_get (ks (ks (ks (ks (ks (ks (ks (ks (ks (ks (ks (ks (ks (ks (ks (ks (ks (ks (ks (ks (ks (ks (ks (ks k0)))))))))))))))))))))))) (s_get (ks (ks (ks (ks (ks (ks (ks (ks (ks (ks (ks (ks (ks (ks (ks (ks (ks (ks (ks (ks (ks (ks (ks (ks k0)))))))))))))))))))))))) (s_take (s_take (s_take (s_take (s_take (s_take (s_take (s_take (s_take (s_take (s_take (s_take (s_take (s_take (s_skip (s_skip (s_skip (s_skip (s_skip (s_skip (s_skip (s_skip (s_skip (s_skip (s_skip (s_skip (s_skip (s_skip (s_skip (s_take (s_take (s_take (s_take (s_take (s_take (s_take (s_take (s_take (s_take (s_take (s_take (s_take (s_take (s_take (s_take (s_take (s_take s_nil)))))))))))))))))))))))))))))))))))))))))))))))))))) (.s (.s (.s (.s (.s .z))))) (fun _ _ h => h) ?_ ?_
                                      · as_aux_lemma =>
                                        have hm := hj6
                                        refine c_cond rfl (fun h34 => ?_) (fun h34 => ?_)
                                        · have hm := cd_t h34 hm
                                          refine c_region ?_
                                          refine o_T (y_move rfl) rfl ?_
                                          refine o_L (y_assign rfl) rfl rfl ?_
                                          refine o_nil0 rfl ?_
                                          obtain rfl := p1 hm
                                          exact ⟨_, _, ⟨b43, v98, _, v99, _, v100, _, v101, _, rfl, rfl, ho97, ho98, ho99, ho100⟩, ⟨rfl, trivial⟩, ⟨rfl, rfl⟩, _, (s_get (ks (ks (ks (ks (ks (ks (ks (ks (ks (ks (ks (ks (ks (ks k0)))))))))))))) (s_get (ks (ks (ks (ks (ks (ks (ks (ks (ks (ks (ks (ks (ks (ks k0)))))))))))))) (s_get (ks (ks (ks (ks (ks (ks (ks (ks (ks (ks (ks (ks (ks (ks k0)))))))))))))) (s_get (ks (ks (ks (ks (ks (ks (ks (ks (ks (ks (ks (ks (ks (ks k0)))))))))))))) (s_get (ks (ks (ks (ks (ks (ks (ks (ks (ks (ks (ks (ks (ks (ks k0)))))))))))))) (s_take (s_take (s_take (s_take (s_take (s_take (s_take (s_take (s_take (s_take (s_take (s_take (s_take (s_take (s_skip (s_skip (s_skip (s_skip (s_skip (s_skip (s_skip (s_skip (s_skip (s_skip (s_skip (s_skip (s_skip (s_skip (s_skip (s_take (s_take (s_take (s_take (s_take (s_take (s_take (s_take (s_take (s_take (s_take (s_take (s_take (s_take (s_take (s_take (s_take (s_take s_nil))))))))))))))))))))))))))))))))))))))))))))))))))))⟩
                                        · have hm := cd_f h34 hm
                                          refine c_region ?_
                                          refine o_T (y_move rfl) rfl ?_
                                          refine o_L (y_assign rfl) rfl rfl ?_
                                          refine o_nil0 rfl ?_
                                          obtain rfl := p1 hm
                                          exact ⟨_, _, ⟨b42, v94, _, v95, _, v96, _, v97, _, rfl, rfl, ho93, ho94, ho95, ho96⟩, ⟨rfl, trivial⟩, ⟨rfl, rfl⟩, _, (s_get (ks (ks (ks (ks (ks (ks (ks (ks (ks (ks (ks (ks (ks (ks (ks (ks (ks (ks (ks k0))))))))))))))))))) (s_get (ks (ks (ks (ks (ks (ks (ks (ks (ks (ks (ks (ks (ks (ks (ks (ks (ks (ks (ks k0))))))))))))))))))) (s_get (ks (ks (ks (ks (ks (ks (ks (ks (ks (ks (ks (ks (ks (ks (ks (ks (ks (ks (ks k0))))))))))))))))))) (s_get (ks (ks (ks (ks (ks (ks (ks (ks (ks (ks (ks (ks (ks (ks (ks (ks (ks (ks (ks k0))))))))))))))))))) (s_get (ks (ks (ks (ks (ks (ks (ks (ks (ks (ks (ks (ks (ks (ks (ks (ks (ks (ks (ks k0))))))))))))))))))) (s_take (s_take (s_take (s_take (s_take (s_take (s_take (s_take (s_take (s_take (s_take (s_take (s_take (s_take (s_skip (s_skip (s_skip (s_skip (s_skip (s_skip (s_skip (s_skip (s_skip (s_skip (s_skip (s_skip (s_skip (s_skip (s_skip (s_take (s_take (s_take (s_take (s_take (s_take (s_take (s_take (s_take (s_take (s_take (s_take (s_take (s_take (s_take (s_take (s_take (s_take s_nil))))))))))))))))))))))))))))))))))))))))))))))))))))⟩
                                      · as_aux_lemma =>
                                        rintro sh G ⟨b44, v108, g107, v109, g108, v110, g109, v111, g110, rfl, rfl, ho107, ho108, ho109, ho110⟩
                                        refine c_seq ?_
                                        refine c_region ?_
                                        refine o_T (y_move rfl) rfl ?_
                                        obtain ⟨z63, hx30, hm⟩ := bd1 hm
                                        refine o_callC en_12 rfl (s_take (s_take (s_take (s_take (s_take s_nil))))) (t12 ho107 ho108 ho109 ho110 hx30) rfl (fun u29 S29 hR29 => ?_)
                                        obtain ⟨b45, v112, g111, v113, g112, v114, g113, v115, g114, rfl, rfl, ho111, ho112, ho113, ho114⟩ := hR29
                                        refine o_rest ?_
                                        refine o_L (y_assign rfl) rfl rfl ?_
                                        refine o_nil0 rfl ?_
                                        refine c_seq ?_
                                        refine c_joinP (n := 0) (fun sh G => sh = [(11, .bool (c4 && c24))] ∧ G = []) Sel.all' .z (fun _ _ h => h) ?_ ?_
                                        · skip
                                          refine c_region ?_
                                          refine o_T (y_move rfl) rfl ?_
                                          refine o_T (y_move rfl) rfl ?_
                                          refine o_split 242 rfl (fun h35 => ?_) (fun h35 => ?_)
                                          · skip
                                            refine o_take rfl rfl rfl ?_
                                            refine o_T (y_move rfl) rfl ?_
                                            refine o_T (y_pickT rfl rfl) rfl ?_
                                            refine o_L (y_assign rfl) rfl rfl ?_
                                            refine o_nil0 rfl ?_
                                            refine ⟨_, _, ⟨rfl, rfl⟩, ⟨by first | rfl | exact gtb rfl (by simp only [h35, Bool.true_and, Bool.false_and, Bool.true_or, Bool.false_or, Bool.and_true, Bool.and_false, Bool.or_true, Bool.or_false, Bool.not_true, Bool.not_false]), trivial⟩, ⟨rfl, rfl⟩, _, (s_take (s_take (s_take (s_take (s_take (s_take (s_take (s_take (s_take (s_take (s_take (s_take (s_take (s_take (s_take (s_take (s_take (s_take (s_take (s_take (s_take (s_take (s_take (s_take (s_take (s_take (s_take (s_take (s_take (s_take (s_take (s_take (s_take (s_take (s_take (s_take (s_take (s_take (s_take (s_take (s_take (s_take s_nil))))))))))))))))))))))))))))))))))))))))))⟩
                                          · skip
                                            refine o_pass rfl rfl rfl rfl rfl ?_
                                            refine o_T (y_pickF rfl rfl) rfl ?_
                                            refine o_L (y_assign rfl) rfl rfl ?_
                                            refine o_nil0 rfl ?_
                                            refine ⟨_, _, ⟨rfl, rfl⟩, ⟨by first | rfl | exact gtb rfl (by simp only [h35, Bool.true_and, Bool.false_and, Bool.true_or, Bool.false_or, Bool.and_true, Bool.and_false, Bool.or_true, Bool.or_false, Bool.not_true, Bool.not_false]), trivial⟩, ⟨rfl, rfl⟩, _, (s_take (s_take (s_take (s_take (s_take (s_take (s_take (s_take (s_take (s_take (s_take (s_take (s_take (s_take (s_take (s_take (s_take (s_take (s_take (s_take (s_take (s_take (s_take (s_take (s_take (s_take (s_take (s_take (s_take (s_take (s_take (s_take (s_take (s_take (s_take (s_take (s_take (s_take (s_take (s_take (s_take (s_take s_nil))))))))))))))))))))))))))))))))))))))))))⟩
                                        · as_aux_lemma =>
                                          rintro sh G ⟨rfl, rfl⟩
                                          refine c_seq ?_
                                          refine c_region ?_
                                          refine o_T (y_move rfl) rfl ?_
                                          refine o_nil1 245 rfl rfl ?_
                                          refine c_cond rfl (fun h36 => ?_) (fun h36 => ?_)
                                          · have hm := cd_t h36 hm
                                            refine c_region ?_
                                            refine o_lda ag_37 rfl (ms (ms (ms (ms (ms (ms (ms (ms (ms (ms (ms (ms (ms (ms (ms (ms (ms (ms (ms (ms (ms (ms (ms (ms (ms (ms (ms (ms (ms m0))))))))))))))))))))))))))))) (At.exs At.refl (Below.len _ _ _ _ _ _ _ _)) (At.fits At.refl (Below.len _ _ _ _ _ _ _ _)) rfl ?_
                                            refine o_T (y_fa fl_44_1 rfl) rfl ?_
                                            refine o_ld one_3 rfl (ms (ms (ms (ms (ms (ms (ms (ms (ms (ms (ms (ms (ms (ms (ms (ms (ms (ms (ms (ms (ms (ms (ms (ms (ms (ms (ms (ms (ms (ms m0)))))))))))))))))))))))))))))) (At.got (At.refl.comp Op_.a_a)) rfl ?_
                                            obtain ⟨x4, z64, z65, z66, z67, z68, z69, z70, hx31, hm⟩ := bd8 hm
                                            refine o_callC en_21 rfl (s_skip (s_skip (s_skip (s_skip (s_skip (s_skip (s_skip (s_skip (s_skip (s_skip (s_skip (s_skip (s_skip (s_skip (s_skip (s_skip (s_skip (s_skip (s_skip (s_skip (s_skip (s_skip (s_skip (s_skip (s_take (s_take (s_take (s_take (s_take s_nil))))))))))))))))))))))))))))) (t21 ho34 ho35 ho36 ho37 hx31) rfl (fun u30 S30 hR30 => ?_)
                                            obtain ⟨b46, v116, g115, v117, g116, v118, g117, v119, g118, b47, b48, b49, b50, b51, v120, g119, v121, g120, v122, g121, b52, rfl, rfl, ho115, ho116, ho117, ho118, ho119, ho120, ho121⟩ := hR30
                                            refine o_rest ?_
                                            obtain ⟨z71, hn5, hm⟩ := nm_s hm
                                            refine o_stNA ag_37 rfl rfl (Below.plain rfl rfl rfl rfl rfl rfl rfl _) (Below.len _ _ _ _ _ _ _ _) (Upd.refl ((Below.len _ _ _ _ _ _ _ _).trans (Below.len _ _ _ _ _ _ _ _).symm)) (rs (rs (rs (rs (rs (rs (rs (rs (rs (rs (rs (rs (rs (rs (rs (rs (rs (rs (rs (rs (rs (rs (rs (rs (rs (rs (rs (rs (rs (rs (rs (rs (rs (rs (rs (rs (rs (rs (rs (rs (rs (rs (rs (rs (rs (rs (rs (rs (rs (rs (rs (rs (rs (rs r0)))))))))))))))))))))))))))))))))))))))))))))))))))))) (show (Below.enc (.pointer (some ⟨b46, 0, none⟩)) (.pointer (some ⟨b47, 0, none⟩)) (.pointer (some ⟨b48, 0, none⟩)) (.pointer (some ⟨b49, 0, none⟩)) (.pointer (some ⟨b50, 0, none⟩)) (.pointer (some ⟨b51, 0, none⟩)) (.pointer (some ⟨b52, 0, none⟩)) z71) = _ from by subst hn5; rfl) ?_
                                            refine o_nil0 rfl ?_
                                            refine c_region ?_
                                            refine o_T (y_move rfl) rfl ?_
                                            refine o_T (y_add rfl rfl rfl) rfl ?_
                                            refine o_L (y_assign rfl) rfl rfl ?_
                                            refine o_nil0 rfl ?_
                                            exact ⟨mm1, Nat.lt_succ_self _, _, _, ⟨_, _, _, _, _, _, _, _, _, _, _, _, b44, v108, _, v109, _, v110, _, v111, _, b45, v112, _, v113, _, v114, _, v115, _, b46, v116, _, v117, _, v118, _, v119, _, b51, v120, _, v121, _, v122, _, b49, b48, b47, b52, b50, rfl, rfl, hm, ho107, ho108, ho109, ho110, ho111, ho112, ho113, ho114, ho115, ho116, ho117, ho118, ho119, ho120, ho121⟩, ⟨rfl, rfl, rfl, rfl, trivial⟩, ⟨rfl, rfl⟩, _, (s_skip (s_skip (s_skip (s_skip (s_skip (s_get (ks (ks (ks (ks (ks (ks (ks (ks (ks (ks (ks (ks (ks (ks k0)))))))))))))) (s_get (ks (ks (ks (ks (ks (ks (ks (ks (ks (ks (ks (ks (ks (ks k0)))))))))))))) (s_get (ks (ks (ks (ks (ks (ks (ks (ks (ks (ks (ks (ks (ks (ks k0)))))))))))))) (s_get (ks (ks (ks (ks (ks (ks (ks (ks (ks (ks (ks (ks (ks (ks k0)))))))))))))) (s_get (ks (ks (ks (ks (ks (ks (ks (ks (ks (ks (ks (ks (ks (ks k0)))))))))))))) (s_get (ks (ks (ks (ks (ks (ks (ks (ks (ks (ks (ks (ks (ks (ks k0)))))))))))))) (s_get (ks (ks (ks (ks (ks (ks (ks (ks (ks (ks (ks (ks (ks (ks k0)))))))))))))) (s_get (ks (ks (ks (ks (ks (ks (ks (ks (ks (ks (ks (ks (ks (ks k0)))))))))))))) (s_get (ks (ks (ks (ks (ks (ks (ks (ks (ks (ks (ks (ks (ks (ks k0)))))))))))))) (s_get (ks (ks (ks (ks (ks (ks (ks (ks (ks (ks (ks (ks (ks (ks k0)))))))))))))) (s_take (s_take (s_take (s_take (s_take (s_get (ks (ks (ks (ks k0)))) (s_get (ks (ks (ks (ks k0)))) (s_get (ks (ks (ks (ks k0)))) (s_get (ks (ks (ks (ks k0)))) (s_get (ks (ks k0)) (s_get (ks k0) (s_take (s_get (ks k0) (s_take (s_skip (s_skip (s_skip (s_skip (s_skip (s_skip (s_skip (s_skip (s_skip (s_skip (s_skip (s_skip (s_skip (s_skip (s_skip (s_skip (s_skip (s_skip (s_skip (s_skip (s_skip (s_skip (s_skip (s_skip (s_skip (s_take (s_take s_nil))))))))))))))))))))))))))))))))))))))))))))))))))))))))⟩
                                          · have hm := cd_f h36 hm
                                            refine c_skip ?_
                                            refine c_region ?_
                                            refine o_T (y_move rfl) rfl ?_
                                            refine o_T (y_add rfl rfl rfl) rfl ?_
                                            refine o_L (y_assign rfl) rfl rfl ?_
                                            refine o_nil0 rfl ?_
                                            exact ⟨mm1, Nat.lt_succ_self _, _, _, ⟨_, _, _, _, _, _, _, _, _, _, _, _, b44, v108, _, v109, _, v110, _, v111, _, b45, v112, _, v113, _, v114, _, v115, _, b35, v87, _, v88, _, v89, _, v90, _, b40, v105, _, v106, _, v107, _, b38, b37, b36, b41, b39, rfl, rfl, hm, ho107, ho108, ho109, ho110, ho111, ho112, ho113, ho114, ho86, ho87, ho88, ho89, ho104, ho105, ho106⟩, ⟨rfl, rfl, rfl, rfl, trivial⟩, ⟨rfl, rfl⟩, _, (s_take (s_take (s_take (s_take (s_take (s_take (s_take (s_take (s_take (s_take (s_take (s_take (s_take (s_take (s_take (s_take (s_take (s_take (s_take (s_take (s_get (ks (ks k0)) (s_take (s_take (s_take (s_skip (s_skip (s_skip (s_skip (s_skip (s_skip (s_skip (s_skip (s_skip (s_skip (s_skip (s_skip (s_skip (s_skip (s_skip (s_skip (s_take (s_take s_nil))))))))))))))))))))))))))))))))))))))))))⟩
              · have hm := cd_f h21 hm
                refine c_skip ?_
                refine c_region ?_
                refine o_T (y_move rfl) rfl ?_
                refine o_T (y_add rfl rfl rfl) rfl ?_
                refine o_L (y_assign rfl) rfl rfl ?_
                refine o_nil0 rfl ?_
                exact ⟨mm1, Nat.lt_succ_self _, _, _, ⟨_, _, _, _, _, _, _, _, _, _, _, _, b11, v27, _, v28, _, v29, _, v30, _, b12, v31, _, v32, _, v33, _, v34, _, b13, v35, _, v36, _, v37, _, v38, _, b14, v39, _, v40, _, v41, _, b15, b16, b17, b18, b19, rfl, rfl, hm, ho26, ho27, ho28, ho29, ho30, ho31, ho32, ho33, ho34, ho35, ho36, ho37, ho38, ho39, ho40⟩, ⟨rfl, rfl, rfl, rfl, trivial⟩, ⟨rfl, rfl⟩, _, (s_skip (s_take (s_take (s_take (s_take (s_take (s_take (s_take (s_take (s_take (s_take (s_take (s_take (s_take (s_take (s_take (s_take (s_take (s_take (s_take (s_take (s_take (s_take (s_take (s_take (s_take (s_take s_nil)))))))))))))))))))))))))))⟩
          · have hm := cd_f h6 hm
            refine c_exit ?_
            have hm := fl_nx hm hF4
            exact ⟨_, _, ⟨_, _, _, _, _, _, _, _, _, _, _, _, b11, v27, _, v28, _, v29, _, v30, _, b12, v31, _, v32, _, v33, _, v34, _, b13, v35, _, v36, _, v37, _, v38, _, b14, v39, _, v40, _, v41, _, b15, b16, b17, b18, b19, rfl, rfl, hm, ho26, ho27, ho28, ho29, ho30, ho31, ho32, ho33, ho34, ho35, ho36, ho37, ho38, ho39, ho40⟩, ⟨rfl, rfl, rfl, rfl, trivial⟩, ⟨rfl, rfl⟩, _, (s_take (s_take (s_take (s_take (s_take (s_take (s_take (s_take (s_take (s_take (s_take (s_take (s_take (s_take (s_take (s_take (s_take (s_take (s_take (s_take (s_take (s_take (s_take (s_take (s_take (s_take s_nil))))))))))))))))))))))))))⟩
      · as_aux_lemma =>
        rintro sh G ⟨z24, z25, z26, z27, z28, z29, z30, z31, z32, c6, c7, z33, b20, v42, g41, v43, g42, v44, g43, v45, g44, b21, v46, g45, v47, g46, v48, g47, v49, g48, b22, v50, g49, v51, g50, v52, g51, v53, g52, b23, v54, g53, v55, g54, v56, g55, b24, b25, b26, b27, b28, rfl, rfl, hm, ho41, ho42, ho43, ho44, ho45, ho46, ho47, ho48, ho49, ho50, ho51, ho52, ho53, ho54, ho55⟩
        subst hF3
        refine c_seq ?_
        refine c_seq ?_
        refine c_region ?_
        refine o_T (y_move rfl) rfl ?_
        refine o_T (y_lenR hr1 Tryz.underlying22 rfl) rfl ?_
        refine o_T (y_lss rfl rfl) rfl ?_
        refine o_nil1 252 rfl rfl ?_
        have hm := un12_m hm
        refine c_cond rfl (fun h37 => ?_) (fun h37 => ?_)
        · have hm := cd_t h37 hm
          refine c_seq ?_
          refine c_region ?_
          refine o_T (y_move rfl) rfl ?_
          refine o_T (y_lenR hr1 Tryz.underlying22 rfl) rfl ?_
          refine o_L (y_assign rfl) rfl rfl ?_
          refine o_L (y_assign rfl) rfl rfl ?_
          refine o_nil0 rfl ?_
          refine c_ret ?_
          obtain ⟨rfl, rfl⟩ := pr2 hm
          refine fun aX wX heX hsX => ret2 Tryz.results7 heX rfl rfl (s_skip (s_skip (s_skip (s_skip (s_skip (s_skip (s_skip (s_skip (s_skip (s_skip (s_skip (s_skip (s_skip (s_skip (s_skip (s_skip (s_skip (s_skip (s_skip (s_skip (s_skip (s_skip (s_skip (s_skip (s_skip (s_take s_nil)))))))))))))))))))))))))) ?_
          exact ⟨rfl, rfl⟩
        · have hm := cd_f h37 hm
          refine c_skip ?_
          refine c_seq ?_
          refine c_region ?_
          refine o_L (y_assign rfl) rfl rfl ?_
          refine o_L (y_assign rfl) rfl rfl ?_
          refine o_nil0 rfl ?_
          refine c_ret ?_
          obtain ⟨rfl, rfl⟩ := pr2 hm
          refine fun aX wX heX hsX => ret2 Tryz.results7 heX rfl rfl (s_skip (s_skip (s_skip (s_skip (s_skip (s_skip (s_skip (s_skip (s_skip (s_skip (s_skip (s_skip (s_skip (s_skip (s_skip (s_skip (s_skip (s_skip (s_skip (s_skip (s_skip (s_skip (s_skip (s_skip (s_skip (s_take s_nil)))))))))))))))))))))))))) ?_
          exact ⟨rfl, rfl⟩
end Go.Proofs.Qxb6500350aGreat
