/- MADE BY PROGRAM (tools350/mir.py): mirror and walk. -/
import Derived.Test.Qxb6500350aGreatF2
import Derived.Test.Qxb6500350aGreatT317
import Derived.Test.Qxb6500350aGreatT292
import Derived.Test.Qxb6500350aGreatT318
set_option linter.unusedVariables false
set_option linter.unusedSimpArgs false
set_option maxRecDepth 20000
set_option maxHeartbeats 4000000
namespace Go.Proofs.Qxb6500350aGreat
open Go.Eng

def op_291_9 : Array Go.Oper := #[{ dst := some 29, op := Go.Op.move (Go.Operand.tmp 0), type := 65, pos := "table.go:33", after := #[], guard := none }, { dst := some 30, op := Go.Op.move (Go.Operand.tmp 6), type := 3, pos := "table.go:33", after := #[], guard := none }, { dst := some 31, op := Go.Op.indexAddr 65 (Go.Operand.tmp 29) (Go.Operand.tmp 30), type := 0, pos := "table.go:33", after := #[{ on := 0, ground := Go.Ground.data }, { on := 1, ground := Go.Ground.data }], guard := none }, { dst := some 32, op := Go.Op.load 3 (Go.Operand.tmp 31), type := 3, pos := "table.go:33", after := #[{ on := 2, ground := Go.Ground.data }], guard := none }, { dst := some 33, op := Go.Op.move (Go.Operand.tmp 1), type := 65, pos := "table.go:33", after := #[], guard := none }, { dst := some 34, op := Go.Op.move (Go.Operand.tmp 7), type := 3, pos := "table.go:33", after := #[], guard := none }, { dst := some 35, op := Go.Op.indexAddr 65 (Go.Operand.tmp 33) (Go.Operand.tmp 34), type := 0, pos := "table.go:33", after := #[{ on := 4, ground := Go.Ground.data }, { on := 5, ground := Go.Ground.data }], guard := none }, { dst := some 36, op := Go.Op.load 3 (Go.Operand.tmp 35), type := 3, pos := "table.go:33", after := #[{ on := 6, ground := Go.Ground.data }], guard := none }, { dst := some 37, op := Go.Op.binOp Go.BinOp.eql 3 (Go.Operand.tmp 32) (Go.Operand.tmp 36) 3, type := 4, pos := "table.go:33", after := #[{ on := 3, ground := Go.Ground.data }, { on := 7, ground := Go.Ground.data }], guard := none }]
theorem sb_291_9_0 : softB op_291_9 #[true, true, true, true, true, true, true, true, true] (Array.replicate 9 false) 0 = true := by kernel_rfl
theorem sb_291_9_1 : softB op_291_9 #[true, true, true, true, true, true, true, true, true] ((Array.replicate 9 false).setIfInBounds 0 true) 1 = true := by kernel_rfl
theorem sb_291_9_2 : softB op_291_9 #[true, true, true, true, true, true, true, true, true] (((Array.replicate 9 false).setIfInBounds 0 true).setIfInBounds 1 true) 2 = true := by kernel_rfl
theorem sb_291_9_3 : softB op_291_9 #[true, true, true, true, true, true, true, true, true] ((((Array.replicate 9 false).setIfInBounds 0 true).setIfInBounds 1 true).setIfInBounds 2 true) 3 = true := by kernel_rfl
theorem sb_291_9_4 : softB op_291_9 #[true, true, true, true, true, true, true, true, true] (((((Array.replicate 9 false).setIfInBounds 0 true).setIfInBounds 1 true).setIfInBounds 2 true).setIfInBounds 3 true) 4 = true := by kernel_rfl
theorem sb_291_9_5 : softB op_291_9 #[true, true, true, true, true, true, true, true, true] ((((((Array.replicate 9 false).setIfInBounds 0 true).setIfInBounds 1 true).setIfInBounds 2 true).setIfInBounds 3 true).setIfInBounds 4 true) 5 = true := by kernel_rfl
theorem sb_291_9_6 : softB op_291_9 #[true, true, true, true, true, true, true, true, true] (((((((Array.replicate 9 false).setIfInBounds 0 true).setIfInBounds 1 true).setIfInBounds 2 true).setIfInBounds 3 true).setIfInBounds 4 true).setIfInBounds 5 true) 6 = true := by kernel_rfl
theorem sb_291_9_7 : softB op_291_9 #[true, true, true, true, true, true, true, true, true] ((((((((Array.replicate 9 false).setIfInBounds 0 true).setIfInBounds 1 true).setIfInBounds 2 true).setIfInBounds 3 true).setIfInBounds 4 true).setIfInBounds 5 true).setIfInBounds 6 true) 7 = true := by kernel_rfl
theorem sb_291_9_8 : softB op_291_9 #[true, true, true, true, true, true, true, true, true] (((((((((Array.replicate 9 false).setIfInBounds 0 true).setIfInBounds 1 true).setIfInBounds 2 true).setIfInBounds 3 true).setIfInBounds 4 true).setIfInBounds 5 true).setIfInBounds 6 true).setIfInBounds 7 true) 8 = true := by kernel_rfl
theorem sb_291_9_9 : hardB op_291_9 ((((((((((Array.replicate 9 false).setIfInBounds 0 true).setIfInBounds 1 true).setIfInBounds 2 true).setIfInBounds 3 true).setIfInBounds 4 true).setIfInBounds 5 true).setIfInBounds 6 true).setIfInBounds 7 true).setIfInBounds 8 true) [] = true := by kernel_rfl
/- diff.suffixes -/
def m291_w2 (n : Nat) (x_ : (List Int)) (y : (List Int)) (c1 : Int) (mm : Nat) : Int → Tabl → Option (Int × Tabl) := it2 (fun lp2 c3 z4 =>
cond (decide ((0 : Int) ≤ c3)) (
Option.bind (ixL x_ c1) fun x1 =>
Option.bind (ixL y c3) fun x2 =>
cond (decide (x1 = x2)) (
ob1 (m292 n z4 (wi (c1 + 1)) (wi (c3 + 1))) fun c5 =>
ob1 (m318 n z4 c1 c3 (wi (c5 + 1))) fun z8 =>
lp2 (wi (c3 - 1)) z8) (
ob1 (m292 n z4 (wi (c1 + 1)) c3) fun c6 =>
ob1 (m292 n z4 c1 (wi (c3 + 1))) fun c7 =>
cond (decide (c6 < c7)) (
ob1 (m318 n z4 c1 c3 c7) fun z9 =>
lp2 (wi (c3 - 1)) z9) (
ob1 (m318 n z4 c1 c3 c6) fun z10 =>
lp2 (wi (c3 - 1)) z10))) (
some (c3, z4))) mm
def m291_w1 (n : Nat) (x_ : (List Int)) (y : (List Int)) (mm : Nat) : Int → Tabl → Option (Int × Tabl) := it2 (fun lp1 c1 z2 =>
cond (decide ((0 : Int) ≤ c1)) (
ob2 (m291_w2 n x_ y c1 n (wi ((y.length : Int) - 1)) z2) fun c4 z5 =>
lp1 (wi (c1 - 1)) z5) (
some (c1, z2))) mm
def m291 (n : Nat) (x_ : (List Int)) (y : (List Int)) : Option (Tabl) :=
ob1 (m317 n (x_.length : Int) (y.length : Int)) fun z1 =>
ob2 (m291_w1 n x_ y n (wi ((x_.length : Int) - 1)) z1) fun c2 z3 =>
some z3
theorem t291 {n : Nat} {C : List Chunk} {rz1 : Tabl} {v1 : Value} {x_ : (List Int)} {v2 : Value} {y : (List Int)} (hr1 : Rd rInt C v1 x_) (hr2 : Rd rInt C v2 y)  (hm : m291 n x_ y = some rz1) : Trip Tryz.prog 291 #[v1, v2] ([] ++ [C]) (fun u S' => ∃ (eb1 : Nat), ∃ (ev1 : Value), ∃ (eg1 : List Chunk), .pointer (some ⟨eb1, 0, none⟩) = u ∧ S' = [[(eb1, .cells (Tabl.enc (ev1) rz1).toArray 319 (0, 0))], eg1] ++ [C] ∧ Own rInt ev1 rz1.flat eg1) := by
  refine fn_entry (args := [v1, v2]) Tryz.func291 rfl Tryz.ntmps291 rfl (fun w0 => ?_)
  refine c_seq ?_
  refine c_region ?_
  refine o_L (y_assign rfl) rfl rfl ?_
  refine o_nil0 rfl ?_
  refine c_seq ?_
  refine c_region ?_
  refine o_T (y_move rfl) rfl ?_
  refine o_T (y_lenR hr1 Tryz.underlying65 rfl) rfl ?_
  refine o_T (y_move rfl) rfl ?_
  refine o_T (y_lenR hr2 Tryz.underlying65 rfl) rfl ?_
  obtain ⟨z1, hx1, hm⟩ := bd1 hm
  refine o_callC en_317 rfl s_nil (t317 hx1) rfl (fun u1 S1 hR1 => ?_)
  obtain ⟨b1, v3, g1, rfl, rfl, ho1⟩ := hR1
  refine o_rest ?_
  refine o_L (y_assign rfl) rfl rfl ?_
  refine o_nil0 rfl ?_
  refine c_seq ?_
  refine c_seq ?_
  refine c_region ?_
  refine o_T (y_move rfl) rfl ?_
  refine o_T (y_lenR hr1 Tryz.underlying65 rfl) rfl ?_
  refine o_T (y_sub rfl rfl rfl) rfl ?_
  refine o_L (y_assign rfl) rfl rfl ?_
  refine o_nil0 rfl ?_
  obtain ⟨c2, z3, hj1, hm⟩ := bd2 hm
  refine c_joinP (n := 2) (fun sh G => ∃ (v5 : Value), ∃ (g3 : List Chunk), sh = [(6, .int .i64 c2)] ∧ G = [[(b1, .cells (Tabl.enc (v5) z3).toArray 319 (0, 0))], g3] ∧ Own rInt v5 z3.flat g3) (s_take (s_take (s_take s_nil))) (.s (.s .z)) (fun _ _ h => h) ?_ ?_
  · skip
    refine c_block ?_
    refine c_loopP (n := 2) (fun mm sh G => ∃ (c1 : Int), ∃ (z2 : Tabl), ∃ (v4 : Value), ∃ (g2 : List Chunk), sh = [(6, .int .i64 c1)] ∧ G = [[(b1, .cells (Tabl.enc (v4) z2).toArray 319 (0, 0))], g2] ∧ m291_w1 n x_ y mm c1 z2 = some (c2, z3) ∧ Own rInt v4 z2.flat g2) n (s_take (s_take (s_take s_nil))) (.s (.s .z)) ⟨_, _, ⟨_, _, v3, _, rfl, rfl, hj1, ho1⟩, ⟨rfl, trivial⟩, _, (s_take (s_take (s_take s_nil)))⟩ ?_
    rintro mm sh G ⟨c1, z2, v4, g2, rfl, rfl, hm, ho2⟩
    obtain ⟨mm1, rfl, hm⟩ := it2_s hm
    refine c_seq ?_
    refine c_seq ?_
    refine c_region ?_
    refine o_T (y_move rfl) rfl ?_
    refine o_T (y_geq rfl rfl) rfl ?_
    refine o_nil1 19 rfl rfl ?_
    refine c_cond rfl (fun h1 => ?_) (fun h1 => ?_)
    · have hm := cd_t h1 hm
      refine c_skip ?_
      refine c_seq ?_
      refine c_block ?_
      refine c_seq ?_
      refine c_region ?_
      refine o_T (y_move rfl) rfl ?_
      refine o_T (y_lenR hr2 Tryz.underlying65 rfl) rfl ?_
      refine o_T (y_sub rfl rfl rfl) rfl ?_
      refine o_L (y_assign rfl) rfl rfl ?_
      refine o_nil0 rfl ?_
      obtain ⟨c4, z5, hj2, hm⟩ := bd2 hm
      refine c_joinP (n := 2) (fun sh G => ∃ (v7 : Value), ∃ (g5 : List Chunk), sh = [(7, .int .i64 c4)] ∧ G = [[(b1, .cells (Tabl.enc (v7) z5).toArray 319 (0, 0))], g5] ∧ Own rInt v7 z5.flat g5) (s_take (s_take (s_take s_nil))) (.s (.s .z)) (fun _ _ h => h) ?_ ?_
      · skip
        refine c_block ?_
        refine c_loopP (n := 2) (fun mm sh G => ∃ (c3 : Int), ∃ (z4 : Tabl), ∃ (v6 : Value), ∃ (g4 : List Chunk), sh = [(7, .int .i64 c3)] ∧ G = [[(b1, .cells (Tabl.enc (v6) z4).toArray 319 (0, 0))], g4] ∧ m291_w2 n x_ y c1 mm c3 z4 = some (c4, z5) ∧ Own rInt v6 z4.flat g4) n (s_take (s_take (s_take s_nil))) (.s (.s .z)) ⟨_, _, ⟨_, _, v4, _, rfl, rfl, hj2, ho2⟩, ⟨rfl, trivial⟩, _, (s_take (s_take (s_take s_nil)))⟩ ?_
        rintro mm sh G ⟨c3, z4, v6, g4, rfl, rfl, hm, ho4⟩
        obtain ⟨mm2, rfl, hm⟩ := it2_s hm
        refine c_seq ?_
        refine c_seq ?_
        refine c_region ?_
        refine o_T (y_move rfl) rfl ?_
        refine o_T (y_geq rfl rfl) rfl ?_
        refine o_nil1 26 rfl rfl ?_
        refine c_cond rfl (fun h2 => ?_) (fun h2 => ?_)
        · have hm := cd_t h2 hm
          refine c_skip ?_
          refine c_seq ?_
          refine c_block ?_
          refine c_seq ?_
          refine c_region ?_
          refine o_L (y_assign rfl) rfl rfl ?_
          refine o_nil0 rfl ?_
          refine c_seq ?_
          refine c_seq ?_
          refine c_draw #[true, true, true, true, true, true, true, true, true] rfl (n := 9) rfl ?_
          refine d_T 0 rfl sb_291_9_0 rfl (y_move rfl) rfl ?_
          refine d_T 1 rfl sb_291_9_1 rfl (y_move rfl) rfl ?_
          obtain ⟨x1, hx2, hm⟩ := bd hm
          obtain ⟨b2, w1, cs1, y1, z6, vs1, hc1, ha1, hr3, hy1⟩ := hr1.ix hx2
          obtain rfl : vs1 = (encI x1) := hr3
          refine d_T 2 rfl sb_291_9_2 rfl (hy1 sl_65 rfl rfl rfl) rfl ?_
          refine d_ld 3 rfl sb_291_9_3 one_3 rfl (fun x hx => hx) (ms (ms (mg hc1))) (At.getA (ha1)) rfl ?_
          refine d_T 4 rfl sb_291_9_4 rfl (y_move rfl) rfl ?_
          refine d_T 5 rfl sb_291_9_5 rfl (y_move rfl) rfl ?_
          obtain ⟨x2, hx3, hm⟩ := bd hm
          obtain ⟨b3, w2, cs2, y2, z7, vs2, hc2, ha2, hr4, hy2⟩ := hr2.ix hx3
          obtain rfl : vs2 = (encI x2) := hr4
          refine d_T 6 rfl sb_291_9_6 rfl (hy2 sl_65 rfl rfl rfl) rfl ?_
          refine d_ld 7 rfl sb_291_9_7 one_3 rfl (fun x hx => hx) (ms (ms (mg hc2))) (At.getA (ha2)) rfl ?_
          refine d_T 8 rfl sb_291_9_8 rfl (y_eql rfl rfl) rfl ?_
          refine d_nil1 37 sb_291_9_9 rfl rfl ?_
          refine c_cond rfl (fun h3 => ?_) (fun h3 => ?_)
          · have hm := cd_t h3 hm
            refine c_seq ?_
            refine c_region ?_
            refine o_T (y_move rfl) rfl ?_
            refine o_T (y_move rfl) rfl ?_
            refine o_T (y_add rfl rfl rfl) rfl ?_
            refine o_T (y_move rfl) rfl ?_
            refine o_T (y_add rfl rfl rfl) rfl ?_
            obtain ⟨c5, hx4, hm⟩ := bd1 hm
            refine o_callC en_292 rfl (s_take (s_take s_nil)) (t292 ho4 hx4) rfl (fun u2 S2 hR2 => ?_)
            obtain ⟨rfl, rfl⟩ := hR2
            refine o_rest ?_
            refine o_L (y_assign rfl) rfl rfl ?_
            refine o_nil0 rfl ?_
            refine c_region ?_
            refine o_T (y_move rfl) rfl ?_
            refine o_T (y_add rfl rfl rfl) rfl ?_
            refine o_L (y_assign rfl) rfl rfl ?_
            refine o_nil0 rfl ?_
            refine c_region ?_
            refine o_T (y_move rfl) rfl ?_
            refine o_T (y_move rfl) rfl ?_
            refine o_T (y_move rfl) rfl ?_
            refine o_T (y_move rfl) rfl ?_
            obtain ⟨z8, hx5, hm⟩ := bd1 hm
            refine o_callC en_318 rfl (s_take (s_take s_nil)) (t318 ho4 hx5) rfl (fun u3 S3 hR3 => ?_)
            obtain ⟨v8, g6, rfl, rfl, ho6⟩ := hR3
            refine o_rest ?_
            refine o_nil0 rfl ?_
            refine c_region ?_
            refine o_T (y_move rfl) rfl ?_
            refine o_T (y_sub rfl rfl rfl) rfl ?_
            refine o_L (y_assign rfl) rfl rfl ?_
            refine o_nil0 rfl ?_
            exact ⟨mm2, Nat.lt_succ_self _, _, _, ⟨_, _, v8, _, rfl, rfl, hm, ho6⟩, ⟨rfl, trivial⟩, ⟨rfl, rfl⟩, _, (s_take (s_take (s_take s_nil)))⟩
          · have hm := cd_f h3 hm
            refine c_seq ?_
            refine c_region ?_
            refine o_T (y_move rfl) rfl ?_
            refine o_T (y_move rfl) rfl ?_
            refine o_T (y_add rfl rfl rfl) rfl ?_
            refine o_T (y_move rfl) rfl ?_
            obtain ⟨c6, hx6, hm⟩ := bd1 hm
            refine o_callC en_292 rfl (s_take (s_take s_nil)) (t292 ho4 hx6) rfl (fun u4 S4 hR4 => ?_)
            obtain ⟨rfl, rfl⟩ := hR4
            refine o_rest ?_
            refine o_L (y_assign rfl) rfl rfl ?_
            refine o_nil0 rfl ?_
            refine c_seq ?_
            refine c_region ?_
            refine o_T (y_move rfl) rfl ?_
            refine o_T (y_move rfl) rfl ?_
            refine o_T (y_move rfl) rfl ?_
            refine o_T (y_add rfl rfl rfl) rfl ?_
            obtain ⟨c7, hx7, hm⟩ := bd1 hm
            refine o_callC en_292 rfl (s_take (s_take s_nil)) (t292 ho4 hx7) rfl (fun u5 S5 hR5 => ?_)
            obtain ⟨rfl, rfl⟩ := hR5
            refine o_rest ?_
            refine o_L (y_assign rfl) rfl rfl ?_
            refine o_nil0 rfl ?_
            refine c_seq ?_
            refine c_region ?_
            refine o_T (y_move rfl) rfl ?_
            refine o_T (y_move rfl) rfl ?_
            refine o_T (y_gtr rfl rfl) rfl ?_
            refine o_nil1 58 rfl rfl ?_
            refine c_cond rfl (fun h4 => ?_) (fun h4 => ?_)
            · have hm := cd_t h4 hm
              refine c_region ?_
              refine o_T (y_move rfl) rfl ?_
              refine o_L (y_assign rfl) rfl rfl ?_
              refine o_nil0 rfl ?_
              refine c_region ?_
              refine o_T (y_move rfl) rfl ?_
              refine o_T (y_move rfl) rfl ?_
              refine o_T (y_move rfl) rfl ?_
              refine o_T (y_move rfl) rfl ?_
              obtain ⟨z9, hx8, hm⟩ := bd1 hm
              refine o_callC en_318 rfl (s_take (s_take s_nil)) (t318 ho4 hx8) rfl (fun u6 S6 hR6 => ?_)
              obtain ⟨v9, g7, rfl, rfl, ho7⟩ := hR6
              refine o_rest ?_
              refine o_nil0 rfl ?_
              refine c_region ?_
              refine o_T (y_move rfl) rfl ?_
              refine o_T (y_sub rfl rfl rfl) rfl ?_
              refine o_L (y_assign rfl) rfl rfl ?_
              refine o_nil0 rfl ?_
              exact ⟨mm2, Nat.lt_succ_self _, _, _, ⟨_, _, v9, _, rfl, rfl, hm, ho7⟩, ⟨rfl, trivial⟩, ⟨rfl, rfl⟩, _, (s_take (s_take (s_take s_nil)))⟩
            · have hm := cd_f h4 hm
              refine c_skip ?_
              refine c_region ?_
              refine o_T (y_move rfl) rfl ?_
              refine o_T (y_move rfl) rfl ?_
              refine o_T (y_move rfl) rfl ?_
              refine o_T (y_move rfl) rfl ?_
              obtain ⟨z10, hx9, hm⟩ := bd1 hm
              refine o_callC en_318 rfl (s_take (s_take s_nil)) (t318 ho4 hx9) rfl (fun u7 S7 hR7 => ?_)
              obtain ⟨v10, g8, rfl, rfl, ho8⟩ := hR7
              refine o_rest ?_
              refine o_nil0 rfl ?_
              refine c_region ?_
              refine o_T (y_move rfl) rfl ?_
              refine o_T (y_sub rfl rfl rfl) rfl ?_
              refine o_L (y_assign rfl) rfl rfl ?_
              refine o_nil0 rfl ?_
              exact ⟨mm2, Nat.lt_succ_self _, _, _, ⟨_, _, v10, _, rfl, rfl, hm, ho8⟩, ⟨rfl, trivial⟩, ⟨rfl, rfl⟩, _, (s_take (s_take (s_take s_nil)))⟩
        · have hm := cd_f h2 hm
          refine c_exit ?_
          obtain ⟨rfl, rfl⟩ := pr2 hm
          exact ⟨_, _, ⟨v6, _, rfl, rfl, ho4⟩, ⟨rfl, trivial⟩, ⟨rfl, rfl⟩, _, (s_take (s_take (s_take s_nil)))⟩
      · rintro sh G ⟨v7, g5, rfl, rfl, ho5⟩
        refine c_region ?_
        refine o_T (y_move rfl) rfl ?_
        refine o_T (y_sub rfl rfl rfl) rfl ?_
        refine o_L (y_assign rfl) rfl rfl ?_
        refine o_nil0 rfl ?_
        exact ⟨mm1, Nat.lt_succ_self _, _, _, ⟨_, _, v7, _, rfl, rfl, hm, ho5⟩, ⟨rfl, trivial⟩, ⟨rfl, rfl⟩, _, (s_take (s_take (s_take s_nil)))⟩
    · have hm := cd_f h1 hm
      refine c_exit ?_
      obtain ⟨rfl, rfl⟩ := pr2 hm
      exact ⟨_, _, ⟨v4, _, rfl, rfl, ho2⟩, ⟨rfl, trivial⟩, ⟨rfl, rfl⟩, _, (s_take (s_take (s_take s_nil)))⟩
  · rintro sh G ⟨v5, g3, rfl, rfl, ho3⟩
    refine c_seq ?_
    refine c_region ?_
    refine o_T (y_move rfl) rfl ?_
    refine o_L (y_assign rfl) rfl rfl ?_
    refine o_nil0 rfl ?_
    refine c_ret ?_
    obtain rfl := p1 hm
    refine fun aX wX heX hsX => ret1 Tryz.results291 heX rfl (s_take (s_take (s_take s_nil))) ?_
    exact ⟨b1, v5, _, rfl, rfl, ho3⟩
end Go.Proofs.Qxb6500350aGreat
