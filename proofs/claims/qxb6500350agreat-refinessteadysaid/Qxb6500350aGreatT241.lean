/- MADE BY PROGRAM (tools350/mir.py): mirror and walk. -/
import Derived.Test.Qxb6500350aGreatF2
import Derived.Test.Qxb6500350aGreatT272
import Derived.Test.Qxb6500350aGreatT209
import Derived.Test.Qxb6500350aGreatT203
import Derived.Test.Qxb6500350aGreatT286
set_option linter.unusedVariables false
set_option linter.unusedSimpArgs false
set_option maxRecDepth 20000
set_option maxHeartbeats 4000000
namespace Go.Proofs.Qxb6500350aGreat
open Go.Eng

def op_241_19 : Array Go.Oper := #[{ dst := some 53, op := Go.Op.move (Go.Operand.tmp 6), type := 57, pos := "check.go:291", after := #[], guard := none }, { dst := some 54, op := Go.Op.move (Go.Operand.tmp 11), type := 3, pos := "check.go:291", after := #[], guard := none }, { dst := some 55, op := Go.Op.indexAddr 57 (Go.Operand.tmp 53) (Go.Operand.tmp 54), type := 0, pos := "check.go:291", after := #[{ on := 0, ground := Go.Ground.data }, { on := 1, ground := Go.Ground.data }], guard := none }, { dst := some 56, op := Go.Op.fieldAddr 71 (Go.Operand.tmp 55) 0, type := 0, pos := "check.go:291", after := #[{ on := 2, ground := Go.Ground.data }], guard := none }, { dst := some 57, op := Go.Op.load 9 (Go.Operand.tmp 56), type := 9, pos := "check.go:291", after := #[{ on := 3, ground := Go.Ground.data }], guard := none }, { dst := some 58, op := Go.Op.move (Go.Operand.tmp 8), type := 185, pos := "check.go:291", after := #[], guard := none }, { dst := some 59, op := Go.Op.move (Go.Operand.tmp 9), type := 3, pos := "check.go:291", after := #[], guard := none }, { dst := some 60, op := Go.Op.indexAddr 185 (Go.Operand.tmp 58) (Go.Operand.tmp 59), type := 0, pos := "check.go:291", after := #[{ on := 5, ground := Go.Ground.data }, { on := 6, ground := Go.Ground.data }], guard := none }, { dst := some 61, op := Go.Op.load 9 (Go.Operand.tmp 60), type := 9, pos := "check.go:291", after := #[{ on := 7, ground := Go.Ground.data }], guard := none }, { dst := some 62, op := Go.Op.call { callee := Go.Callee.value (Go.Operand.func 203), args := #[Go.Operand.tmp 57, Go.Operand.tmp 61], argTypes := #[9, 9] }, type := 4, pos := "check.go:291", after := #[{ on := 4, ground := Go.Ground.data }, { on := 8, ground := Go.Ground.data }], guard := none }]
def op_241_20 : Array Go.Oper := #[{ dst := some 63, op := Go.Op.move (Go.Operand.tmp 6), type := 57, pos := "check.go:292", after := #[], guard := none }, { dst := some 64, op := Go.Op.move (Go.Operand.tmp 11), type := 3, pos := "check.go:292", after := #[], guard := none }, { dst := some 65, op := Go.Op.indexAddr 57 (Go.Operand.tmp 63) (Go.Operand.tmp 64), type := 0, pos := "check.go:292", after := #[{ on := 0, ground := Go.Ground.data }, { on := 1, ground := Go.Ground.data }], guard := none }, { dst := some 66, op := Go.Op.fieldAddr 71 (Go.Operand.tmp 65) 0, type := 0, pos := "check.go:292", after := #[{ on := 2, ground := Go.Ground.data }], guard := none }, { dst := some 67, op := Go.Op.load 9 (Go.Operand.tmp 66), type := 9, pos := "check.go:292", after := #[{ on := 3, ground := Go.Ground.data }], guard := none }, { dst := some 68, op := Go.Op.move (Go.Operand.tmp 8), type := 185, pos := "check.go:292", after := #[], guard := none }, { dst := some 69, op := Go.Op.move (Go.Operand.tmp 9), type := 3, pos := "check.go:292", after := #[], guard := none }, { dst := some 70, op := Go.Op.indexAddr 185 (Go.Operand.tmp 68) (Go.Operand.tmp 69), type := 0, pos := "check.go:292", after := #[{ on := 5, ground := Go.Ground.data }, { on := 6, ground := Go.Ground.data }], guard := none }, { dst := some 71, op := Go.Op.load 9 (Go.Operand.tmp 70), type := 9, pos := "check.go:292", after := #[{ on := 7, ground := Go.Ground.data }], guard := none }, { dst := some 72, op := Go.Op.call { callee := Go.Callee.builtin Go.Builtin.len, args := #[Go.Operand.tmp 71], argTypes := #[9] }, type := 3, pos := "check.go:292", after := #[{ on := 8, ground := Go.Ground.data }], guard := none }, { dst := some 73, op := Go.Op.slice 9 (Go.Operand.tmp 67) (some (Go.Operand.tmp 72)) none none, type := 9, pos := "check.go:292", after := #[{ on := 4, ground := Go.Ground.data }, { on := 9, ground := Go.Ground.data }], guard := none }, { dst := some 12, op := Go.Op.assign (Go.Operand.tmp 73), type := 9, pos := "check.go:292", after := #[{ on := 10, ground := Go.Ground.data }, { on := 0, ground := Go.Ground.phase }, { on := 1, ground := Go.Ground.phase }, { on := 2, ground := Go.Ground.phase }, { on := 3, ground := Go.Ground.phase }, { on := 4, ground := Go.Ground.phase }, { on := 5, ground := Go.Ground.phase }, { on := 6, ground := Go.Ground.phase }, { on := 7, ground := Go.Ground.phase }, { on := 8, ground := Go.Ground.phase }, { on := 9, ground := Go.Ground.phase }, { on := 10, ground := Go.Ground.phase }], guard := none }]
theorem sb_241_19_0 : softB op_241_19 #[true, true, true, true, true, true, true, true, true, false] (Array.replicate 10 false) 0 = true := by kernel_rfl
theorem sb_241_19_1 : softB op_241_19 #[true, true, true, true, true, true, true, true, true, false] ((Array.replicate 10 false).setIfInBounds 0 true) 1 = true := by kernel_rfl
theorem sb_241_19_2 : softB op_241_19 #[true, true, true, true, true, true, true, true, true, false] (((Array.replicate 10 false).setIfInBounds 0 true).setIfInBounds 1 true) 2 = true := by kernel_rfl
theorem sb_241_19_3 : softB op_241_19 #[true, true, true, true, true, true, true, true, true, false] ((((Array.replicate 10 false).setIfInBounds 0 true).setIfInBounds 1 true).setIfInBounds 2 true) 3 = true := by kernel_rfl
theorem sb_241_19_4 : softB op_241_19 #[true, true, true, true, true, true, true, true, true, false] (((((Array.replicate 10 false).setIfInBounds 0 true).setIfInBounds 1 true).setIfInBounds 2 true).setIfInBounds 3 true) 4 = true := by kernel_rfl
theorem sb_241_19_5 : softB op_241_19 #[true, true, true, true, true, true, true, true, true, false] ((((((Array.replicate 10 false).setIfInBounds 0 true).setIfInBounds 1 true).setIfInBounds 2 true).setIfInBounds 3 true).setIfInBounds 4 true) 5 = true := by kernel_rfl
theorem sb_241_19_6 : softB op_241_19 #[true, true, true, true, true, true, true, true, true, false] (((((((Array.replicate 10 false).setIfInBounds 0 true).setIfInBounds 1 true).setIfInBounds 2 true).setIfInBounds 3 true).setIfInBounds 4 true).setIfInBounds 5 true) 6 = true := by kernel_rfl
theorem sb_241_19_7 : softB op_241_19 #[true, true, true, true, true, true, true, true, true, false] ((((((((Array.replicate 10 false).setIfInBounds 0 true).setIfInBounds 1 true).setIfInBounds 2 true).setIfInBounds 3 true).setIfInBounds 4 true).setIfInBounds 5 true).setIfInBounds 6 true) 7 = true := by kernel_rfl
theorem sb_241_19_8 : softB op_241_19 #[true, true, true, true, true, true, true, true, true, false] (((((((((Array.replicate 10 false).setIfInBounds 0 true).setIfInBounds 1 true).setIfInBounds 2 true).setIfInBounds 3 true).setIfInBounds 4 true).setIfInBounds 5 true).setIfInBounds 6 true).setIfInBounds 7 true) 8 = true := by kernel_rfl
theorem sb_241_19_9 : hardB op_241_19 ((((((((((Array.replicate 10 false).setIfInBounds 0 true).setIfInBounds 1 true).setIfInBounds 2 true).setIfInBounds 3 true).setIfInBounds 4 true).setIfInBounds 5 true).setIfInBounds 6 true).setIfInBounds 7 true).setIfInBounds 8 true) [9] = true := by kernel_rfl
theorem sb_241_19_10 : hardB op_241_19 (((((((((((Array.replicate 10 false).setIfInBounds 0 true).setIfInBounds 1 true).setIfInBounds 2 true).setIfInBounds 3 true).setIfInBounds 4 true).setIfInBounds 5 true).setIfInBounds 6 true).setIfInBounds 7 true).setIfInBounds 8 true).setIfInBounds 9 true) [] = true := by kernel_rfl
theorem sb_241_20_0 : softB op_241_20 #[true, true, true, true, true, true, true, true, true, true, true, true] (Array.replicate 12 false) 0 = true := by kernel_rfl
theorem sb_241_20_1 : softB op_241_20 #[true, true, true, true, true, true, true, true, true, true, true, true] ((Array.replicate 12 false).setIfInBounds 0 true) 1 = true := by kernel_rfl
theorem sb_241_20_2 : softB op_241_20 #[true, true, true, true, true, true, true, true, true, true, true, true] (((Array.replicate 12 false).setIfInBounds 0 true).setIfInBounds 1 true) 2 = true := by kernel_rfl
theorem sb_241_20_3 : softB op_241_20 #[true, true, true, true, true, true, true, true, true, true, true, true] ((((Array.replicate 12 false).setIfInBounds 0 true).setIfInBounds 1 true).setIfInBounds 2 true) 3 = true := by kernel_rfl
theorem sb_241_20_4 : softB op_241_20 #[true, true, true, true, true, true, true, true, true, true, true, true] (((((Array.replicate 12 false).setIfInBounds 0 true).setIfInBounds 1 true).setIfInBounds 2 true).setIfInBounds 3 true) 4 = true := by kernel_rfl
theorem sb_241_20_5 : softB op_241_20 #[true, true, true, true, true, true, true, true, true, true, true, true] ((((((Array.replicate 12 false).setIfInBounds 0 true).setIfInBounds 1 true).setIfInBounds 2 true).setIfInBounds 3 true).setIfInBounds 4 true) 5 = true := by kernel_rfl
theorem sb_241_20_6 : softB op_241_20 #[true, true, true, true, true, true, true, true, true, true, true, true] (((((((Array.replicate 12 false).setIfInBounds 0 true).setIfInBounds 1 true).setIfInBounds 2 true).setIfInBounds 3 true).setIfInBounds 4 true).setIfInBounds 5 true) 6 = true := by kernel_rfl
theorem sb_241_20_7 : softB op_241_20 #[true, true, true, true, true, true, true, true, true, true, true, true] ((((((((Array.replicate 12 false).setIfInBounds 0 true).setIfInBounds 1 true).setIfInBounds 2 true).setIfInBounds 3 true).setIfInBounds 4 true).setIfInBounds 5 true).setIfInBounds 6 true) 7 = true := by kernel_rfl
theorem sb_241_20_8 : softB op_241_20 #[true, true, true, true, true, true, true, true, true, true, true, true] (((((((((Array.replicate 12 false).setIfInBounds 0 true).setIfInBounds 1 true).setIfInBounds 2 true).setIfInBounds 3 true).setIfInBounds 4 true).setIfInBounds 5 true).setIfInBounds 6 true).setIfInBounds 7 true) 8 = true := by kernel_rfl
theorem sb_241_20_9 : softB op_241_20 #[true, true, true, true, true, true, true, true, true, true, true, true] ((((((((((Array.replicate 12 false).setIfInBounds 0 true).setIfInBounds 1 true).setIfInBounds 2 true).setIfInBounds 3 true).setIfInBounds 4 true).setIfInBounds 5 true).setIfInBounds 6 true).setIfInBounds 7 true).setIfInBounds 8 true) 9 = true := by kernel_rfl
theorem sb_241_20_10 : softB op_241_20 #[true, true, true, true, true, true, true, true, true, true, true, true] (((((((((((Array.replicate 12 false).setIfInBounds 0 true).setIfInBounds 1 true).setIfInBounds 2 true).setIfInBounds 3 true).setIfInBounds 4 true).setIfInBounds 5 true).setIfInBounds 6 true).setIfInBounds 7 true).setIfInBounds 8 true).setIfInBounds 9 true) 10 = true := by kernel_rfl
theorem sb_241_20_11 : softB op_241_20 #[true, true, true, true, true, true, true, true, true, true, true, true] ((((((((((((Array.replicate 12 false).setIfInBounds 0 true).setIfInBounds 1 true).setIfInBounds 2 true).setIfInBounds 3 true).setIfInBounds 4 true).setIfInBounds 5 true).setIfInBounds 6 true).setIfInBounds 7 true).setIfInBounds 8 true).setIfInBounds 9 true).setIfInBounds 10 true) 11 = true := by kernel_rfl
theorem sb_241_20_12 : hardB op_241_20 (((((((((((((Array.replicate 12 false).setIfInBounds 0 true).setIfInBounds 1 true).setIfInBounds 2 true).setIfInBounds 3 true).setIfInBounds 4 true).setIfInBounds 5 true).setIfInBounds 6 true).setIfInBounds 7 true).setIfInBounds 8 true).setIfInBounds 9 true).setIfInBounds 10 true).setIfInBounds 11 true) [] = true := by kernel_rfl
/- api.Weight -/
def m241_w2 (n : Nat) (x1 : (List File)) (mm : Nat) : (List Str) → Int → Option ((List Str) × Int) := it2 (fun lp2 l5 c3 =>
cond (decide (c3 < (x1.length : Int))) (
Option.bind (ixL x1 c3) fun x2 =>
ob1 (m272 n l5 x2.data) fun l7 =>
lp2 l7 (wi (c3 + 1))) (
some (l5, c3))) mm
def m241_w4 (n : Nat) (x1 : (List File)) (l8 : List Str) (c5 : Int) (mm : Nat) : Str → Int → Option (Str × Int) := it2 (fun lp4 c7 c8 =>
cond (decide (c8 < (x1.length : Int))) (
Option.bind (ixL x1 c8) fun x3 =>
Option.bind (ixL l8 c5) fun x4 =>
ob1 (m203 n x3.path x4) fun c11 =>
cond c11 (
Option.bind (ixL x1 c8) fun x5 =>
Option.bind (ixL l8 c5) fun x6 =>
Option.bind (sSl x5.path (x6.length : Int) (x5.path.length : Int)) fun s1 =>
ob1 (m286 n (s1.length : Int)) fun c12 =>
Option.bind (ixL x1 c8) fun x7 =>
ob1 (m286 n x7.mode) fun c13 =>
Option.bind (ixL x1 c8) fun x8 =>
ob1 (m286 n (x8.data.length : Int)) fun c14 =>
Option.bind (sAdd c7 c12) fun s2 =>
Option.bind (sAdd s2 [58]) fun s3 =>
Option.bind (sAdd s3 s1) fun s4 =>
Option.bind (sAdd s4 c13) fun s5 =>
Option.bind (sAdd s5 [58]) fun s6 =>
Option.bind (sAdd s6 c14) fun s7 =>
Option.bind (sAdd s7 [58]) fun s8 =>
Option.bind (ixL x1 c8) fun x9 =>
Option.bind (sAdd s8 x9.data) fun s9 =>
lp4 s9 (wi (c8 + 1))) (
lp4 c7 (wi (c8 + 1)))) (
some (c7, c8))) mm
def m241_w3 (n : Nat) (x1 : (List File)) (l8 : List Str) (mm : Nat) : (List Str) → Int → Option ((List Str) × Int) := it2 (fun lp3 l9 c5 =>
cond (decide (c5 < (l8.length : Int))) (
ob2 (m241_w4 n x1 l8 c5 n [] 0) fun c9 c10 =>
ob1 (m272 n l9 c9) fun l11 =>
lp3 l11 (wi (c5 + 1))) (
some (l9, c5))) mm
def m241_w1 (n : Nat) (snaps : (List (List File))) (mm : Nat) : (List Str) → (List Str) → Int → Option ((List Str) × (List Str) × Int) := it3 (fun lp1 l1 l2 c1 =>
cond (decide (c1 < (snaps.length : Int))) (
Option.bind (ixL snaps c1) fun x1 =>
ob2 (m241_w2 n x1 n l1 0) fun l6 c4 =>
ob1 (m209 n x1) fun l8 =>
ob2 (m241_w3 n x1 l8 n l2 0) fun l10 c6 =>
lp1 l6 l10 (wi (c1 + 1))) (
some (l1, l2, c1))) mm
def m241 (n : Nat) (snaps : (List (List File))) : Option (Int) :=
ob3 (m241_w1 n snaps n ([] : List Str) ([] : List Str) 0) fun l3 l4 c2 =>
some (wi ((l3.length : Int) + (l4.length : Int)))
theorem t241 {n : Nat} {C : List Chunk} {rc1 : Int} {v1 : Value} {snaps : (List (List File))} (hr1 : Rd (rList rFile 57) C v1 snaps)  (hm : m241 n snaps = some rc1) : Trip Tryz.prog 241 #[v1] ([] ++ [C]) (fun u S' => .int .i64 rc1 = u ∧ S' = [] ++ [C]) := by
  refine fn_entry (args := [v1]) Tryz.func241 rfl Tryz.ntmps241 rfl (fun w0 => ?_)
  refine c_seq ?_
  refine c_region ?_
  refine o_L (y_assign rfl) rfl rfl ?_
  refine o_nil0 rfl ?_
  refine c_seq ?_
  refine c_region ?_
  have ho1 : Own rStr (.slice none 0 0) [] [] := Own.nil
  refine o_emp ?_
  refine o_L (y_assign rfl) rfl rfl ?_
  refine o_nil0 rfl ?_
  refine c_seq ?_
  refine c_region ?_
  have ho2 : Own rStr (.slice none 0 0) [] [] := Own.nil
  refine o_emp ?_
  refine o_L (y_assign rfl) rfl rfl ?_
  refine o_nil0 rfl ?_
  refine c_seq ?_
  refine c_seq ?_
  refine c_region ?_
  refine o_L (y_assign rfl) rfl rfl ?_
  refine o_nil0 rfl ?_
  obtain ⟨l3, l4, c2, hj1, hm⟩ := bd3 hm
  refine c_joinP (n := 2) (fun sh G => ∃ (v4 : Value), ∃ (g3 : List Chunk), ∃ (v5 : Value), ∃ (g4 : List Chunk), sh = [(3, v4), (4, v5), (5, .int .i64 c2)] ∧ G = [g3, g4] ∧ Own rStr v4 l3 g3 ∧ Own rStr v5 l4 g4) (s_take (s_take (s_take s_nil))) (.s (.s .z)) (fun _ _ h => h) ?_ ?_
  · skip
    refine c_block ?_
    refine c_loopP (n := 2) (fun mm sh G => ∃ (l1 : List Str), ∃ (l2 : List Str), ∃ (c1 : Int), ∃ (v2 : Value), ∃ (g1 : List Chunk), ∃ (v3 : Value), ∃ (g2 : List Chunk), sh = [(3, v2), (4, v3), (5, .int .i64 c1)] ∧ G = [g1, g2] ∧ m241_w1 n snaps mm l1 l2 c1 = some (l3, l4, c2) ∧ Own rStr v2 l1 g1 ∧ Own rStr v3 l2 g2) n (s_take (s_take (s_take s_nil))) (.s (.s .z)) ⟨_, _, ⟨_, _, _, (.slice none 0 0), _, (.slice none 0 0), _, rfl, rfl, hj1, ho1, ho2⟩, ⟨rfl, rfl, rfl, trivial⟩, _, (s_get (ks k0) (s_take (s_take s_nil)))⟩ ?_
    rintro mm sh G ⟨l1, l2, c1, v2, g1, v3, g2, rfl, rfl, hm, ho3, ho4⟩
    obtain ⟨mm1, rfl, hm⟩ := it3_s hm
    refine c_seq ?_
    refine c_seq ?_
    refine c_region ?_
    refine o_T (y_move rfl) rfl ?_
    refine o_T (y_move rfl) rfl ?_
    refine o_T (y_lenR hr1 Tryz.underlying251 rfl) rfl ?_
    refine o_T (y_lss rfl rfl) rfl ?_
    refine o_nil1 19 rfl rfl ?_
    refine c_cond rfl (fun h1 => ?_) (fun h1 => ?_)
    · have hm := cd_t h1 hm
      refine c_skip ?_
      refine c_seq ?_
      refine c_block ?_
      refine c_seq ?_
      refine c_region ?_
      refine o_T (y_move rfl) rfl ?_
      refine o_T (y_move rfl) rfl ?_
      obtain ⟨x1, hx1, hm⟩ := bd hm
      obtain ⟨b1, w1, cs1, y1, z1, vs1, hc1, ha1, hr2, hy1⟩ := hr1.ix hx1
      obtain ⟨v6, rfl, hr3⟩ := hr2
      refine o_T (hy1 sl_251 rfl rfl rfl) rfl ?_
      refine o_ld one_57 rfl (ms (ms (mg hc1))) (At.getA (ha1)) rfl ?_
      refine o_L (y_assign rfl) rfl rfl ?_
      refine o_nil0 rfl ?_
      refine c_seq ?_
      refine c_seq ?_
      refine c_region ?_
      refine o_L (y_assign rfl) rfl rfl ?_
      refine o_nil0 rfl ?_
      obtain ⟨l6, c4, hj2, hm⟩ := bd2 hm
      refine c_joinP (n := 1) (fun sh G => ∃ (v8 : Value), ∃ (g6 : List Chunk), sh = [(3, v8), (7, .int .i64 c4)] ∧ G = [g6] ∧ Own rStr v8 l6 g6) (s_take (s_take (s_take s_nil))) (.s .z) (fun _ _ h => h) ?_ ?_
      · skip
        refine c_block ?_
        refine c_loopP (n := 1) (fun mm sh G => ∃ (l5 : List Str), ∃ (c3 : Int), ∃ (v7 : Value), ∃ (g5 : List Chunk), sh = [(3, v7), (7, .int .i64 c3)] ∧ G = [g5] ∧ m241_w2 n x1 mm l5 c3 = some (l6, c4) ∧ Own rStr v7 l5 g5) n (s_take (s_take (s_take s_nil))) (.s .z) ⟨_, _, ⟨_, _, v2, _, rfl, rfl, hj2, ho3⟩, ⟨rfl, rfl, trivial⟩, _, (s_take (s_take (s_take s_nil)))⟩ ?_
        rintro mm sh G ⟨l5, c3, v7, g5, rfl, rfl, hm, ho7⟩
        obtain ⟨mm2, rfl, hm⟩ := it2_s hm
        refine c_seq ?_
        refine c_seq ?_
        refine c_region ?_
        refine o_T (y_move rfl) rfl ?_
        refine o_T (y_move rfl) rfl ?_
        refine o_T (y_lenR hr3 Tryz.underlying57 rfl) rfl ?_
        refine o_T (y_lss rfl rfl) rfl ?_
        refine o_nil1 29 rfl rfl ?_
        refine c_cond rfl (fun h2 => ?_) (fun h2 => ?_)
        · have hm := cd_t h2 hm
          refine c_skip ?_
          refine c_seq ?_
          refine c_block ?_
          refine c_region ?_
          refine o_T (y_move rfl) rfl ?_
          refine o_T (y_move rfl) rfl ?_
          refine o_T (y_move rfl) rfl ?_
          obtain ⟨x2, hx2, hm⟩ := bd hm
          obtain ⟨b2, w2, cs2, y2, z2, vs2, hc2, ha2, hr4, hy2⟩ := hr3.ix hx2
          obtain rfl : vs2 = File.enc x2 := hr4
          refine o_T (hy2 sl_57 rfl rfl rfl) rfl ?_
          refine o_T (y_fa fl_71_1 rfl) rfl ?_
          refine o_ld one_9 rfl (ms (ms (mg hc2))) (At.getA (ha2.comp File.a_data)) rfl ?_
          obtain ⟨l7, hx3, hm⟩ := bd1 hm
          refine o_callC en_272 rfl (s_take s_nil) (t272 ho7 hx3) rfl (fun u1 S1 hR1 => ?_)
          obtain ⟨v9, g7, rfl, rfl, ho9⟩ := hR1
          refine o_rest ?_
          refine o_L (y_assign rfl) rfl rfl ?_
          refine o_nil0 rfl ?_
          refine c_region ?_
          refine o_T (y_move rfl) rfl ?_
          refine o_T (y_add rfl rfl rfl) rfl ?_
          refine o_L (y_assign rfl) rfl rfl ?_
          refine o_nil0 rfl ?_
          exact ⟨mm2, Nat.lt_succ_self _, _, _, ⟨_, _, v9, _, rfl, rfl, hm, ho9⟩, ⟨rfl, rfl, trivial⟩, ⟨rfl, rfl⟩, _, (s_take (s_take (s_take s_nil)))⟩
        · have hm := cd_f h2 hm
          refine c_exit ?_
          obtain ⟨rfl, rfl⟩ := pr2 hm
          exact ⟨_, _, ⟨v7, _, rfl, rfl, ho7⟩, ⟨rfl, rfl, trivial⟩, ⟨rfl, rfl⟩, _, (s_take (s_take (s_take s_nil)))⟩
      · rintro sh G ⟨v8, g6, rfl, rfl, ho8⟩
        refine c_seq ?_
        refine c_region ?_
        refine o_T (y_move rfl) rfl ?_
        obtain ⟨l8, hx4, hm⟩ := bd1 hm
        refine o_callC en_209 rfl s_nil (t209 (hr3.mono (fun _ hz => (ms (ms (mg hz))))) hx4) rfl (fun u2 S2 hR2 => ?_)
        obtain ⟨v10, g8, rfl, rfl, ho10⟩ := hR2
        refine o_rest ?_
        refine o_L (y_assign rfl) rfl rfl ?_
        refine o_nil0 rfl ?_
        refine c_seq ?_
        refine c_region ?_
        refine o_L (y_assign rfl) rfl rfl ?_
        refine o_nil0 rfl ?_
        obtain ⟨l10, c6, hj3, hm⟩ := bd2 hm
        refine c_joinP (n := 1) (fun sh G => ∃ (v12 : Value), ∃ (g10 : List Chunk), sh = [(4, v12), (9, .int .i64 c6)] ∧ G = [g10] ∧ Own rStr v12 l10 g10) (s_get (ks (ks k0)) (s_take (s_take (s_take s_nil)))) (.s .z) (fun _ _ h => h) ?_ ?_
        · skip
          refine c_block ?_
          refine c_loopP (n := 1) (fun mm sh G => ∃ (l9 : List Str), ∃ (c5 : Int), ∃ (v11 : Value), ∃ (g9 : List Chunk), sh = [(4, v11), (9, .int .i64 c5)] ∧ G = [g9] ∧ m241_w3 n x1 l8 mm l9 c5 = some (l10, c6) ∧ Own rStr v11 l9 g9) n (s_get (ks (ks k0)) (s_take (s_take (s_take s_nil)))) (.s .z) ⟨_, _, ⟨_, _, v3, _, rfl, rfl, hj3, ho4⟩, ⟨rfl, rfl, trivial⟩, _, (s_get (ks (ks k0)) (s_take (s_take (s_take s_nil))))⟩ ?_
          rintro mm sh G ⟨l9, c5, v11, g9, rfl, rfl, hm, ho11⟩
          obtain ⟨mm3, rfl, hm⟩ := it2_s hm
          refine c_seq ?_
          refine c_seq ?_
          refine c_region ?_
          refine o_T (y_move rfl) rfl ?_
          refine o_T (y_move rfl) rfl ?_
          refine o_T (y_lenR ho10.rd Tryz.underlying185 rfl) rfl ?_
          refine o_T (y_lss rfl rfl) rfl ?_
          refine o_nil1 44 rfl rfl ?_
          refine c_cond rfl (fun h3 => ?_) (fun h3 => ?_)
          · have hm := cd_t h3 hm
            refine c_skip ?_
            refine c_seq ?_
            refine c_block ?_
            refine c_seq ?_
            refine c_region ?_
            refine o_L (y_assign rfl) rfl rfl ?_
            refine o_nil0 rfl ?_
            refine c_seq ?_
            refine c_seq ?_
            refine c_region ?_
            refine o_L (y_assign rfl) rfl rfl ?_
            refine o_nil0 rfl ?_
            obtain ⟨c9, c10, hj4, hm⟩ := bd2 hm
            refine c_joinP (n := 0) (fun sh G => sh = [(10, .string ⟨(c9 : Str).toArray⟩), (11, .int .i64 c10)] ∧ G = []) (s_take (s_take (s_take (s_take s_nil)))) .z (fun _ _ h => h) ?_ ?_
            · skip
              refine c_block ?_
              refine c_loopP (n := 0) (fun mm sh G => ∃ (c7 : Str), ∃ (c8 : Int), sh = [(10, .string ⟨(c7 : Str).toArray⟩), (11, .int .i64 c8)] ∧ G = [] ∧ m241_w4 n x1 l8 c5 mm c7 c8 = some (c9, c10)) n (s_take (s_take (s_take (s_take s_nil)))) .z ⟨_, _, ⟨_, _, rfl, rfl, hj4⟩, ⟨rfl, rfl, trivial⟩, _, (s_take (s_take (s_take (s_take s_nil))))⟩ ?_
              rintro mm sh G ⟨c7, c8, rfl, rfl, hm⟩
              obtain ⟨mm4, rfl, hm⟩ := it2_s hm
              refine c_seq ?_
              refine c_seq ?_
              refine c_region ?_
              refine o_T (y_move rfl) rfl ?_
              refine o_T (y_move rfl) rfl ?_
              refine o_T (y_lenR hr3 Tryz.underlying57 rfl) rfl ?_
              refine o_T (y_lss rfl rfl) rfl ?_
              refine o_nil1 50 rfl rfl ?_
              refine c_cond rfl (fun h4 => ?_) (fun h4 => ?_)
              · have hm := cd_t h4 hm
                refine c_skip ?_
                refine c_seq ?_
                refine c_block ?_
                refine c_seq ?_
                refine c_draw #[true, true, true, true, true, true, true, true, true, false] rfl (n := 10) rfl ?_
                refine d_T 0 rfl sb_241_19_0 rfl (y_move rfl) rfl ?_
                refine d_T 1 rfl sb_241_19_1 rfl (y_move rfl) rfl ?_
                obtain ⟨x3, hx5, hm⟩ := bd hm
                obtain ⟨b3, w3, cs3, y3, z3, vs3, hc3, ha3, hr5, hy3⟩ := hr3.ix hx5
                obtain rfl : vs3 = File.enc x3 := hr5
                refine d_T 2 rfl sb_241_19_2 rfl (hy3 sl_57 rfl rfl rfl) rfl ?_
                refine d_T 3 rfl sb_241_19_3 rfl (y_fa fl_71_0 rfl) rfl ?_
                refine d_ld 4 rfl sb_241_19_4 one_9 rfl (fun x hx => hx) (ms (ms (ms (mg hc3)))) (At.getA (ha3.comp File.a_path)) rfl ?_
                refine d_T 5 rfl sb_241_19_5 rfl (y_move rfl) rfl ?_
                refine d_T 6 rfl sb_241_19_6 rfl (y_move rfl) rfl ?_
                obtain ⟨x4, hx6, hm⟩ := bd hm
                obtain ⟨b4, w4, cs4, y4, z4, vs4, hc4, ha4, hr6, hy4⟩ := ho10.rd.ix hx6
                obtain rfl : vs4 = (encS x4) := hr6
                refine d_T 7 rfl sb_241_19_7 rfl (hy4 sl_185 rfl rfl rfl) rfl ?_
                refine d_ld 8 rfl sb_241_19_8 one_9 rfl (fun x hx => hx) (ms (mg hc4)) (At.getA (ha4)) rfl ?_
                refine d_hard 9 rfl sb_241_19_9 ?_
                obtain ⟨c11, hx7, hm⟩ := bd1 hm
                refine o_callC en_203 rfl s_nil (t203 hx7) rfl (fun u3 S3 hR3 => ?_)
                obtain ⟨rfl, rfl⟩ := hR3
                refine o_rest ?_
                refine o_stop (fun h => nomatch h) ?_
                refine d_nil1 62 sb_241_19_10 rfl rfl ?_
                refine c_cond rfl (fun h5 => ?_) (fun h5 => ?_)
                · have hm := cd_t h5 hm
                  refine c_seq ?_
                  refine c_draw #[true, true, true, true, true, true, true, true, true, true, true, true] rfl (n := 12) rfl ?_
                  refine d_T 0 rfl sb_241_20_0 rfl (y_move rfl) rfl ?_
                  refine d_T 1 rfl sb_241_20_1 rfl (y_move rfl) rfl ?_
                  obtain ⟨x5, hx8, hm⟩ := bd hm
                  obtain ⟨b5, w5, cs5, y5, z5, vs5, hc5, ha5, hr7, hy5⟩ := hr3.ix hx8
                  obtain rfl : vs5 = File.enc x5 := hr7
                  refine d_T 2 rfl sb_241_20_2 rfl (hy5 sl_57 rfl rfl rfl) rfl ?_
                  refine d_T 3 rfl sb_241_20_3 rfl (y_fa fl_71_0 rfl) rfl ?_
                  refine d_ld 4 rfl sb_241_20_4 one_9 rfl (fun x hx => hx) (ms (ms (ms (mg hc5)))) (At.getA (ha5.comp File.a_path)) rfl ?_
                  refine d_T 5 rfl sb_241_20_5 rfl (y_move rfl) rfl ?_
                  refine d_T 6 rfl sb_241_20_6 rfl (y_move rfl) rfl ?_
                  obtain ⟨x6, hx9, hm⟩ := bd hm
                  obtain ⟨b6, w6, cs6, y6, z6, vs6, hc6, ha6, hr8, hy6⟩ := ho10.rd.ix hx9
                  obtain rfl : vs6 = (encS x6) := hr8
                  refine d_T 7 rfl sb_241_20_7 rfl (hy6 sl_185 rfl rfl rfl) rfl ?_
                  refine d_ld 8 rfl sb_241_20_8 one_9 rfl (fun x hx => hx) (ms (mg hc6)) (At.getA (ha6)) rfl ?_
                  refine d_T 9 rfl sb_241_20_9 rfl (y_slen Tryz.underlying9 rfl) rfl ?_
                  obtain ⟨s1, hx10, hm⟩ := bd hm
                  refine d_T 10 rfl sb_241_20_10 rfl (y_ssl Tryz.underlying9 rfl (biS rfl) biN hx10) rfl ?_
                  refine d_L 11 rfl sb_241_20_11 rfl (y_assign rfl) rfl rfl ?_
                  refine d_nil0 sb_241_20_12 rfl ?_
                  refine c_seq ?_
                  refine c_region ?_
                  refine o_T (y_move rfl) rfl ?_
                  refine o_T (y_slen Tryz.underlying9 rfl) rfl ?_
                  obtain ⟨c12, hx11, hm⟩ := bd1 hm
                  refine o_callC en_286 rfl s_nil (t286 hx11) rfl (fun u4 S4 hR4 => ?_)
                  obtain ⟨rfl, rfl⟩ := hR4
                  refine o_rest ?_
                  refine o_L (y_assign rfl) rfl rfl ?_
                  refine o_nil0 rfl ?_
                  refine c_seq ?_
                  refine c_region ?_
                  refine o_T (y_move rfl) rfl ?_
                  refine o_T (y_move rfl) rfl ?_
                  obtain ⟨x7, hx12, hm⟩ := bd hm
                  obtain ⟨b7, w7, cs7, y7, z7, vs7, hc7, ha7, hr9, hy7⟩ := hr3.ix hx12
                  obtain rfl : vs7 = File.enc x7 := hr9
                  refine o_T (hy7 sl_57 rfl rfl rfl) rfl ?_
                  refine o_T (y_fa fl_71_2 rfl) rfl ?_
                  refine o_ld one_3 rfl (ms (ms (ms (mg hc7)))) (At.getA (ha7.comp File.a_mode)) rfl ?_
                  obtain ⟨c13, hx13, hm⟩ := bd1 hm
                  refine o_callC en_286 rfl s_nil (t286 hx13) rfl (fun u5 S5 hR5 => ?_)
                  obtain ⟨rfl, rfl⟩ := hR5
                  refine o_rest ?_
                  refine o_L (y_assign rfl) rfl rfl ?_
                  refine o_nil0 rfl ?_
                  refine c_seq ?_
                  refine c_region ?_
                  refine o_T (y_move rfl) rfl ?_
                  refine o_T (y_move rfl) rfl ?_
                  obtain ⟨x8, hx14, hm⟩ := bd hm
                  obtain ⟨b8, w8, cs8, y8, z8, vs8, hc8, ha8, hr10, hy8⟩ := hr3.ix hx14
                  obtain rfl : vs8 = File.enc x8 := hr10
                  refine o_T (hy8 sl_57 rfl rfl rfl) rfl ?_
                  refine o_T (y_fa fl_71_1 rfl) rfl ?_
                  refine o_ld one_9 rfl (ms (ms (ms (mg hc8)))) (At.getA (ha8.comp File.a_data)) rfl ?_
                  refine o_T (y_slen Tryz.underlying9 rfl) rfl ?_
                  obtain ⟨c14, hx15, hm⟩ := bd1 hm
                  refine o_callC en_286 rfl s_nil (t286 hx15) rfl (fun u6 S6 hR6 => ?_)
                  obtain ⟨rfl, rfl⟩ := hR6
                  refine o_rest ?_
                  refine o_L (y_assign rfl) rfl rfl ?_
                  refine o_nil0 rfl ?_
                  refine c_region ?_
                  refine o_T (y_move rfl) rfl ?_
                  refine o_T (y_move rfl) rfl ?_
                  obtain ⟨s2, hx16, hm⟩ := bd hm
                  refine o_T (y_sadd rfl rfl hx16) rfl ?_
                  obtain ⟨s3, hx17, hm⟩ := bd hm
                  refine o_T (y_sadd rfl rfl hx17) rfl ?_
                  refine o_T (y_move rfl) rfl ?_
                  obtain ⟨s4, hx18, hm⟩ := bd hm
                  refine o_T (y_sadd rfl rfl hx18) rfl ?_
                  refine o_T (y_move rfl) rfl ?_
                  obtain ⟨s5, hx19, hm⟩ := bd hm
                  refine o_T (y_sadd rfl rfl hx19) rfl ?_
                  obtain ⟨s6, hx20, hm⟩ := bd hm
                  refine o_T (y_sadd rfl rfl hx20) rfl ?_
                  refine o_T (y_move rfl) rfl ?_
                  obtain ⟨s7, hx21, hm⟩ := bd hm
                  refine o_T (y_sadd rfl rfl hx21) rfl ?_
                  obtain ⟨s8, hx22, hm⟩ := bd hm
                  refine o_T (y_sadd rfl rfl hx22) rfl ?_
                  refine o_T (y_move rfl) rfl ?_
                  refine o_T (y_move rfl) rfl ?_
                  obtain ⟨x9, hx23, hm⟩ := bd hm
                  obtain ⟨b9, w9, cs9, y9, z9, vs9, hc9, ha9, hr11, hy9⟩ := hr3.ix hx23
                  obtain rfl : vs9 = File.enc x9 := hr11
                  refine o_T (hy9 sl_57 rfl rfl rfl) rfl ?_
                  refine o_T (y_fa fl_71_1 rfl) rfl ?_
                  refine o_ld one_9 rfl (ms (ms (ms (mg hc9)))) (At.getA (ha9.comp File.a_data)) rfl ?_
                  obtain ⟨s9, hx24, hm⟩ := bd hm
                  refine o_T (y_sadd rfl rfl hx24) rfl ?_
                  refine o_L (y_assign rfl) rfl rfl ?_
                  refine o_nil0 rfl ?_
                  refine c_region ?_
                  refine o_T (y_move rfl) rfl ?_
                  refine o_T (y_add rfl rfl rfl) rfl ?_
                  refine o_L (y_assign rfl) rfl rfl ?_
                  refine o_nil0 rfl ?_
                  exact ⟨mm4, Nat.lt_succ_self _, _, _, ⟨_, _, rfl, rfl, hm⟩, ⟨rfl, rfl, trivial⟩, ⟨rfl, rfl⟩, _, (s_take (s_take (s_take (s_take s_nil))))⟩
                · have hm := cd_f h5 hm
                  refine c_skip ?_
                  refine c_region ?_
                  refine o_T (y_move rfl) rfl ?_
                  refine o_T (y_add rfl rfl rfl) rfl ?_
                  refine o_L (y_assign rfl) rfl rfl ?_
                  refine o_nil0 rfl ?_
                  exact ⟨mm4, Nat.lt_succ_self _, _, _, ⟨_, _, rfl, rfl, hm⟩, ⟨rfl, rfl, trivial⟩, ⟨rfl, rfl⟩, _, (s_take (s_take (s_take (s_take s_nil))))⟩
              · have hm := cd_f h4 hm
                refine c_exit ?_
                obtain ⟨rfl, rfl⟩ := pr2 hm
                exact ⟨_, _, ⟨rfl, rfl⟩, ⟨rfl, rfl, trivial⟩, ⟨rfl, rfl⟩, _, (s_take (s_take (s_take (s_take s_nil))))⟩
            · rintro sh G ⟨rfl, rfl⟩
              refine c_region ?_
              refine o_T (y_move rfl) rfl ?_
              refine o_T (y_move rfl) rfl ?_
              obtain ⟨l11, hx25, hm⟩ := bd1 hm
              refine o_callC en_272 rfl (s_take s_nil) (t272 ho11 hx25) rfl (fun u7 S7 hR7 => ?_)
              obtain ⟨v13, g11, rfl, rfl, ho13⟩ := hR7
              refine o_rest ?_
              refine o_L (y_assign rfl) rfl rfl ?_
              refine o_nil0 rfl ?_
              refine c_region ?_
              refine o_T (y_move rfl) rfl ?_
              refine o_T (y_add rfl rfl rfl) rfl ?_
              refine o_L (y_assign rfl) rfl rfl ?_
              refine o_nil0 rfl ?_
              exact ⟨mm3, Nat.lt_succ_self _, _, _, ⟨_, _, v13, _, rfl, rfl, hm, ho13⟩, ⟨rfl, rfl, trivial⟩, ⟨rfl, rfl⟩, _, (s_take (s_take (s_take (s_take s_nil))))⟩
          · have hm := cd_f h3 hm
            refine c_exit ?_
            obtain ⟨rfl, rfl⟩ := pr2 hm
            exact ⟨_, _, ⟨v11, _, rfl, rfl, ho11⟩, ⟨rfl, rfl, trivial⟩, ⟨rfl, rfl⟩, _, (s_take (s_take (s_take (s_take s_nil))))⟩
        · rintro sh G ⟨v12, g10, rfl, rfl, ho12⟩
          refine c_region ?_
          refine o_T (y_move rfl) rfl ?_
          refine o_T (y_add rfl rfl rfl) rfl ?_
          refine o_L (y_assign rfl) rfl rfl ?_
          refine o_nil0 rfl ?_
          exact ⟨mm1, Nat.lt_succ_self _, _, _, ⟨_, _, _, v8, _, v12, _, rfl, rfl, hm, ho8, ho12⟩, ⟨rfl, rfl, rfl, trivial⟩, ⟨rfl, rfl⟩, _, (s_get (ks (ks k0)) (s_take (s_skip (s_take s_nil))))⟩
    · have hm := cd_f h1 hm
      refine c_exit ?_
      obtain ⟨rfl, rfl, rfl⟩ := pr3 hm
      exact ⟨_, _, ⟨v2, _, v3, _, rfl, rfl, ho3, ho4⟩, ⟨rfl, rfl, rfl, trivial⟩, ⟨rfl, rfl⟩, _, (s_take (s_take (s_take s_nil)))⟩
  · rintro sh G ⟨v4, g3, v5, g4, rfl, rfl, ho5, ho6⟩
    refine c_seq ?_
    refine c_region ?_
    refine o_T (y_move rfl) rfl ?_
    refine o_T (y_lenR ho5.rd Tryz.underlying185 rfl) rfl ?_
    refine o_T (y_move rfl) rfl ?_
    refine o_T (y_lenR ho6.rd Tryz.underlying185 rfl) rfl ?_
    refine o_T (y_add rfl rfl rfl) rfl ?_
    refine o_L (y_assign rfl) rfl rfl ?_
    refine o_nil0 rfl ?_
    refine c_ret ?_
    obtain rfl := p1 hm
    refine fun aX wX heX hsX => ret1 Tryz.results241 heX rfl (s_skip (s_skip (s_take s_nil))) ?_
    exact ⟨rfl, rfl⟩
end Go.Proofs.Qxb6500350aGreat
