/- MADE BY PROGRAM (tools350/mir.py): mirror and walk. -/
import Derived.Test.Qxb6500350aGreatF2
import Derived.Test.Qxb6500350aGreatT257
set_option linter.unusedVariables false
set_option linter.unusedSimpArgs false
set_option maxRecDepth 20000
set_option maxHeartbeats 4000000
namespace Go.Proofs.Qxb6500350aGreat
open Go.Eng

def op_186_11 : Array Go.Oper := #[{ dst := some 53, op := Go.Op.fieldAddr 203 (Go.Operand.tmp 9) 1, type := 0, pos := "text.go:104", after := #[], guard := none }, { dst := some 54, op := Go.Op.load 185 (Go.Operand.tmp 53), type := 185, pos := "text.go:104", after := #[{ on := 0, ground := Go.Ground.data }], guard := none }, { dst := some 55, op := Go.Op.move (Go.Operand.tmp 0), type := 185, pos := "text.go:104", after := #[], guard := none }, { dst := some 56, op := Go.Op.move (Go.Operand.tmp 7), type := 3, pos := "text.go:104", after := #[], guard := none }, { dst := some 57, op := Go.Op.indexAddr 185 (Go.Operand.tmp 55) (Go.Operand.tmp 56), type := 0, pos := "text.go:104", after := #[{ on := 2, ground := Go.Ground.data }, { on := 3, ground := Go.Ground.data }], guard := none }, { dst := some 58, op := Go.Op.load 9 (Go.Operand.tmp 57), type := 9, pos := "text.go:104", after := #[{ on := 4, ground := Go.Ground.data }], guard := none }, { dst := some 59, op := Go.Op.buildSlice 185 1 #[(0, Go.Operand.tmp 58)], type := 185, pos := "text.go:104", after := #[{ on := 5, ground := Go.Ground.data }], guard := none }, { dst := some 60, op := Go.Op.call { callee := Go.Callee.builtin Go.Builtin.append, args := #[Go.Operand.tmp 54, Go.Operand.tmp 59], argTypes := #[185, 185] }, type := 185, pos := "text.go:104", after := #[{ on := 1, ground := Go.Ground.data }, { on := 6, ground := Go.Ground.data }], guard := none }, { dst := some 61, op := Go.Op.fieldAddr 203 (Go.Operand.tmp 9) 1, type := 0, pos := "text.go:104", after := #[{ on := 0, ground := Go.Ground.phase }, { on := 1, ground := Go.Ground.phase }, { on := 2, ground := Go.Ground.phase }, { on := 3, ground := Go.Ground.phase }, { on := 4, ground := Go.Ground.phase }, { on := 5, ground := Go.Ground.phase }, { on := 6, ground := Go.Ground.phase }, { on := 7, ground := Go.Ground.phase }], guard := none }, { dst := none, op := Go.Op.store 185 (Go.Operand.tmp 61) (Go.Operand.tmp 60), type := 0, pos := "text.go:104", after := #[{ on := 8, ground := Go.Ground.data }, { on := 7, ground := Go.Ground.data }, { on := 7, ground := Go.Ground.chain }, { on := 0, ground := Go.Ground.phase }, { on := 1, ground := Go.Ground.phase }, { on := 2, ground := Go.Ground.phase }, { on := 3, ground := Go.Ground.phase }, { on := 4, ground := Go.Ground.phase }, { on := 5, ground := Go.Ground.phase }, { on := 6, ground := Go.Ground.phase }, { on := 7, ground := Go.Ground.phase }], guard := none }]
def op_186_17 : Array Go.Oper := #[{ dst := some 77, op := Go.Op.fieldAddr 203 (Go.Operand.tmp 9) 2, type := 0, pos := "text.go:112", after := #[], guard := none }, { dst := some 78, op := Go.Op.load 185 (Go.Operand.tmp 77), type := 185, pos := "text.go:112", after := #[{ on := 0, ground := Go.Ground.data }], guard := none }, { dst := some 79, op := Go.Op.move (Go.Operand.tmp 1), type := 185, pos := "text.go:112", after := #[], guard := none }, { dst := some 80, op := Go.Op.move (Go.Operand.tmp 8), type := 3, pos := "text.go:112", after := #[], guard := none }, { dst := some 81, op := Go.Op.indexAddr 185 (Go.Operand.tmp 79) (Go.Operand.tmp 80), type := 0, pos := "text.go:112", after := #[{ on := 2, ground := Go.Ground.data }, { on := 3, ground := Go.Ground.data }], guard := none }, { dst := some 82, op := Go.Op.load 9 (Go.Operand.tmp 81), type := 9, pos := "text.go:112", after := #[{ on := 4, ground := Go.Ground.data }], guard := none }, { dst := some 83, op := Go.Op.buildSlice 185 1 #[(0, Go.Operand.tmp 82)], type := 185, pos := "text.go:112", after := #[{ on := 5, ground := Go.Ground.data }], guard := none }, { dst := some 84, op := Go.Op.call { callee := Go.Callee.builtin Go.Builtin.append, args := #[Go.Operand.tmp 78, Go.Operand.tmp 83], argTypes := #[185, 185] }, type := 185, pos := "text.go:112", after := #[{ on := 1, ground := Go.Ground.data }, { on := 6, ground := Go.Ground.data }], guard := none }, { dst := some 85, op := Go.Op.fieldAddr 203 (Go.Operand.tmp 9) 2, type := 0, pos := "text.go:112", after := #[{ on := 0, ground := Go.Ground.phase }, { on := 1, ground := Go.Ground.phase }, { on := 2, ground := Go.Ground.phase }, { on := 3, ground := Go.Ground.phase }, { on := 4, ground := Go.Ground.phase }, { on := 5, ground := Go.Ground.phase }, { on := 6, ground := Go.Ground.phase }, { on := 7, ground := Go.Ground.phase }], guard := none }, { dst := none, op := Go.Op.store 185 (Go.Operand.tmp 85) (Go.Operand.tmp 84), type := 0, pos := "text.go:112", after := #[{ on := 8, ground := Go.Ground.data }, { on := 7, ground := Go.Ground.data }, { on := 7, ground := Go.Ground.chain }, { on := 0, ground := Go.Ground.phase }, { on := 1, ground := Go.Ground.phase }, { on := 2, ground := Go.Ground.phase }, { on := 3, ground := Go.Ground.phase }, { on := 4, ground := Go.Ground.phase }, { on := 5, ground := Go.Ground.phase }, { on := 6, ground := Go.Ground.phase }, { on := 7, ground := Go.Ground.phase }], guard := none }]
theorem sb_186_11_0 : softB op_186_11 #[true, true, true, true, true, true, true, false, true, false] (Array.replicate 10 false) 0 = true := by kernel_rfl
theorem sb_186_11_1 : softB op_186_11 #[true, true, true, true, true, true, true, false, true, false] ((Array.replicate 10 false).setIfInBounds 0 true) 1 = true := by kernel_rfl
theorem sb_186_11_2 : softB op_186_11 #[true, true, true, true, true, true, true, false, true, false] (((Array.replicate 10 false).setIfInBounds 0 true).setIfInBounds 1 true) 2 = true := by kernel_rfl
theorem sb_186_11_3 : softB op_186_11 #[true, true, true, true, true, true, true, false, true, false] ((((Array.replicate 10 false).setIfInBounds 0 true).setIfInBounds 1 true).setIfInBounds 2 true) 3 = true := by kernel_rfl
theorem sb_186_11_4 : softB op_186_11 #[true, true, true, true, true, true, true, false, true, false] (((((Array.replicate 10 false).setIfInBounds 0 true).setIfInBounds 1 true).setIfInBounds 2 true).setIfInBounds 3 true) 4 = true := by kernel_rfl
theorem sb_186_11_5 : softB op_186_11 #[true, true, true, true, true, true, true, false, true, false] ((((((Array.replicate 10 false).setIfInBounds 0 true).setIfInBounds 1 true).setIfInBounds 2 true).setIfInBounds 3 true).setIfInBounds 4 true) 5 = true := by kernel_rfl
theorem sb_186_11_6 : hardB op_186_11 (((((((Array.replicate 10 false).setIfInBounds 0 true).setIfInBounds 1 true).setIfInBounds 2 true).setIfInBounds 3 true).setIfInBounds 4 true).setIfInBounds 5 true) [6] = true := by kernel_rfl
theorem sb_186_11_7 : hardB op_186_11 ((((((((Array.replicate 10 false).setIfInBounds 0 true).setIfInBounds 1 true).setIfInBounds 2 true).setIfInBounds 3 true).setIfInBounds 4 true).setIfInBounds 5 true).setIfInBounds 6 true) [7] = true := by kernel_rfl
theorem sb_186_11_8 : softB op_186_11 #[true, true, true, true, true, true, true, false, true, false] (((((((((Array.replicate 10 false).setIfInBounds 0 true).setIfInBounds 1 true).setIfInBounds 2 true).setIfInBounds 3 true).setIfInBounds 4 true).setIfInBounds 5 true).setIfInBounds 6 true).setIfInBounds 7 true) 8 = true := by kernel_rfl
theorem sb_186_11_9 : hardB op_186_11 ((((((((((Array.replicate 10 false).setIfInBounds 0 true).setIfInBounds 1 true).setIfInBounds 2 true).setIfInBounds 3 true).setIfInBounds 4 true).setIfInBounds 5 true).setIfInBounds 6 true).setIfInBounds 7 true).setIfInBounds 8 true) [9] = true := by kernel_rfl
theorem sb_186_11_10 : hardB op_186_11 (((((((((((Array.replicate 10 false).setIfInBounds 0 true).setIfInBounds 1 true).setIfInBounds 2 true).setIfInBounds 3 true).setIfInBounds 4 true).setIfInBounds 5 true).setIfInBounds 6 true).setIfInBounds 7 true).setIfInBounds 8 true).setIfInBounds 9 true) [] = true := by kernel_rfl
theorem sb_186_17_0 : softB op_186_17 #[true, true, true, true, true, true, true, false, true, false] (Array.replicate 10 false) 0 = true := by kernel_rfl
theorem sb_186_17_1 : softB op_186_17 #[true, true, true, true, true, true, true, false, true, false] ((Array.replicate 10 false).setIfInBounds 0 true) 1 = true := by kernel_rfl
theorem sb_186_17_2 : softB op_186_17 #[true, true, true, true, true, true, true, false, true, false] (((Array.replicate 10 false).setIfInBounds 0 true).setIfInBounds 1 true) 2 = true := by kernel_rfl
theorem sb_186_17_3 : softB op_186_17 #[true, true, true, true, true, true, true, false, true, false] ((((Array.replicate 10 false).setIfInBounds 0 true).setIfInBounds 1 true).setIfInBounds 2 true) 3 = true := by kernel_rfl
theorem sb_186_17_4 : softB op_186_17 #[true, true, true, true, true, true, true, false, true, false] (((((Array.replicate 10 false).setIfInBounds 0 true).setIfInBounds 1 true).setIfInBounds 2 true).setIfInBounds 3 true) 4 = true := by kernel_rfl
theorem sb_186_17_5 : softB op_186_17 #[true, true, true, true, true, true, true, false, true, false] ((((((Array.replicate 10 false).setIfInBounds 0 true).setIfInBounds 1 true).setIfInBounds 2 true).setIfInBounds 3 true).setIfInBounds 4 true) 5 = true := by kernel_rfl
theorem sb_186_17_6 : hardB op_186_17 (((((((Array.replicate 10 false).setIfInBounds 0 true).setIfInBounds 1 true).setIfInBounds 2 true).setIfInBounds 3 true).setIfInBounds 4 true).setIfInBounds 5 true) [6] = true := by kernel_rfl
theorem sb_186_17_7 : hardB op_186_17 ((((((((Array.replicate 10 false).setIfInBounds 0 true).setIfInBounds 1 true).setIfInBounds 2 true).setIfInBounds 3 true).setIfInBounds 4 true).setIfInBounds 5 true).setIfInBounds 6 true) [7] = true := by kernel_rfl
theorem sb_186_17_8 : softB op_186_17 #[true, true, true, true, true, true, true, false, true, false] (((((((((Array.replicate 10 false).setIfInBounds 0 true).setIfInBounds 1 true).setIfInBounds 2 true).setIfInBounds 3 true).setIfInBounds 4 true).setIfInBounds 5 true).setIfInBounds 6 true).setIfInBounds 7 true) 8 = true := by kernel_rfl
theorem sb_186_17_9 : hardB op_186_17 ((((((((((Array.replicate 10 false).setIfInBounds 0 true).setIfInBounds 1 true).setIfInBounds 2 true).setIfInBounds 3 true).setIfInBounds 4 true).setIfInBounds 5 true).setIfInBounds 6 true).setIfInBounds 7 true).setIfInBounds 8 true) [9] = true := by kernel_rfl
theorem sb_186_17_10 : hardB op_186_17 (((((((((((Array.replicate 10 false).setIfInBounds 0 true).setIfInBounds 1 true).setIfInBounds 2 true).setIfInBounds 3 true).setIfInBounds 4 true).setIfInBounds 5 true).setIfInBounds 6 true).setIfInBounds 7 true).setIfInBounds 8 true).setIfInBounds 9 true) [] = true := by kernel_rfl
/- api.DiffLines -/
def m186_w2 (n : Nat) (a : (List Str)) (l1 : List Int) (mm : Nat) : Int → Hunk → Option (Int × Hunk) := it2 (fun lp2 c6 z3 =>
ob1 (cond (decide (c6 < (a.length : Int))) (Option.bind (ixL l1 c6) fun x2 =>
some ((decide (x2 < 0)))) (some (false))) fun c8 =>
cond c8 (
Option.bind (ixL a c6) fun x3 =>
Option.bind (apd z3.del x3) fun l4 =>
nm ({ z3 with del := l4 } : Hunk) fun z7 =>
lp2 (wi (c6 + 1)) z7) (
some (c6, z3))) mm
def m186_w3 (n : Nat) (b_ : (List Str)) (c9 : Int) (mm : Nat) : Int → Hunk → Option (Int × Hunk) := it2 (fun lp3 c10 z9 =>
cond (decide (c10 < c9)) (
Option.bind (ixL b_ c10) fun x5 =>
Option.bind (apd z9.ins x5) fun l5 =>
nm ({ z9 with ins := l5 } : Hunk) fun z12 =>
lp3 (wi (c10 + 1)) z12) (
some (c10, z9))) mm
def m186_w1 (n : Nat) (a : (List Str)) (b_ : (List Str)) (l1 : List Int) (mm : Nat) : (List Hunk) → Int → Int → Option ((List Hunk) × Int × Int) := it3 (fun lp1 l2 c1 c2 =>
cond ((decide (c1 < (a.length : Int))) || (decide (c2 < (b_.length : Int)))) (
ob1 (cond (decide (c1 < (a.length : Int))) (Option.bind (ixL l1 c1) fun x1 =>
some ((decide (x1 = c2)))) (some (false))) fun c5 =>
cond c5 (
lp1 l2 (wi (c1 + 1)) (wi (c2 + 1))) (
nm (({ Hunk.zero with at_ := c1 }) : Hunk) fun z2 =>
ob2 (m186_w2 n a l1 n c1 z2) fun c7 z4 =>
ob1 (cond (decide (c7 < (a.length : Int))) (
Option.bind (ixL l1 c7) fun x4 =>
some x4) (
some (b_.length : Int))) fun c9 =>
ob2 (m186_w3 n b_ c9 n c2 z4) fun c11 z10 =>
Option.bind (apd l2 z10) fun l6 =>
lp1 l6 c7 c11)) (
some (l2, c1, c2))) mm
def m186 (n : Nat) (a : (List Str)) (b_ : (List Str)) : Option ((List Hunk)) :=
ob1 (m257 n a b_) fun l1 =>
ob3 (m186_w1 n a b_ l1 n ([] : List Hunk) 0 0) fun l3 c3 c4 =>
some l3
theorem t186 {n : Nat} {C : List Chunk} {rl1 : List Hunk} {v1 : Value} {a : (List Str)} {v2 : Value} {b_ : (List Str)} (hr1 : Rd rStr C v1 a) (hr2 : Rd rStr C v2 b_)  (hm : m186 n a b_ = some rl1) : Trip Tryz.prog 186 #[v1, v2] ([] ++ [C]) (fun u S' => ∃ (ev1 : Value), ∃ (eg1 : List Chunk), ev1 = u ∧ S' = [eg1] ++ [C] ∧ Own rHunk ev1 rl1 eg1) := by
  refine fn_entry (args := [v1, v2]) Tryz.func186 rfl Tryz.ntmps186 rfl (fun w0 => ?_)
  refine c_seq ?_
  refine c_region ?_
  have ho1 : Own rHunk (.slice none 0 0) [] [] := Own.nil
  refine o_emp ?_
  refine o_L (y_assign rfl) rfl rfl ?_
  refine o_nil0 rfl ?_
  refine c_seq ?_
  refine c_region ?_
  refine o_T (y_move rfl) rfl ?_
  refine o_T (y_move rfl) rfl ?_
  obtain ⟨l1, hx1, hm⟩ := bd1 hm
  refine o_callC en_257 rfl s_nil (t257 (hr1.mono (fun _ hz => (ms (mg hz)))) (hr2.mono (fun _ hz => (ms (mg hz)))) hx1) rfl (fun u1 S1 hR1 => ?_)
  obtain ⟨v3, g1, rfl, rfl, ho2⟩ := hR1
  refine o_rest ?_
  refine o_L (y_assign rfl) rfl rfl ?_
  refine o_nil0 rfl ?_
  refine c_seq ?_
  refine c_region ?_
  have ho3 : Own rHunk (.slice none 0 0) [] [] := Own.nil
  refine o_emp ?_
  refine o_L (y_assign rfl) rfl rfl ?_
  refine o_nil0 rfl ?_
  refine c_seq ?_
  refine c_region ?_
  refine o_L (y_assign rfl) rfl rfl ?_
  refine o_nil0 rfl ?_
  refine c_seq ?_
  refine c_region ?_
  refine o_L (y_assign rfl) rfl rfl ?_
  refine o_nil0 rfl ?_
  refine c_seq ?_
  obtain ⟨l3, c3, c4, hj1, hm⟩ := bd3 hm
  refine c_joinP (n := 1) (fun sh G => ∃ (v5 : Value), ∃ (g3 : List Chunk), sh = [(6, v5), (7, .int .i64 c3), (8, .int .i64 c4)] ∧ G = [g3] ∧ Own rHunk v5 l3 g3) (s_take (s_take (s_skip (s_take s_nil)))) (.s .z) (fun _ _ h => h) ?_ ?_
  · skip
    refine c_block ?_
    refine c_loopP (n := 1) (fun mm sh G => ∃ (l2 : List Hunk), ∃ (c1 : Int), ∃ (c2 : Int), ∃ (v4 : Value), ∃ (g2 : List Chunk), sh = [(6, v4), (7, .int .i64 c1), (8, .int .i64 c2)] ∧ G = [g2] ∧ m186_w1 n a b_ l1 mm l2 c1 c2 = some (l3, c3, c4) ∧ Own rHunk v4 l2 g2) n (s_take (s_take (s_skip (s_take s_nil)))) (.s .z) ⟨_, _, ⟨_, _, _, (.slice none 0 0), _, rfl, rfl, hj1, ho3⟩, ⟨rfl, rfl, rfl, trivial⟩, _, (s_take (s_take (s_skip (s_take s_nil))))⟩ ?_
    rintro mm sh G ⟨l2, c1, c2, v4, g2, rfl, rfl, hm, ho4⟩
    obtain ⟨mm1, rfl, hm⟩ := it3_s hm
    refine c_seq ?_
    refine c_seq ?_
    refine c_joinP (n := 0) (fun sh G => sh = [(23, .bool ((decide (c1 < (a.length : Int))) || (decide (c2 < (b_.length : Int)))))] ∧ G = []) Sel.all' .z (fun _ _ h => h) ?_ ?_
    · skip
      refine c_region ?_
      refine o_T (y_move rfl) rfl ?_
      refine o_T (y_move rfl) rfl ?_
      refine o_T (y_lenR hr1 Tryz.underlying185 rfl) rfl ?_
      refine o_T (y_lss rfl rfl) rfl ?_
      refine o_T (y_move rfl) rfl ?_
      refine o_split 18 rfl (fun h1 => ?_) (fun h1 => ?_)
      · skip
        refine o_pass rfl rfl rfl rfl rfl ?_
        refine o_pass rfl rfl rfl rfl rfl ?_
        refine o_pass rfl rfl rfl rfl rfl ?_
        refine o_pass rfl rfl rfl rfl rfl ?_
        refine o_T (y_pickT rfl rfl) rfl ?_
        refine o_nil1 23 rfl rfl ?_
        refine ⟨_, _, ⟨rfl, rfl⟩, ⟨by first | rfl | exact gtb rfl (by simp only [h1, Bool.true_and, Bool.false_and, Bool.true_or, Bool.false_or, Bool.and_true, Bool.and_false, Bool.or_true, Bool.or_false, Bool.not_true, Bool.not_false]), trivial⟩, ⟨rfl, rfl⟩, _, (s_take (s_take (s_take s_nil)))⟩
      · skip
        refine o_take rfl rfl rfl ?_
        refine o_T (y_move rfl) rfl ?_
        refine o_take rfl rfl rfl ?_
        refine o_T (y_move rfl) rfl ?_
        refine o_take rfl rfl rfl ?_
        refine o_T (y_lenR hr2 Tryz.underlying185 rfl) rfl ?_
        refine o_take rfl rfl rfl ?_
        refine o_T (y_lss rfl rfl) rfl ?_
        refine o_T (y_pickF rfl rfl) rfl ?_
        refine o_nil1 23 rfl rfl ?_
        refine ⟨_, _, ⟨rfl, rfl⟩, ⟨by first | rfl | exact gtb rfl (by simp only [h1, Bool.true_and, Bool.false_and, Bool.true_or, Bool.false_or, Bool.and_true, Bool.and_false, Bool.or_true, Bool.or_false, Bool.not_true, Bool.not_false]), trivial⟩, ⟨rfl, rfl⟩, _, (s_take (s_take (s_take s_nil)))⟩
    · rintro sh G ⟨rfl, rfl⟩
      refine c_cond rfl (fun h2 => ?_) (fun h2 => ?_)
      · have hm := cd_t h2 hm
        refine c_skip ?_
        refine c_block ?_
        refine c_seq ?_
        refine c_seq ?_
        obtain ⟨c5, hj2, hm⟩ := bd1 hm
        refine c_joinP (n := 0) (fun sh G => sh = [(35, .bool c5)] ∧ G = []) Sel.all' .z (fun _ _ h => h) ?_ ?_
        · have hm := hj2
          refine c_region ?_
          refine o_T (y_move rfl) rfl ?_
          refine o_T (y_move rfl) rfl ?_
          refine o_T (y_lenR hr1 Tryz.underlying185 rfl) rfl ?_
          refine o_T (y_lss rfl rfl) rfl ?_
          refine o_T (y_move rfl) rfl ?_
          refine o_split 28 rfl (fun h3 => ?_) (fun h3 => ?_)
          · have hm := cd_t h3 hm
            refine o_take rfl rfl rfl ?_
            refine o_T (y_move rfl) rfl ?_
            refine o_take rfl rfl rfl ?_
            refine o_T (y_move rfl) rfl ?_
            refine o_take rfl rfl rfl ?_
            obtain ⟨x1, hx2, hm⟩ := bd hm
            obtain ⟨b1, w1, cs1, y1, z1, vs1, hc1, ha1, hr3, hy1⟩ := ho2.rd.ix hx2
            obtain rfl : vs1 = (encI x1) := hr3
            refine o_T (hy1 sl_65 rfl rfl rfl) rfl ?_
            refine o_take rfl rfl rfl ?_
            refine o_ld one_3 rfl (ms (mg hc1)) (At.getA (ha1)) rfl ?_
            refine o_take rfl rfl rfl ?_
            refine o_T (y_move rfl) rfl ?_
            refine o_take rfl rfl rfl ?_
            refine o_T (y_eql rfl rfl) rfl ?_
            refine o_T (y_pickT rfl rfl) rfl ?_
            refine o_nil1 35 rfl rfl ?_
            obtain rfl := p1 hm
            exact ⟨_, _, ⟨rfl, rfl⟩, ⟨rfl, trivial⟩, ⟨rfl, rfl⟩, _, (s_take (s_take (s_take s_nil)))⟩
          · have hm := cd_f h3 hm
            refine o_pass rfl rfl rfl rfl rfl ?_
            refine o_pass rfl rfl rfl rfl rfl ?_
            refine o_pass rfl rfl rfl rfl rfl ?_
            refine o_pass rfl rfl rfl rfl rfl ?_
            refine o_pass rfl rfl rfl rfl rfl ?_
            refine o_pass rfl rfl rfl rfl rfl ?_
            refine o_T (y_pickF rfl rfl) rfl ?_
            refine o_nil1 35 rfl rfl ?_
            obtain rfl := p1 hm
            exact ⟨_, _, ⟨rfl, rfl⟩, ⟨rfl, trivial⟩, ⟨rfl, rfl⟩, _, (s_take (s_take (s_take s_nil)))⟩
        · rintro sh G ⟨rfl, rfl⟩
          refine c_cond rfl (fun h4 => ?_) (fun h4 => ?_)
          · have hm := cd_t h4 hm
            refine c_seq ?_
            refine c_region ?_
            refine o_T (y_move rfl) rfl ?_
            refine o_T (y_add rfl rfl rfl) rfl ?_
            refine o_L (y_assign rfl) rfl rfl ?_
            refine o_nil0 rfl ?_
            refine c_seq ?_
            refine c_region ?_
            refine o_T (y_move rfl) rfl ?_
            refine o_T (y_add rfl rfl rfl) rfl ?_
            refine o_L (y_assign rfl) rfl rfl ?_
            refine o_nil0 rfl ?_
            refine c_exit ?_
            exact ⟨mm1, Nat.lt_succ_self _, _, _, ⟨_, _, _, v4, _, rfl, rfl, hm, ho4⟩, ⟨rfl, rfl, rfl, trivial⟩, ⟨rfl, rfl⟩, _, (s_take (s_take (s_take s_nil)))⟩
          · have hm := cd_f h4 hm
            refine c_skip ?_
            refine c_seq ?_
            refine c_region ?_
            refine o_T (y_move rfl) rfl ?_
            refine o_T (y_build st_203 rfl (fbU rfl Hunk.u_at_ rfl rfl fbU0)) rfl ?_
            refine o_alloc ze_203 rfl rfl (fun b2 => ?_)
            have ho6 : Own rStr (.slice none 0 0) [] [] := Own.nil
            refine o_emp ?_
            have ho7 : Own rStr (.slice none 0 0) [] [] := Own.nil
            refine o_emp ?_
            have ho8 : Own rStr (.slice none 0 0) [] [] := Own.nil
            refine o_emp ?_
            have ho9 : Own rStr (.slice none 0 0) [] [] := Own.nil
            refine o_emp ?_
            obtain ⟨z2, hn1, hm⟩ := nm_s hm
            have ho10 := ho8.to (l' := z2.del) (by subst hn1; rfl)
            have ho11 := ho9.to (l' := z2.ins) (by subst hn1; rfl)
            refine o_stNA ag_203 rfl rfl (Hunk.plain rfl rfl _) (Hunk.len _ _ _) (Upd.refl ((Hunk.len _ _ _).trans (Hunk.len _ _ _).symm)) (rs (rs (rs (rs r0)))) (show (Hunk.enc ((.slice none 0 0)) ((.slice none 0 0)) z2) = _ from by subst hn1; rfl) ?_
            refine o_nil0 rfl ?_
            refine c_seq ?_
            obtain ⟨c7, z4, hj3, hm⟩ := bd2 hm
            refine c_joinP (n := 3) (fun sh G => ∃ (v8 : Value), ∃ (g6 : List Chunk), ∃ (v9 : Value), ∃ (g7 : List Chunk), sh = [(7, .int .i64 c7)] ∧ G = [[(b2, .cells (Hunk.enc (v8) (v9) z4).toArray 203 (0, 0))], g6, g7] ∧ Own rStr v8 z4.del g6 ∧ Own rStr v9 z4.ins g7) (s_take (s_take (s_skip (s_skip (s_take (s_take (s_take (s_take s_nil)))))))) (.s (.s (.s .z))) (fun _ _ h => h) ?_ ?_
            · skip
              refine c_block ?_
              refine c_loopP (n := 3) (fun mm sh G => ∃ (c6 : Int), ∃ (z3 : Hunk), ∃ (v6 : Value), ∃ (g4 : List Chunk), ∃ (v7 : Value), ∃ (g5 : List Chunk), sh = [(7, .int .i64 c6)] ∧ G = [[(b2, .cells (Hunk.enc (v6) (v7) z3).toArray 203 (0, 0))], g4, g5] ∧ m186_w2 n a l1 mm c6 z3 = some (c7, z4) ∧ Own rStr v6 z3.del g4 ∧ Own rStr v7 z3.ins g5) n (s_take (s_take (s_skip (s_skip (s_take (s_take (s_take (s_take s_nil)))))))) (.s (.s (.s .z))) ⟨_, _, ⟨_, _, (.slice none 0 0), _, (.slice none 0 0), _, rfl, rfl, hj3, ho10, ho11⟩, ⟨rfl, trivial⟩, _, (s_get (ks (ks (ks (ks k0)))) (s_get (ks k0) (s_take (s_skip (s_skip (s_take (s_take (s_take s_nil))))))))⟩ ?_
              rintro mm sh G ⟨c6, z3, v6, g4, v7, g5, rfl, rfl, hm, ho12, ho13⟩
              obtain ⟨mm2, rfl, hm⟩ := it2_s hm
              refine c_seq ?_
              refine c_seq ?_
              obtain ⟨c8, hj4, hm⟩ := bd1 hm
              refine c_joinP (n := 0) (fun sh G => sh = [(52, .bool c8)] ∧ G = []) Sel.all' .z (fun _ _ h => h) ?_ ?_
              · have hm := hj4
                refine c_region ?_
                refine o_T (y_move rfl) rfl ?_
                refine o_T (y_move rfl) rfl ?_
                refine o_T (y_lenR hr1 Tryz.underlying185 rfl) rfl ?_
                refine o_T (y_lss rfl rfl) rfl ?_
                refine o_T (y_move rfl) rfl ?_
                refine o_split 46 rfl (fun h5 => ?_) (fun h5 => ?_)
                · have hm := cd_t h5 hm
                  refine o_take rfl rfl rfl ?_
                  refine o_T (y_move rfl) rfl ?_
                  refine o_take rfl rfl rfl ?_
                  refine o_T (y_move rfl) rfl ?_
                  refine o_take rfl rfl rfl ?_
                  obtain ⟨x2, hx3, hm⟩ := bd hm
                  obtain ⟨b3, w2, cs2, y2, z5, vs2, hc2, ha2, hr4, hy2⟩ := ho2.rd.ix hx3
                  obtain rfl : vs2 = (encI x2) := hr4
                  refine o_T (hy2 sl_65 rfl rfl rfl) rfl ?_
                  refine o_take rfl rfl rfl ?_
                  refine o_ld one_3 rfl (ms (ms (ms (ms (mg hc2))))) (At.getA (ha2)) rfl ?_
                  refine o_take rfl rfl rfl ?_
                  refine o_T (y_lss rfl rfl) rfl ?_
                  refine o_T (y_pickT rfl rfl) rfl ?_
                  refine o_nil1 52 rfl rfl ?_
                  obtain rfl := p1 hm
                  exact ⟨_, _, ⟨rfl, rfl⟩, ⟨rfl, trivial⟩, ⟨rfl, rfl⟩, _, (s_take (s_take (s_take (s_take (s_take (s_take s_nil))))))⟩
                · have hm := cd_f h5 hm
                  refine o_pass rfl rfl rfl rfl rfl ?_
                  refine o_pass rfl rfl rfl rfl rfl ?_
                  refine o_pass rfl rfl rfl rfl rfl ?_
                  refine o_pass rfl rfl rfl rfl rfl ?_
                  refine o_pass rfl rfl rfl rfl rfl ?_
                  refine o_T (y_pickF rfl rfl) rfl ?_
                  refine o_nil1 52 rfl rfl ?_
                  obtain rfl := p1 hm
                  exact ⟨_, _, ⟨rfl, rfl⟩, ⟨rfl, trivial⟩, ⟨rfl, rfl⟩, _, (s_take (s_take (s_take (s_take (s_take (s_take s_nil))))))⟩
              · rintro sh G ⟨rfl, rfl⟩
                refine c_cond rfl (fun h6 => ?_) (fun h6 => ?_)
                · have hm := cd_t h6 hm
                  refine c_skip ?_
                  refine c_block ?_
                  refine c_seq ?_
                  refine c_draw #[true, true, true, true, true, true, true, false, true, false] rfl (n := 10) rfl ?_
                  refine d_T 0 rfl sb_186_11_0 rfl (y_fa fl_203_1 rfl) rfl ?_
                  refine d_ld 1 rfl sb_186_11_1 one_185 rfl (fun x hx => hx) m0 (At.got (At.refl.comp Hunk.a_del)) rfl ?_
                  refine d_T 2 rfl sb_186_11_2 rfl (y_move rfl) rfl ?_
                  refine d_T 3 rfl sb_186_11_3 rfl (y_move rfl) rfl ?_
                  obtain ⟨x3, hx4, hm⟩ := bd hm
                  obtain ⟨b4, w3, cs3, y3, z6, vs3, hc3, ha3, hr5, hy3⟩ := hr1.ix hx4
                  obtain rfl : vs3 = (encS x3) := hr5
                  refine d_T 4 rfl sb_186_11_4 rfl (hy3 sl_185 rfl rfl rfl) rfl ?_
                  refine d_ld 5 rfl sb_186_11_5 one_9 rfl (fun x hx => hx) (ms (ms (ms (ms (ms (mg hc3)))))) (At.getA (ha3)) rfl ?_
                  refine d_hard 6 rfl sb_186_11_6 ?_
                  refine o_bs1 sz_185 rfl rfl rfl rfl rfl rfl (fun b5 => ?_)
                  refine o_stop (fun _ => (fun x hx => (ms hx))) ?_
                  refine d_hard 7 rfl sb_186_11_7 ?_
                  obtain ⟨l4, hx5, hm⟩ := bd hm
                  refine o_appR (R := rStr) (a := x3) sz_185 rfl rfl rfl rfl ho12 rfl hx5 (Sel.e (s_get (ks (ks k0)) (s_take s_nil))) rfl (fun v10 g8 ho16 => ?_)
                  refine o_stop (fun h => nomatch h) ?_
                  refine d_T 8 rfl sb_186_11_8 rfl (y_fa fl_203_1 rfl) rfl ?_
                  refine d_hard 9 rfl sb_186_11_9 ?_
                  obtain ⟨z7, hn2, hm⟩ := nm_s hm
                  have ho17 := ho16.to (l' := z7.del) (by subst hn2; rfl)
                  have ho18 := ho13.to (l' := z7.ins) (by subst hn2; rfl)
                  refine o_stN one_185 rfl rfl ho16.pl (Upd.z Hunk.u_del) (rs r0) (show (Hunk.enc (v10) (v7) z7) = _ from by subst hn2; rfl) ?_
                  refine o_stop (fun h => nomatch h) ?_
                  refine d_nil0 sb_186_11_10 rfl ?_
                  refine c_region ?_
                  refine o_T (y_move rfl) rfl ?_
                  refine o_T (y_add rfl rfl rfl) rfl ?_
                  refine o_L (y_assign rfl) rfl rfl ?_
                  refine o_nil0 rfl ?_
                  exact ⟨mm2, Nat.lt_succ_self _, _, _, ⟨_, _, v10, _, v7, _, rfl, rfl, hm, ho17, ho18⟩, ⟨rfl, trivial⟩, ⟨rfl, rfl⟩, _, (s_get (ks k0) (s_take (s_take (s_take (s_take (s_take s_nil))))))⟩
                · have hm := cd_f h6 hm
                  refine c_exit ?_
                  obtain ⟨rfl, rfl⟩ := pr2 hm
                  exact ⟨_, _, ⟨v6, _, v7, _, rfl, rfl, ho12, ho13⟩, ⟨rfl, trivial⟩, ⟨rfl, rfl⟩, _, (s_take (s_take (s_take (s_take (s_take (s_take s_nil))))))⟩
            · rintro sh G ⟨v8, g6, v9, g7, rfl, rfl, ho14, ho15⟩
              refine c_seq ?_
              refine c_region ?_
              refine o_T (y_move rfl) rfl ?_
              refine o_T (y_lenR hr2 Tryz.underlying185 rfl) rfl ?_
              refine o_L (y_assign rfl) rfl rfl ?_
              refine o_nil0 rfl ?_
              refine c_seq ?_
              refine c_seq ?_
              refine c_region ?_
              refine o_T (y_move rfl) rfl ?_
              refine o_T (y_move rfl) rfl ?_
              refine o_T (y_lenR hr1 Tryz.underlying185 rfl) rfl ?_
              refine o_T (y_lss rfl rfl) rfl ?_
              refine o_nil1 69 rfl rfl ?_
              obtain ⟨c9, hj5, hm⟩ := bd1 hm
              refine c_joinP (n := 0) (fun sh G => sh = [(10, .int .i64 c9)] ∧ G = []) (s_take (s_take (s_take (s_take (s_take (s_take s_nil)))))) .z (fun _ _ h => h) ?_ ?_
              · have hm := hj5
                refine c_cond rfl (fun h7 => ?_) (fun h7 => ?_)
                · have hm := cd_t h7 hm
                  refine c_region ?_
                  refine o_T (y_move rfl) rfl ?_
                  refine o_T (y_move rfl) rfl ?_
                  obtain ⟨x4, hx6, hm⟩ := bd hm
                  obtain ⟨b6, w4, cs4, y4, z8, vs4, hc4, ha4, hr6, hy4⟩ := ho2.rd.ix hx6
                  obtain rfl : vs4 = (encI x4) := hr6
                  refine o_T (hy4 sl_65 rfl rfl rfl) rfl ?_
                  refine o_ld one_3 rfl (ms (ms (ms (ms (mg hc4))))) (At.getA (ha4)) rfl ?_
                  refine o_L (y_assign rfl) rfl rfl ?_
                  refine o_nil0 rfl ?_
                  obtain rfl := p1 hm
                  exact ⟨_, _, ⟨rfl, rfl⟩, ⟨rfl, trivial⟩, ⟨rfl, rfl⟩, _, (s_take (s_take (s_take (s_take (s_take (s_take s_nil))))))⟩
                · have hm := cd_f h7 hm
                  refine c_skip ?_
                  obtain rfl := p1 hm
                  exact ⟨_, _, ⟨rfl, rfl⟩, ⟨rfl, trivial⟩, ⟨rfl, rfl⟩, _, (s_take (s_take (s_take (s_take (s_take (s_take s_nil))))))⟩
              · rintro sh G ⟨rfl, rfl⟩
                refine c_seq ?_
                obtain ⟨c11, z10, hj6, hm⟩ := bd2 hm
                refine c_joinP (n := 3) (fun sh G => ∃ (v13 : Value), ∃ (g11 : List Chunk), ∃ (v14 : Value), ∃ (g12 : List Chunk), sh = [(8, .int .i64 c11)] ∧ G = [[(b2, .cells (Hunk.enc (v13) (v14) z10).toArray 203 (0, 0))], g11, g12] ∧ Own rStr v13 z10.del g11 ∧ Own rStr v14 z10.ins g12) (s_take (s_take (s_take (s_take (s_take (s_take s_nil)))))) (.s (.s (.s .z))) (fun _ _ h => h) ?_ ?_
                · skip
                  refine c_block ?_
                  refine c_loopP (n := 3) (fun mm sh G => ∃ (c10 : Int), ∃ (z9 : Hunk), ∃ (v11 : Value), ∃ (g9 : List Chunk), ∃ (v12 : Value), ∃ (g10 : List Chunk), sh = [(8, .int .i64 c10)] ∧ G = [[(b2, .cells (Hunk.enc (v11) (v12) z9).toArray 203 (0, 0))], g9, g10] ∧ m186_w3 n b_ c9 mm c10 z9 = some (c11, z10) ∧ Own rStr v11 z9.del g9 ∧ Own rStr v12 z9.ins g10) n (s_take (s_take (s_take (s_take (s_take (s_take s_nil)))))) (.s (.s (.s .z))) ⟨_, _, ⟨_, _, v8, _, v9, _, rfl, rfl, hj6, ho14, ho15⟩, ⟨rfl, trivial⟩, _, (s_take (s_take (s_take (s_take (s_take (s_take s_nil))))))⟩ ?_
                  rintro mm sh G ⟨c10, z9, v11, g9, v12, g10, rfl, rfl, hm, ho19, ho20⟩
                  obtain ⟨mm3, rfl, hm⟩ := it2_s hm
                  refine c_seq ?_
                  refine c_seq ?_
                  refine c_region ?_
                  refine o_T (y_move rfl) rfl ?_
                  refine o_T (y_move rfl) rfl ?_
                  refine o_T (y_lss rfl rfl) rfl ?_
                  refine o_nil1 76 rfl rfl ?_
                  refine c_cond rfl (fun h8 => ?_) (fun h8 => ?_)
                  · have hm := cd_t h8 hm
                    refine c_skip ?_
                    refine c_block ?_
                    refine c_seq ?_
                    refine c_draw #[true, true, true, true, true, true, true, false, true, false] rfl (n := 10) rfl ?_
                    refine d_T 0 rfl sb_186_17_0 rfl (y_fa fl_203_2 rfl) rfl ?_
                    refine d_ld 1 rfl sb_186_17_1 one_185 rfl (fun x hx => hx) m0 (At.got (At.refl.comp Hunk.a_ins)) rfl ?_
                    refine d_T 2 rfl sb_186_17_2 rfl (y_move rfl) rfl ?_
                    refine d_T 3 rfl sb_186_17_3 rfl (y_move rfl) rfl ?_
                    obtain ⟨x5, hx7, hm⟩ := bd hm
                    obtain ⟨b7, w5, cs5, y5, z11, vs5, hc5, ha5, hr7, hy5⟩ := hr2.ix hx7
                    obtain rfl : vs5 = (encS x5) := hr7
                    refine d_T 4 rfl sb_186_17_4 rfl (hy5 sl_185 rfl rfl rfl) rfl ?_
                    refine d_ld 5 rfl sb_186_17_5 one_9 rfl (fun x hx => hx) (ms (ms (ms (ms (ms (mg hc5)))))) (At.getA (ha5)) rfl ?_
                    refine d_hard 6 rfl sb_186_17_6 ?_
                    refine o_bs1 sz_185 rfl rfl rfl rfl rfl rfl (fun b8 => ?_)
                    refine o_stop (fun _ => (fun x hx => (ms hx))) ?_
                    refine d_hard 7 rfl sb_186_17_7 ?_
                    obtain ⟨l5, hx8, hm⟩ := bd hm
                    refine o_appR (R := rStr) (a := x5) sz_185 rfl rfl rfl rfl ho20 rfl hx8 (Sel.e (s_get (ks (ks (ks k0))) (s_take s_nil))) rfl (fun v15 g13 ho23 => ?_)
                    refine o_stop (fun h => nomatch h) ?_
                    refine d_T 8 rfl sb_186_17_8 rfl (y_fa fl_203_2 rfl) rfl ?_
                    refine d_hard 9 rfl sb_186_17_9 ?_
                    obtain ⟨z12, hn3, hm⟩ := nm_s hm
                    have ho24 := ho19.to (l' := z12.del) (by subst hn3; rfl)
                    have ho25 := ho23.to (l' := z12.ins) (by subst hn3; rfl)
                    refine o_stN one_185 rfl rfl ho23.pl (Upd.z Hunk.u_ins) (rs r0) (show (Hunk.enc (v11) (v15) z12) = _ from by subst hn3; rfl) ?_
                    refine o_stop (fun h => nomatch h) ?_
                    refine d_nil0 sb_186_17_10 rfl ?_
                    refine c_region ?_
                    refine o_T (y_move rfl) rfl ?_
                    refine o_T (y_add rfl rfl rfl) rfl ?_
                    refine o_L (y_assign rfl) rfl rfl ?_
                    refine o_nil0 rfl ?_
                    exact ⟨mm3, Nat.lt_succ_self _, _, _, ⟨_, _, v11, _, v15, _, rfl, rfl, hm, ho24, ho25⟩, ⟨rfl, trivial⟩, ⟨rfl, rfl⟩, _, (s_get (ks k0) (s_get (ks k0) (s_take (s_take (s_take (s_take s_nil))))))⟩
                  · have hm := cd_f h8 hm
                    refine c_exit ?_
                    obtain ⟨rfl, rfl⟩ := pr2 hm
                    exact ⟨_, _, ⟨v11, _, v12, _, rfl, rfl, ho19, ho20⟩, ⟨rfl, trivial⟩, ⟨rfl, rfl⟩, _, (s_take (s_take (s_take (s_take (s_take (s_take s_nil))))))⟩
                · rintro sh G ⟨v13, g11, v14, g12, rfl, rfl, ho21, ho22⟩
                  refine c_region ?_
                  refine o_T (y_move rfl) rfl ?_
                  refine o_lda ag_203 rfl m0 (At.exs At.refl (Hunk.len _ _ _)) (At.fits At.refl (Hunk.len _ _ _)) rfl ?_
                  refine o_bs1 sz_112 rfl rfl rfl rfl rfl rfl (fun b9 => ?_)
                  obtain ⟨l6, hx9, hm⟩ := bd hm
                  refine o_appR (R := rHunk) (a := z10) sz_112 rfl rfl rfl rfl ho4 ⟨_, _, rfl, ho21.rds.mono (fun _ hz => mem_l hz), ho22.rds.mono (fun _ hz => mem_r hz)⟩ hx9 (Sel.m2 (s_get (ks (ks (ks (ks k0)))) (s_take (s_skip (s_take (s_take s_nil)))))) rfl (fun v16 g14 ho26 => ?_)
                  refine o_L (y_assign rfl) rfl rfl ?_
                  refine o_nil0 rfl ?_
                  exact ⟨mm1, Nat.lt_succ_self _, _, _, ⟨_, _, _, v16, _, rfl, rfl, hm, ho26⟩, ⟨rfl, rfl, rfl, trivial⟩, ⟨rfl, rfl⟩, _, (s_take (s_skip (s_take (s_take s_nil))))⟩
      · have hm := cd_f h2 hm
        refine c_exit ?_
        obtain ⟨rfl, rfl, rfl⟩ := pr3 hm
        exact ⟨_, _, ⟨v4, _, rfl, rfl, ho4⟩, ⟨rfl, rfl, rfl, trivial⟩, ⟨rfl, rfl⟩, _, (s_take (s_take (s_take s_nil)))⟩
  · rintro sh G ⟨v5, g3, rfl, rfl, ho5⟩
    refine c_seq ?_
    refine c_region ?_
    refine o_T (y_move rfl) rfl ?_
    refine o_L (y_assign rfl) rfl rfl ?_
    refine o_nil0 rfl ?_
    refine c_ret ?_
    obtain rfl := p1 hm
    refine fun aX wX heX hsX => ret1 Tryz.results186 heX rfl (s_take (s_skip (s_take s_nil))) ?_
    exact ⟨v5, _, rfl, rfl, ho5⟩
end Go.Proofs.Qxb6500350aGreat
