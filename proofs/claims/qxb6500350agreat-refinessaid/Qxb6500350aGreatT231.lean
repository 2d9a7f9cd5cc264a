/- MADE BY PROGRAM (tools350/mir.py): mirror and walk. -/
import Derived.Test.Qxb6500350aGreatF2
set_option linter.unusedVariables false
set_option linter.unusedSimpArgs false
set_option maxRecDepth 20000
set_option maxHeartbeats 4000000
namespace Go.Proofs.Qxb6500350aGreat
open Go.Eng

def op_231_3 : Array Go.Oper := #[{ dst := some 21, op := Go.Op.move (Go.Operand.tmp 0), type := 57, pos := "status.go:70", after := #[], guard := none }, { dst := some 22, op := Go.Op.move (Go.Operand.tmp 1), type := 3, pos := "status.go:70", after := #[], guard := none }, { dst := some 23, op := Go.Op.indexAddr 57 (Go.Operand.tmp 21) (Go.Operand.tmp 22), type := 0, pos := "status.go:70", after := #[{ on := 0, ground := Go.Ground.data }, { on := 1, ground := Go.Ground.data }], guard := none }, { dst := some 24, op := Go.Op.fieldAddr 71 (Go.Operand.tmp 23) 1, type := 0, pos := "status.go:70", after := #[{ on := 2, ground := Go.Ground.data }], guard := none }, { dst := some 25, op := Go.Op.load 9 (Go.Operand.tmp 24), type := 9, pos := "status.go:70", after := #[{ on := 3, ground := Go.Ground.data }], guard := none }, { dst := some 26, op := Go.Op.move (Go.Operand.tmp 2), type := 57, pos := "status.go:70", after := #[], guard := none }, { dst := some 27, op := Go.Op.move (Go.Operand.tmp 3), type := 3, pos := "status.go:70", after := #[], guard := none }, { dst := some 28, op := Go.Op.indexAddr 57 (Go.Operand.tmp 26) (Go.Operand.tmp 27), type := 0, pos := "status.go:70", after := #[{ on := 5, ground := Go.Ground.data }, { on := 6, ground := Go.Ground.data }], guard := none }, { dst := some 29, op := Go.Op.fieldAddr 71 (Go.Operand.tmp 28) 1, type := 0, pos := "status.go:70", after := #[{ on := 7, ground := Go.Ground.data }], guard := none }, { dst := some 30, op := Go.Op.load 9 (Go.Operand.tmp 29), type := 9, pos := "status.go:70", after := #[{ on := 8, ground := Go.Ground.data }], guard := none }, { dst := some 31, op := Go.Op.binOp Go.BinOp.eql 9 (Go.Operand.tmp 25) (Go.Operand.tmp 30) 9, type := 4, pos := "status.go:70", after := #[{ on := 4, ground := Go.Ground.data }, { on := 9, ground := Go.Ground.data }], guard := none }, { dst := some 8, op := Go.Op.assign (Go.Operand.tmp 31), type := 4, pos := "status.go:70", after := #[{ on := 10, ground := Go.Ground.data }, { on := 0, ground := Go.Ground.phase }, { on := 1, ground := Go.Ground.phase }, { on := 2, ground := Go.Ground.phase }, { on := 3, ground := Go.Ground.phase }, { on := 4, ground := Go.Ground.phase }, { on := 5, ground := Go.Ground.phase }, { on := 6, ground := Go.Ground.phase }, { on := 7, ground := Go.Ground.phase }, { on := 8, ground := Go.Ground.phase }, { on := 9, ground := Go.Ground.phase }, { on := 10, ground := Go.Ground.phase }], guard := none }]
theorem sb_231_3_0 : softB op_231_3 #[true, true, true, true, true, true, true, true, true, true, true, true] (Array.replicate 12 false) 0 = true := by kernel_rfl
theorem sb_231_3_1 : softB op_231_3 #[true, true, true, true, true, true, true, true, true, true, true, true] ((Array.replicate 12 false).setIfInBounds 0 true) 1 = true := by kernel_rfl
theorem sb_231_3_2 : softB op_231_3 #[true, true, true, true, true, true, true, true, true, true, true, true] (((Array.replicate 12 false).setIfInBounds 0 true).setIfInBounds 1 true) 2 = true := by kernel_rfl
theorem sb_231_3_3 : softB op_231_3 #[true, true, true, true, true, true, true, true, true, true, true, true] ((((Array.replicate 12 false).setIfInBounds 0 true).setIfInBounds 1 true).setIfInBounds 2 true) 3 = true := by kernel_rfl
theorem sb_231_3_4 : softB op_231_3 #[true, true, true, true, true, true, true, true, true, true, true, true] (((((Array.replicate 12 false).setIfInBounds 0 true).setIfInBounds 1 true).setIfInBounds 2 true).setIfInBounds 3 true) 4 = true := by kernel_rfl
theorem sb_231_3_5 : softB op_231_3 #[true, true, true, true, true, true, true, true, true, true, true, true] ((((((Array.replicate 12 false).setIfInBounds 0 true).setIfInBounds 1 true).setIfInBounds 2 true).setIfInBounds 3 true).setIfInBounds 4 true) 5 = true := by kernel_rfl
theorem sb_231_3_6 : softB op_231_3 #[true, true, true, true, true, true, true, true, true, true, true, true] (((((((Array.replicate 12 false).setIfInBounds 0 true).setIfInBounds 1 true).setIfInBounds 2 true).setIfInBounds 3 true).setIfInBounds 4 true).setIfInBounds 5 true) 6 = true := by kernel_rfl
theorem sb_231_3_7 : softB op_231_3 #[true, true, true, true, true, true, true, true, true, true, true, true] ((((((((Array.replicate 12 false).setIfInBounds 0 true).setIfInBounds 1 true).setIfInBounds 2 true).setIfInBounds 3 true).setIfInBounds 4 true).setIfInBounds 5 true).setIfInBounds 6 true) 7 = true := by kernel_rfl
theorem sb_231_3_8 : softB op_231_3 #[true, true, true, true, true, true, true, true, true, true, true, true] (((((((((Array.replicate 12 false).setIfInBounds 0 true).setIfInBounds 1 true).setIfInBounds 2 true).setIfInBounds 3 true).setIfInBounds 4 true).setIfInBounds 5 true).setIfInBounds 6 true).setIfInBounds 7 true) 8 = true := by kernel_rfl
theorem sb_231_3_9 : softB op_231_3 #[true, true, true, true, true, true, true, true, true, true, true, true] ((((((((((Array.replicate 12 false).setIfInBounds 0 true).setIfInBounds 1 true).setIfInBounds 2 true).setIfInBounds 3 true).setIfInBounds 4 true).setIfInBounds 5 true).setIfInBounds 6 true).setIfInBounds 7 true).setIfInBounds 8 true) 9 = true := by kernel_rfl
theorem sb_231_3_10 : softB op_231_3 #[true, true, true, true, true, true, true, true, true, true, true, true] (((((((((((Array.replicate 12 false).setIfInBounds 0 true).setIfInBounds 1 true).setIfInBounds 2 true).setIfInBounds 3 true).setIfInBounds 4 true).setIfInBounds 5 true).setIfInBounds 6 true).setIfInBounds 7 true).setIfInBounds 8 true).setIfInBounds 9 true) 10 = true := by kernel_rfl
theorem sb_231_3_11 : softB op_231_3 #[true, true, true, true, true, true, true, true, true, true, true, true] ((((((((((((Array.replicate 12 false).setIfInBounds 0 true).setIfInBounds 1 true).setIfInBounds 2 true).setIfInBounds 3 true).setIfInBounds 4 true).setIfInBounds 5 true).setIfInBounds 6 true).setIfInBounds 7 true).setIfInBounds 8 true).setIfInBounds 9 true).setIfInBounds 10 true) 11 = true := by kernel_rfl
theorem sb_231_3_12 : hardB op_231_3 (((((((((((((Array.replicate 12 false).setIfInBounds 0 true).setIfInBounds 1 true).setIfInBounds 2 true).setIfInBounds 3 true).setIfInBounds 4 true).setIfInBounds 5 true).setIfInBounds 6 true).setIfInBounds 7 true).setIfInBounds 8 true).setIfInBounds 9 true).setIfInBounds 10 true).setIfInBounds 11 true) [] = true := by kernel_rfl
/- api.sameAt -/
def m231 (n : Nat) (a : (List File)) (i : Int) (b_ : (List File)) (j : Int) : Option (Bool) :=
cond ((decide (i < 0)) || (decide (j < 0))) (
some ((decide (i < 0)) && (decide (j < 0)))) (
Option.bind (ixL a i) fun x1 =>
Option.bind (ixL b_ j) fun x2 =>
some (decide (x1.data = x2.data)))
theorem t231 {n : Nat} {C : List Chunk} {rc1 : Bool} {v1 : Value} {a : (List File)} {i : Int} {v2 : Value} {b_ : (List File)} {j : Int} (hr1 : Rd rFile C v1 a) (hr2 : Rd rFile C v2 b_)  (hm : m231 n a i b_ j = some rc1) : Trip Tryz.prog 231 #[v1, .int .i64 i, v2, .int .i64 j] ([] ++ [C]) (fun u S' => .bool rc1 = u ∧ S' = [] ++ [C]) := by
  refine fn_entry (args := [v1, .int .i64 i, v2, .int .i64 j]) Tryz.func231 rfl Tryz.ntmps231 rfl (fun w0 => ?_)
  refine c_seq ?_
  refine c_region ?_
  refine o_L (y_assign rfl) rfl rfl ?_
  refine o_nil0 rfl ?_
  refine c_seq ?_
  refine c_seq ?_
  refine c_joinP (n := 0) (fun sh G => sh = [(14, .bool ((decide (i < 0)) || (decide (j < 0))))] ∧ G = []) Sel.all' .z (fun _ _ h => h) ?_ ?_
  · skip
    refine c_region ?_
    refine o_T (y_move rfl) rfl ?_
    refine o_T (y_lss rfl rfl) rfl ?_
    refine o_T (y_move rfl) rfl ?_
    refine o_split 11 rfl (fun h1 => ?_) (fun h1 => ?_)
    · skip
      refine o_pass rfl rfl rfl rfl rfl ?_
      refine o_pass rfl rfl rfl rfl rfl ?_
      refine o_T (y_pickT rfl rfl) rfl ?_
      refine o_nil1 14 rfl rfl ?_
      refine ⟨_, _, ⟨rfl, rfl⟩, ⟨by first | rfl | exact gtb rfl (by simp only [h1, Bool.true_and, Bool.false_and, Bool.true_or, Bool.false_or, Bool.and_true, Bool.and_false, Bool.or_true, Bool.or_false, Bool.not_true, Bool.not_false]), trivial⟩, ⟨rfl, rfl⟩, _, (s_take s_nil)⟩
    · skip
      refine o_take rfl rfl rfl ?_
      refine o_T (y_move rfl) rfl ?_
      refine o_take rfl rfl rfl ?_
      refine o_T (y_lss rfl rfl) rfl ?_
      refine o_T (y_pickF rfl rfl) rfl ?_
      refine o_nil1 14 rfl rfl ?_
      refine ⟨_, _, ⟨rfl, rfl⟩, ⟨by first | rfl | exact gtb rfl (by simp only [h1, Bool.true_and, Bool.false_and, Bool.true_or, Bool.false_or, Bool.and_true, Bool.and_false, Bool.or_true, Bool.or_false, Bool.not_true, Bool.not_false]), trivial⟩, ⟨rfl, rfl⟩, _, (s_take s_nil)⟩
  · rintro sh G ⟨rfl, rfl⟩
    refine c_cond rfl (fun h2 => ?_) (fun h2 => ?_)
    · have hm := cd_t h2 hm
      refine c_seq ?_
      refine c_joinP (n := 0) (fun sh G => sh = [(8, .bool ((decide (i < 0)) && (decide (j < 0))))] ∧ G = []) Sel.all' .z (fun _ _ h => h) ?_ ?_
      · skip
        refine c_region ?_
        refine o_T (y_move rfl) rfl ?_
        refine o_T (y_lss rfl rfl) rfl ?_
        refine o_T (y_move rfl) rfl ?_
        refine o_split 17 rfl (fun h3 => ?_) (fun h3 => ?_)
        · skip
          refine o_take rfl rfl rfl ?_
          refine o_T (y_move rfl) rfl ?_
          refine o_take rfl rfl rfl ?_
          refine o_T (y_lss rfl rfl) rfl ?_
          refine o_T (y_pickT rfl rfl) rfl ?_
          refine o_L (y_assign rfl) rfl rfl ?_
          refine o_nil0 rfl ?_
          refine ⟨_, _, ⟨rfl, rfl⟩, ⟨by first | rfl | exact gtb rfl (by simp only [h3, Bool.true_and, Bool.false_and, Bool.true_or, Bool.false_or, Bool.and_true, Bool.and_false, Bool.or_true, Bool.or_false, Bool.not_true, Bool.not_false]), trivial⟩, ⟨rfl, rfl⟩, _, (s_take s_nil)⟩
        · skip
          refine o_pass rfl rfl rfl rfl rfl ?_
          refine o_pass rfl rfl rfl rfl rfl ?_
          refine o_T (y_pickF rfl rfl) rfl ?_
          refine o_L (y_assign rfl) rfl rfl ?_
          refine o_nil0 rfl ?_
          refine ⟨_, _, ⟨rfl, rfl⟩, ⟨by first | rfl | exact gtb rfl (by simp only [h3, Bool.true_and, Bool.false_and, Bool.true_or, Bool.false_or, Bool.and_true, Bool.and_false, Bool.or_true, Bool.or_false, Bool.not_true, Bool.not_false]), trivial⟩, ⟨rfl, rfl⟩, _, (s_take s_nil)⟩
      · rintro sh G ⟨rfl, rfl⟩
        refine c_ret ?_
        obtain rfl := p1 hm
        refine fun aX wX heX hsX => ret1 Tryz.results231 heX rfl (s_take s_nil) ?_
        exact ⟨rfl, rfl⟩
    · have hm := cd_f h2 hm
      refine c_skip ?_
      refine c_seq ?_
      refine c_draw #[true, true, true, true, true, true, true, true, true, true, true, true] rfl (n := 12) rfl ?_
      refine d_T 0 rfl sb_231_3_0 rfl (y_move rfl) rfl ?_
      refine d_T 1 rfl sb_231_3_1 rfl (y_move rfl) rfl ?_
      obtain ⟨x1, hx1, hm⟩ := bd hm
      obtain ⟨b1, w1, cs1, y1, z1, vs1, hc1, ha1, hr3, hy1⟩ := hr1.ix hx1
      obtain rfl : vs1 = File.enc x1 := hr3
      refine d_T 2 rfl sb_231_3_2 rfl (hy1 sl_57 rfl rfl rfl) rfl ?_
      refine d_T 3 rfl sb_231_3_3 rfl (y_fa fl_71_1 rfl) rfl ?_
      refine d_ld 4 rfl sb_231_3_4 one_9 rfl (fun x hx => hx) (mg hc1) (At.getA (ha1.comp File.a_data)) rfl ?_
      refine d_T 5 rfl sb_231_3_5 rfl (y_move rfl) rfl ?_
      refine d_T 6 rfl sb_231_3_6 rfl (y_move rfl) rfl ?_
      obtain ⟨x2, hx2, hm⟩ := bd hm
      obtain ⟨b2, w2, cs2, y2, z2, vs2, hc2, ha2, hr4, hy2⟩ := hr2.ix hx2
      obtain rfl : vs2 = File.enc x2 := hr4
      refine d_T 7 rfl sb_231_3_7 rfl (hy2 sl_57 rfl rfl rfl) rfl ?_
      refine d_T 8 rfl sb_231_3_8 rfl (y_fa fl_71_1 rfl) rfl ?_
      refine d_ld 9 rfl sb_231_3_9 one_9 rfl (fun x hx => hx) (mg hc2) (At.getA (ha2.comp File.a_data)) rfl ?_
      refine d_T 10 rfl sb_231_3_10 rfl (y_seq rfl rfl) rfl ?_
      refine d_L 11 rfl sb_231_3_11 rfl (y_assign rfl) rfl rfl ?_
      refine d_nil0 sb_231_3_12 rfl ?_
      refine c_ret ?_
      obtain rfl := p1 hm
      refine fun aX wX heX hsX => ret1 Tryz.results231 heX rfl (s_take s_nil) ?_
      exact ⟨rfl, rfl⟩
end Go.Proofs.Qxb6500350aGreat
