/- MADE BY PROGRAM (tools350/mir.py): mirror and walk. -/
import Derived.Test.Qxb6500350aGreatF2
set_option linter.unusedVariables false
set_option linter.unusedSimpArgs false
set_option maxRecDepth 20000
set_option maxHeartbeats 4000000
namespace Go.Proofs.Qxb6500350aGreat
open Go.Eng

def op_307_6 : Array Go.Oper := #[{ dst := some 28, op := Go.Op.move (Go.Operand.tmp 0), type := 65, pos := "pool.go:58", after := #[], guard := none }, { dst := some 29, op := Go.Op.move (Go.Operand.tmp 1), type := 3, pos := "pool.go:58", after := #[], guard := none }, { dst := some 30, op := Go.Op.move (Go.Operand.tmp 13), type := 3, pos := "pool.go:58", after := #[], guard := none }, { dst := some 31, op := Go.Op.binOp Go.BinOp.add 3 (Go.Operand.tmp 29) (Go.Operand.tmp 30) 3, type := 3, pos := "pool.go:58", after := #[{ on := 1, ground := Go.Ground.data }, { on := 2, ground := Go.Ground.data }], guard := none }, { dst := some 32, op := Go.Op.indexAddr 65 (Go.Operand.tmp 28) (Go.Operand.tmp 31), type := 0, pos := "pool.go:58", after := #[{ on := 0, ground := Go.Ground.data }, { on := 3, ground := Go.Ground.data }], guard := none }, { dst := some 33, op := Go.Op.load 3 (Go.Operand.tmp 32), type := 3, pos := "pool.go:58", after := #[{ on := 4, ground := Go.Ground.data }], guard := none }, { dst := some 34, op := Go.Op.move (Go.Operand.tmp 3), type := 65, pos := "pool.go:58", after := #[], guard := none }, { dst := some 35, op := Go.Op.move (Go.Operand.tmp 4), type := 3, pos := "pool.go:58", after := #[], guard := none }, { dst := some 36, op := Go.Op.move (Go.Operand.tmp 13), type := 3, pos := "pool.go:58", after := #[], guard := none }, { dst := some 37, op := Go.Op.binOp Go.BinOp.add 3 (Go.Operand.tmp 35) (Go.Operand.tmp 36) 3, type := 3, pos := "pool.go:58", after := #[{ on := 7, ground := Go.Ground.data }, { on := 8, ground := Go.Ground.data }], guard := none }, { dst := some 38, op := Go.Op.indexAddr 65 (Go.Operand.tmp 34) (Go.Operand.tmp 37), type := 0, pos := "pool.go:58", after := #[{ on := 6, ground := Go.Ground.data }, { on := 9, ground := Go.Ground.data }], guard := none }, { dst := some 39, op := Go.Op.load 3 (Go.Operand.tmp 38), type := 3, pos := "pool.go:58", after := #[{ on := 10, ground := Go.Ground.data }], guard := none }, { dst := some 40, op := Go.Op.binOp Go.BinOp.neq 3 (Go.Operand.tmp 33) (Go.Operand.tmp 39) 3, type := 4, pos := "pool.go:58", after := #[{ on := 5, ground := Go.Ground.data }, { on := 11, ground := Go.Ground.data }], guard := none }]
theorem sb_307_6_0 : softB op_307_6 #[true, true, true, true, true, true, true, true, true, true, true, true, true] (Array.replicate 13 false) 0 = true := by kernel_rfl
theorem sb_307_6_1 : softB op_307_6 #[true, true, true, true, true, true, true, true, true, true, true, true, true] ((Array.replicate 13 false).setIfInBounds 0 true) 1 = true := by kernel_rfl
theorem sb_307_6_2 : softB op_307_6 #[true, true, true, true, true, true, true, true, true, true, true, true, true] (((Array.replicate 13 false).setIfInBounds 0 true).setIfInBounds 1 true) 2 = true := by kernel_rfl
theorem sb_307_6_3 : softB op_307_6 #[true, true, true, true, true, true, true, true, true, true, true, true, true] ((((Array.replicate 13 false).setIfInBounds 0 true).setIfInBounds 1 true).setIfInBounds 2 true) 3 = true := by kernel_rfl
theorem sb_307_6_4 : softB op_307_6 #[true, true, true, true, true, true, true, true, true, true, true, true, true] (((((Array.replicate 13 false).setIfInBounds 0 true).setIfInBounds 1 true).setIfInBounds 2 true).setIfInBounds 3 true) 4 = true := by kernel_rfl
theorem sb_307_6_5 : softB op_307_6 #[true, true, true, true, true, true, true, true, true, true, true, true, true] ((((((Array.replicate 13 false).setIfInBounds 0 true).setIfInBounds 1 true).setIfInBounds 2 true).setIfInBounds 3 true).setIfInBounds 4 true) 5 = true := by kernel_rfl
theorem sb_307_6_6 : softB op_307_6 #[true, true, true, true, true, true, true, true, true, true, true, true, true] (((((((Array.replicate 13 false).setIfInBounds 0 true).setIfInBounds 1 true).setIfInBounds 2 true).setIfInBounds 3 true).setIfInBounds 4 true).setIfInBounds 5 true) 6 = true := by kernel_rfl
theorem sb_307_6_7 : softB op_307_6 #[true, true, true, true, true, true, true, true, true, true, true, true, true] ((((((((Array.replicate 13 false).setIfInBounds 0 true).setIfInBounds 1 true).setIfInBounds 2 true).setIfInBounds 3 true).setIfInBounds 4 true).setIfInBounds 5 true).setIfInBounds 6 true) 7 = true := by kernel_rfl
theorem sb_307_6_8 : softB op_307_6 #[true, true, true, true, true, true, true, true, true, true, true, true, true] (((((((((Array.replicate 13 false).setIfInBounds 0 true).setIfInBounds 1 true).setIfInBounds 2 true).setIfInBounds 3 true).setIfInBounds 4 true).setIfInBounds 5 true).setIfInBounds 6 true).setIfInBounds 7 true) 8 = true := by kernel_rfl
theorem sb_307_6_9 : softB op_307_6 #[true, true, true, true, true, true, true, true, true, true, true, true, true] ((((((((((Array.replicate 13 false).setIfInBounds 0 true).setIfInBounds 1 true).setIfInBounds 2 true).setIfInBounds 3 true).setIfInBounds 4 true).setIfInBounds 5 true).setIfInBounds 6 true).setIfInBounds 7 true).setIfInBounds 8 true) 9 = true := by kernel_rfl
theorem sb_307_6_10 : softB op_307_6 #[true, true, true, true, true, true, true, true, true, true, true, true, true] (((((((((((Array.replicate 13 false).setIfInBounds 0 true).setIfInBounds 1 true).setIfInBounds 2 true).setIfInBounds 3 true).setIfInBounds 4 true).setIfInBounds 5 true).setIfInBounds 6 true).setIfInBounds 7 true).setIfInBounds 8 true).setIfInBounds 9 true) 10 = true := by kernel_rfl
theorem sb_307_6_11 : softB op_307_6 #[true, true, true, true, true, true, true, true, true, true, true, true, true] ((((((((((((Array.replicate 13 false).setIfInBounds 0 true).setIfInBounds 1 true).setIfInBounds 2 true).setIfInBounds 3 true).setIfInBounds 4 true).setIfInBounds 5 true).setIfInBounds 6 true).setIfInBounds 7 true).setIfInBounds 8 true).setIfInBounds 9 true).setIfInBounds 10 true) 11 = true := by kernel_rfl
theorem sb_307_6_12 : softB op_307_6 #[true, true, true, true, true, true, true, true, true, true, true, true, true] (((((((((((((Array.replicate 13 false).setIfInBounds 0 true).setIfInBounds 1 true).setIfInBounds 2 true).setIfInBounds 3 true).setIfInBounds 4 true).setIfInBounds 5 true).setIfInBounds 6 true).setIfInBounds 7 true).setIfInBounds 8 true).setIfInBounds 9 true).setIfInBounds 10 true).setIfInBounds 11 true) 12 = true := by kernel_rfl
theorem sb_307_6_13 : hardB op_307_6 ((((((((((((((Array.replicate 13 false).setIfInBounds 0 true).setIfInBounds 1 true).setIfInBounds 2 true).setIfInBounds 3 true).setIfInBounds 4 true).setIfInBounds 5 true).setIfInBounds 6 true).setIfInBounds 7 true).setIfInBounds 8 true).setIfInBounds 9 true).setIfInBounds 10 true).setIfInBounds 11 true).setIfInBounds 12 true) [] = true := by kernel_rfl
/- diff.same -/
def m307_w1 (n : Nat) (x_ : (List Int)) (a : Int) (b_ : Int) (y : (List Int)) (c_ : Int) (mm : Nat) : Int → Option (Flow (Bool) (Int)) := it1 (fun lp1 c1 =>
cond (decide (c1 < (wi (b_ - a)))) (
Option.bind (ixL x_ (wi (a + c1))) fun x1 =>
Option.bind (ixL y (wi (c_ + c1))) fun x2 =>
cond (decide (¬ (x1 = x2))) (
Option.bind (some false) fun q1 => some (.ret q1)) (
lp1 (wi (c1 + 1)))) (
some (.nx c1))) mm
def m307 (n : Nat) (x_ : (List Int)) (a : Int) (b_ : Int) (y : (List Int)) (c_ : Int) (d : Int) : Option (Bool) :=
cond (decide (¬ ((wi (b_ - a)) = (wi (d - c_))))) (
some false) (
flow (m307_w1 n x_ a b_ y c_ n 0) some (un1 fun c2 =>
some true))
theorem t307 {n : Nat} {C : List Chunk} {rc1 : Bool} {v1 : Value} {x_ : (List Int)} {a : Int} {b_ : Int} {v2 : Value} {y : (List Int)} {c_ : Int} {d : Int} (hr1 : Rd rInt C v1 x_) (hr2 : Rd rInt C v2 y)  (hm : m307 n x_ a b_ y c_ d = some rc1) : Trip Tryz.prog 307 #[v1, .int .i64 a, .int .i64 b_, v2, .int .i64 c_, .int .i64 d] ([] ++ [C]) (fun u S' => .bool rc1 = u ∧ S' = [] ++ [C]) := by
  refine fn_entry (args := [v1, .int .i64 a, .int .i64 b_, v2, .int .i64 c_, .int .i64 d]) Tryz.func307 rfl Tryz.ntmps307 rfl (fun w0 => ?_)
  refine c_seq ?_
  refine c_region ?_
  refine o_L (y_assign rfl) rfl rfl ?_
  refine o_nil0 rfl ?_
  refine c_seq ?_
  refine c_seq ?_
  refine c_region ?_
  refine o_T (y_move rfl) rfl ?_
  refine o_T (y_move rfl) rfl ?_
  refine o_T (y_sub rfl rfl rfl) rfl ?_
  refine o_T (y_move rfl) rfl ?_
  refine o_T (y_move rfl) rfl ?_
  refine o_T (y_sub rfl rfl rfl) rfl ?_
  refine o_T (y_neq rfl rfl) rfl ?_
  refine o_nil1 20 rfl rfl ?_
  refine c_cond rfl (fun h1 => ?_) (fun h1 => ?_)
  · have hm := cd_t h1 hm
    refine c_seq ?_
    refine c_region ?_
    refine o_L (y_assign rfl) rfl rfl ?_
    refine o_nil0 rfl ?_
    refine c_ret ?_
    obtain rfl := p1 hm
    refine fun aX wX heX hsX => ret1 Tryz.results307 heX rfl (s_take s_nil) ?_
    exact ⟨rfl, rfl⟩
  · have hm := cd_f h1 hm
    refine c_skip ?_
    refine c_seq ?_
    refine c_seq ?_
    refine c_region ?_
    refine o_L (y_assign rfl) rfl rfl ?_
    refine o_nil0 rfl ?_
    obtain ⟨f1, F1, hF1, hj1, hF2⟩ := fl2 hm
    refine c_joinP (n := 0) (fun sh G => ∃ (c2 : Int), sh = [(13, .int .i64 c2)] ∧ G = [] ∧ F1 c2 = some rc1) (s_take s_nil) .z (fun _ _ h => h) ?_ ?_
    · skip
      refine c_block ?_
      refine c_loopP (n := 0) (fun mm sh G => ∃ (c1 : Int), sh = [(13, .int .i64 c1)] ∧ G = [] ∧ m307_w1 n x_ a b_ y c_ mm c1 = some f1) n (s_take s_nil) .z ⟨_, _, ⟨_, rfl, rfl, hj1⟩, ⟨rfl, trivial⟩, _, (s_take s_nil)⟩ ?_
      rintro mm sh G ⟨c1, rfl, rfl, hm⟩
      obtain ⟨mm1, rfl, hm⟩ := it1_s hm
      refine c_seq ?_
      refine c_seq ?_
      refine c_region ?_
      refine o_T (y_move rfl) rfl ?_
      refine o_T (y_move rfl) rfl ?_
      refine o_T (y_move rfl) rfl ?_
      refine o_T (y_sub rfl rfl rfl) rfl ?_
      refine o_T (y_lss rfl rfl) rfl ?_
      refine o_nil1 25 rfl rfl ?_
      refine c_cond rfl (fun h2 => ?_) (fun h2 => ?_)
      · have hm := cd_t h2 hm
        refine c_skip ?_
        refine c_seq ?_
        refine c_block ?_
        refine c_seq ?_
        refine c_draw #[true, true, true, true, true, true, true, true, true, true, true, true, true] rfl (n := 13) rfl ?_
        refine d_T 0 rfl sb_307_6_0 rfl (y_move rfl) rfl ?_
        refine d_T 1 rfl sb_307_6_1 rfl (y_move rfl) rfl ?_
        refine d_T 2 rfl sb_307_6_2 rfl (y_move rfl) rfl ?_
        refine d_T 3 rfl sb_307_6_3 rfl (y_add rfl rfl rfl) rfl ?_
        obtain ⟨x1, hx1, hm⟩ := bd hm
        obtain ⟨b1, w1, cs1, y1, z1, vs1, hc1, ha1, hr3, hy1⟩ := hr1.ix hx1
        obtain rfl : vs1 = (encI x1) := hr3
        refine d_T 4 rfl sb_307_6_4 rfl (hy1 sl_65 rfl rfl rfl) rfl ?_
        refine d_ld 5 rfl sb_307_6_5 one_3 rfl (fun x hx => hx) (mg hc1) (At.getA (ha1)) rfl ?_
        refine d_T 6 rfl sb_307_6_6 rfl (y_move rfl) rfl ?_
        refine d_T 7 rfl sb_307_6_7 rfl (y_move rfl) rfl ?_
        refine d_T 8 rfl sb_307_6_8 rfl (y_move rfl) rfl ?_
        refine d_T 9 rfl sb_307_6_9 rfl (y_add rfl rfl rfl) rfl ?_
        obtain ⟨x2, hx2, hm⟩ := bd hm
        obtain ⟨b2, w2, cs2, y2, z2, vs2, hc2, ha2, hr4, hy2⟩ := hr2.ix hx2
        obtain rfl : vs2 = (encI x2) := hr4
        refine d_T 10 rfl sb_307_6_10 rfl (hy2 sl_65 rfl rfl rfl) rfl ?_
        refine d_ld 11 rfl sb_307_6_11 one_3 rfl (fun x hx => hx) (mg hc2) (At.getA (ha2)) rfl ?_
        refine d_T 12 rfl sb_307_6_12 rfl (y_neq rfl rfl) rfl ?_
        refine d_nil1 40 sb_307_6_13 rfl rfl ?_
        refine c_cond rfl (fun h3 => ?_) (fun h3 => ?_)
        · have hm := cd_t h3 hm
          refine c_seq ?_
          refine c_region ?_
          refine o_L (y_assign rfl) rfl rfl ?_
          refine o_nil0 rfl ?_
          refine c_ret ?_
          obtain ⟨q1, hq1, hm⟩ := bd hm
          have hm := fl_ret hm hF2
          have hm := hq1.trans hm
          obtain rfl := p1 hm
          refine fun aX wX heX hsX => ret1 Tryz.results307 heX rfl (s_take s_nil) ?_
          exact ⟨rfl, rfl⟩
        · have hm := cd_f h3 hm
          refine c_skip ?_
          refine c_region ?_
          refine o_T (y_move rfl) rfl ?_
          refine o_T (y_add rfl rfl rfl) rfl ?_
          refine o_L (y_assign rfl) rfl rfl ?_
          refine o_nil0 rfl ?_
          exact ⟨mm1, Nat.lt_succ_self _, _, _, ⟨_, rfl, rfl, hm⟩, ⟨rfl, trivial⟩, ⟨rfl, rfl⟩, _, (s_take s_nil)⟩
      · have hm := cd_f h2 hm
        refine c_exit ?_
        have hm := fl_nx hm hF2
        exact ⟨_, _, ⟨_, rfl, rfl, hm⟩, ⟨rfl, trivial⟩, ⟨rfl, rfl⟩, _, (s_take s_nil)⟩
    · rintro sh G ⟨c2, rfl, rfl, hm⟩
      subst hF1
      refine c_seq ?_
      refine c_region ?_
      refine o_L (y_assign rfl) rfl rfl ?_
      refine o_nil0 rfl ?_
      refine c_ret ?_
      obtain rfl := p1 hm
      refine fun aX wX heX hsX => ret1 Tryz.results307 heX rfl (s_take s_nil) ?_
      exact ⟨rfl, rfl⟩
end Go.Proofs.Qxb6500350aGreat
