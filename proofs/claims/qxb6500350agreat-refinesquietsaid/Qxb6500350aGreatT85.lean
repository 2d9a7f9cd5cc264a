/- MADE BY PROGRAM (tools350/mir.py): mirror and walk. -/
import Derived.Test.Qxb6500350aGreatF2
set_option linter.unusedVariables false
set_option linter.unusedSimpArgs false
set_option maxRecDepth 20000
set_option maxHeartbeats 4000000
namespace Go.Proofs.Qxb6500350aGreat
open Go.Eng

def op_85_6 : Array Go.Oper := #[{ dst := some 17, op := Go.Op.move (Go.Operand.tmp 0), type := 99, pos := "law.go:82", after := #[], guard := none }, { dst := some 18, op := Go.Op.move (Go.Operand.tmp 5), type := 3, pos := "law.go:82", after := #[], guard := none }, { dst := some 19, op := Go.Op.indexAddr 99 (Go.Operand.tmp 17) (Go.Operand.tmp 18), type := 0, pos := "law.go:82", after := #[{ on := 0, ground := Go.Ground.data }, { on := 1, ground := Go.Ground.data }], guard := none }, { dst := some 20, op := Go.Op.load 196 (Go.Operand.tmp 19), type := 196, pos := "law.go:82", after := #[{ on := 2, ground := Go.Ground.data }], guard := none }, { dst := some 21, op := Go.Op.move (Go.Operand.tmp 1), type := 99, pos := "law.go:82", after := #[], guard := none }, { dst := some 22, op := Go.Op.move (Go.Operand.tmp 5), type := 3, pos := "law.go:82", after := #[], guard := none }, { dst := some 23, op := Go.Op.indexAddr 99 (Go.Operand.tmp 21) (Go.Operand.tmp 22), type := 0, pos := "law.go:82", after := #[{ on := 4, ground := Go.Ground.data }, { on := 5, ground := Go.Ground.data }], guard := none }, { dst := some 24, op := Go.Op.load 196 (Go.Operand.tmp 23), type := 196, pos := "law.go:82", after := #[{ on := 6, ground := Go.Ground.data }], guard := none }, { dst := some 25, op := Go.Op.binOp Go.BinOp.neq 196 (Go.Operand.tmp 20) (Go.Operand.tmp 24) 196, type := 4, pos := "law.go:82", after := #[{ on := 3, ground := Go.Ground.data }, { on := 7, ground := Go.Ground.data }], guard := none }]
theorem sb_85_6_0 : softB op_85_6 #[true, true, true, true, true, true, true, true, true] (Array.replicate 9 false) 0 = true := by kernel_rfl
theorem sb_85_6_1 : softB op_85_6 #[true, true, true, true, true, true, true, true, true] ((Array.replicate 9 false).setIfInBounds 0 true) 1 = true := by kernel_rfl
theorem sb_85_6_2 : softB op_85_6 #[true, true, true, true, true, true, true, true, true] (((Array.replicate 9 false).setIfInBounds 0 true).setIfInBounds 1 true) 2 = true := by kernel_rfl
theorem sb_85_6_3 : softB op_85_6 #[true, true, true, true, true, true, true, true, true] ((((Array.replicate 9 false).setIfInBounds 0 true).setIfInBounds 1 true).setIfInBounds 2 true) 3 = true := by kernel_rfl
theorem sb_85_6_4 : softB op_85_6 #[true, true, true, true, true, true, true, true, true] (((((Array.replicate 9 false).setIfInBounds 0 true).setIfInBounds 1 true).setIfInBounds 2 true).setIfInBounds 3 true) 4 = true := by kernel_rfl
theorem sb_85_6_5 : softB op_85_6 #[true, true, true, true, true, true, true, true, true] ((((((Array.replicate 9 false).setIfInBounds 0 true).setIfInBounds 1 true).setIfInBounds 2 true).setIfInBounds 3 true).setIfInBounds 4 true) 5 = true := by kernel_rfl
theorem sb_85_6_6 : softB op_85_6 #[true, true, true, true, true, true, true, true, true] (((((((Array.replicate 9 false).setIfInBounds 0 true).setIfInBounds 1 true).setIfInBounds 2 true).setIfInBounds 3 true).setIfInBounds 4 true).setIfInBounds 5 true) 6 = true := by kernel_rfl
theorem sb_85_6_7 : softB op_85_6 #[true, true, true, true, true, true, true, true, true] ((((((((Array.replicate 9 false).setIfInBounds 0 true).setIfInBounds 1 true).setIfInBounds 2 true).setIfInBounds 3 true).setIfInBounds 4 true).setIfInBounds 5 true).setIfInBounds 6 true) 7 = true := by kernel_rfl
theorem sb_85_6_8 : softB op_85_6 #[true, true, true, true, true, true, true, true, true] (((((((((Array.replicate 9 false).setIfInBounds 0 true).setIfInBounds 1 true).setIfInBounds 2 true).setIfInBounds 3 true).setIfInBounds 4 true).setIfInBounds 5 true).setIfInBounds 6 true).setIfInBounds 7 true) 8 = true := by kernel_rfl
theorem sb_85_6_9 : hardB op_85_6 ((((((((((Array.replicate 9 false).setIfInBounds 0 true).setIfInBounds 1 true).setIfInBounds 2 true).setIfInBounds 3 true).setIfInBounds 4 true).setIfInBounds 5 true).setIfInBounds 6 true).setIfInBounds 7 true).setIfInBounds 8 true) [] = true := by kernel_rfl
/- towerlaw.sameChanges -/
def m85_w1 (n : Nat) (a : (List Chg)) (b_ : (List Chg)) (mm : Nat) : Int → Option (Flow (Bool) (Int)) := it1 (fun lp1 c1 =>
cond (decide (c1 < (a.length : Int))) (
Option.bind (ixL a c1) fun x1 =>
Option.bind (ixL b_ c1) fun x2 =>
cond (!(decide (x1 = x2))) (
Option.bind (some false) fun q1 => some (.ret q1)) (
lp1 (wi (c1 + 1)))) (
some (.nx c1))) mm
def m85 (n : Nat) (a : (List Chg)) (b_ : (List Chg)) : Option (Bool) :=
cond (decide (¬ ((a.length : Int) = (b_.length : Int)))) (
some false) (
flow (m85_w1 n a b_ n 0) some (un1 fun c2 =>
some true))
theorem t85 {n : Nat} {C : List Chunk} {rc1 : Bool} {v1 : Value} {a : (List Chg)} {v2 : Value} {b_ : (List Chg)} (hr1 : Rd rChg C v1 a) (hr2 : Rd rChg C v2 b_)  (hm : m85 n a b_ = some rc1) : Trip Tryz.prog 85 #[v1, v2] ([] ++ [C]) (fun u S' => .bool rc1 = u ∧ S' = [] ++ [C]) := by
  refine fn_entry (args := [v1, v2]) Tryz.func85 rfl Tryz.ntmps85 rfl (fun w0 => ?_)
  refine c_seq ?_
  refine c_region ?_
  refine o_L (y_assign rfl) rfl rfl ?_
  refine o_nil0 rfl ?_
  refine c_seq ?_
  refine c_seq ?_
  refine c_region ?_
  refine o_T (y_move rfl) rfl ?_
  refine o_T (y_lenR hr1 Tryz.underlying99 rfl) rfl ?_
  refine o_T (y_move rfl) rfl ?_
  refine o_T (y_lenR hr2 Tryz.underlying99 rfl) rfl ?_
  refine o_T (y_neq rfl rfl) rfl ?_
  refine o_nil1 10 rfl rfl ?_
  refine c_cond rfl (fun h1 => ?_) (fun h1 => ?_)
  · have hm := cd_t h1 hm
    refine c_seq ?_
    refine c_region ?_
    refine o_L (y_assign rfl) rfl rfl ?_
    refine o_nil0 rfl ?_
    refine c_ret ?_
    obtain rfl := p1 hm
    refine fun aX wX heX hsX => ret1 Tryz.results85 heX rfl (s_take s_nil) ?_
    exact ⟨rfl, rfl⟩
  · have hm := cd_f h1 hm
    refine c_skip ?_
    refine c_seq ?_
    refine c_seq ?_
    refine c_region ?_
    refine o_L (y_assign rfl) rfl rfl ?_
    refine o_nil0 rfl ?_
    obtain ⟨f1, F1, hF1, hj1, hF2⟩ := fl2 hm
    refine c_joinP (n := 0) (fun sh G => ∃ (c2 : Int), sh = [(5, .int .i64 c2)] ∧ G = [] ∧ F1 c2 = some rc1) (s_take s_nil) .z (fun _ _ h => h) ?_ ?_
    · skip
      refine c_block ?_
      refine c_loopP (n := 0) (fun mm sh G => ∃ (c1 : Int), sh = [(5, .int .i64 c1)] ∧ G = [] ∧ m85_w1 n a b_ mm c1 = some f1) n (s_take s_nil) .z ⟨_, _, ⟨_, rfl, rfl, hj1⟩, ⟨rfl, trivial⟩, _, (s_take s_nil)⟩ ?_
      rintro mm sh G ⟨c1, rfl, rfl, hm⟩
      obtain ⟨mm1, rfl, hm⟩ := it1_s hm
      refine c_seq ?_
      refine c_seq ?_
      refine c_region ?_
      refine o_T (y_move rfl) rfl ?_
      refine o_T (y_move rfl) rfl ?_
      refine o_T (y_lenR hr1 Tryz.underlying99 rfl) rfl ?_
      refine o_T (y_lss rfl rfl) rfl ?_
      refine o_nil1 14 rfl rfl ?_
      refine c_cond rfl (fun h2 => ?_) (fun h2 => ?_)
      · have hm := cd_t h2 hm
        refine c_skip ?_
        refine c_seq ?_
        refine c_block ?_
        refine c_seq ?_
        refine c_draw #[true, true, true, true, true, true, true, true, true] rfl (n := 9) rfl ?_
        refine d_T 0 rfl sb_85_6_0 rfl (y_move rfl) rfl ?_
        refine d_T 1 rfl sb_85_6_1 rfl (y_move rfl) rfl ?_
        obtain ⟨x1, hx1, hm⟩ := bd hm
        obtain ⟨b1, w1, cs1, y1, z1, vs1, hc1, ha1, hr3, hy1⟩ := hr1.ix hx1
        obtain rfl : vs1 = Chg.enc x1 := hr3
        refine d_T 2 rfl sb_85_6_2 rfl (hy1 sl_99 rfl rfl rfl) rfl ?_
        refine d_lda 3 rfl sb_85_6_3 ag_196 rfl (fun x hx => hx) (mg hc1) (At.ext (ha1) (Chg.len _)) (At.fit (ha1) (Chg.len _)) rfl ?_
        refine d_T 4 rfl sb_85_6_4 rfl (y_move rfl) rfl ?_
        refine d_T 5 rfl sb_85_6_5 rfl (y_move rfl) rfl ?_
        obtain ⟨x2, hx2, hm⟩ := bd hm
        obtain ⟨b2, w2, cs2, y2, z2, vs2, hc2, ha2, hr4, hy2⟩ := hr2.ix hx2
        obtain rfl : vs2 = Chg.enc x2 := hr4
        refine d_T 6 rfl sb_85_6_6 rfl (hy2 sl_99 rfl rfl rfl) rfl ?_
        refine d_lda 7 rfl sb_85_6_7 ag_196 rfl (fun x hx => hx) (mg hc2) (At.ext (ha2) (Chg.len _)) (At.fit (ha2) (Chg.len _)) rfl ?_
        refine d_T 8 rfl sb_85_6_8 rfl (y_ane_196 rfl rfl) rfl ?_
        refine d_nil1 25 sb_85_6_9 rfl rfl ?_
        refine c_cond rfl (fun h3 => ?_) (fun h3 => ?_)
        · have hm := cd_t h3 hm
          refine c_seq ?_
          refine c_region ?_
          refine o_L (y_assign rfl) rfl rfl ?_
          refine o_nil0 rfl ?_
          refine c_ret ?_
          obtain ⟨q1, hq1, hm⟩ := bd hm
          have hm := fl_ret hm hF2
          have hm := hq1.trans hm
          obtain rfl := p1 hm
          refine fun aX wX heX hsX => ret1 Tryz.results85 heX rfl (s_take s_nil) ?_
          exact ⟨rfl, rfl⟩
        · have hm := cd_f h3 hm
          refine c_skip ?_
          refine c_region ?_
          refine o_T (y_move rfl) rfl ?_
          refine o_T (y_add rfl rfl rfl) rfl ?_
          refine o_L (y_assign rfl) rfl rfl ?_
          refine o_nil0 rfl ?_
          exact ⟨mm1, Nat.lt_succ_self _, _, _, ⟨_, rfl, rfl, hm⟩, ⟨rfl, trivial⟩, ⟨rfl, rfl⟩, _, (s_take s_nil)⟩
      · have hm := cd_f h2 hm
        refine c_exit ?_
        have hm := fl_nx hm hF2
        exact ⟨_, _, ⟨_, rfl, rfl, hm⟩, ⟨rfl, trivial⟩, ⟨rfl, rfl⟩, _, (s_take s_nil)⟩
    · rintro sh G ⟨c2, rfl, rfl, hm⟩
      subst hF1
      refine c_seq ?_
      refine c_region ?_
      refine o_L (y_assign rfl) rfl rfl ?_
      refine o_nil0 rfl ?_
      refine c_ret ?_
      obtain rfl := p1 hm
      refine fun aX wX heX hsX => ret1 Tryz.results85 heX rfl (s_take s_nil) ?_
      exact ⟨rfl, rfl⟩
end Go.Proofs.Qxb6500350aGreat
