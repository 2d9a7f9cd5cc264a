/- MADE BY PROGRAM (tools350/mir.py): mirror and walk. -/
import Derived.Test.Qxb6500350aGreatF2
set_option linter.unusedVariables false
set_option linter.unusedSimpArgs false
set_option maxRecDepth 20000
set_option maxHeartbeats 4000000
namespace Go.Proofs.Qxb6500350aGreat
open Go.Eng

def op_195_6 : Array Go.Oper := #[{ dst := some 17, op := Go.Op.move (Go.Operand.tmp 0), type := 81, pos := "code.go:33", after := #[], guard := none }, { dst := some 18, op := Go.Op.move (Go.Operand.tmp 4), type := 3, pos := "code.go:33", after := #[], guard := none }, { dst := some 19, op := Go.Op.indexAddr 81 (Go.Operand.tmp 17) (Go.Operand.tmp 18), type := 0, pos := "code.go:33", after := #[{ on := 0, ground := Go.Ground.data }, { on := 1, ground := Go.Ground.data }], guard := none }, { dst := some 20, op := Go.Op.load 5 (Go.Operand.tmp 19), type := 5, pos := "code.go:33", after := #[{ on := 2, ground := Go.Ground.data }], guard := none }, { dst := some 21, op := Go.Op.convert 5 3 (Go.Operand.tmp 20), type := 3, pos := "code.go:33", after := #[{ on := 3, ground := Go.Ground.data }], guard := none }, { dst := some 22, op := Go.Op.move (Go.Operand.tmp 0), type := 81, pos := "code.go:33", after := #[{ on := 17, ground := Go.Ground.gcOnly Go.Departure.lateStores }], guard := none }, { dst := some 23, op := Go.Op.move (Go.Operand.tmp 4), type := 3, pos := "code.go:33", after := #[{ on := 17, ground := Go.Ground.gcOnly Go.Departure.lateStores }], guard := none }, { dst := some 24, op := Go.Op.binOp Go.BinOp.add 3 (Go.Operand.tmp 23) (Go.Operand.const (Go.Value.int Go.IntKind.i64 1)) 3, type := 3, pos := "code.go:33", after := #[{ on := 6, ground := Go.Ground.data }, { on := 17, ground := Go.Ground.gcOnly Go.Departure.lateStores }], guard := none }, { dst := some 25, op := Go.Op.indexAddr 81 (Go.Operand.tmp 22) (Go.Operand.tmp 24), type := 0, pos := "code.go:33", after := #[{ on := 5, ground := Go.Ground.data }, { on := 7, ground := Go.Ground.data }, { on := 17, ground := Go.Ground.gcOnly Go.Departure.lateStores }], guard := none }, { dst := some 26, op := Go.Op.load 5 (Go.Operand.tmp 25), type := 5, pos := "code.go:33", after := #[{ on := 8, ground := Go.Ground.data }, { on := 17, ground := Go.Ground.gcOnly Go.Departure.lateStores }], guard := none }, { dst := some 27, op := Go.Op.convert 5 3 (Go.Operand.tmp 26), type := 3, pos := "code.go:33", after := #[{ on := 9, ground := Go.Ground.data }, { on := 17, ground := Go.Ground.gcOnly Go.Departure.lateStores }], guard := none }, { dst := some 28, op := Go.Op.move (Go.Operand.tmp 0), type := 81, pos := "code.go:33", after := #[{ on := 18, ground := Go.Ground.gcOnly Go.Departure.lateStores }], guard := none }, { dst := some 29, op := Go.Op.move (Go.Operand.tmp 4), type := 3, pos := "code.go:33", after := #[{ on := 18, ground := Go.Ground.gcOnly Go.Departure.lateStores }], guard := none }, { dst := some 30, op := Go.Op.binOp Go.BinOp.add 3 (Go.Operand.tmp 29) (Go.Operand.const (Go.Value.int Go.IntKind.i64 2)) 3, type := 3, pos := "code.go:33", after := #[{ on := 12, ground := Go.Ground.data }, { on := 18, ground := Go.Ground.gcOnly Go.Departure.lateStores }], guard := none }, { dst := some 31, op := Go.Op.indexAddr 81 (Go.Operand.tmp 28) (Go.Operand.tmp 30), type := 0, pos := "code.go:33", after := #[{ on := 11, ground := Go.Ground.data }, { on := 13, ground := Go.Ground.data }, { on := 18, ground := Go.Ground.gcOnly Go.Departure.lateStores }], guard := none }, { dst := some 32, op := Go.Op.load 5 (Go.Operand.tmp 31), type := 5, pos := "code.go:33", after := #[{ on := 14, ground := Go.Ground.data }, { on := 18, ground := Go.Ground.gcOnly Go.Departure.lateStores }], guard := none }, { dst := some 33, op := Go.Op.convert 5 3 (Go.Operand.tmp 32), type := 3, pos := "code.go:33", after := #[{ on := 15, ground := Go.Ground.data }, { on := 18, ground := Go.Ground.gcOnly Go.Departure.lateStores }], guard := none }, { dst := some 5, op := Go.Op.assign (Go.Operand.tmp 21), type := 3, pos := "code.go:33", after := #[{ on := 4, ground := Go.Ground.data }, { on := 0, ground := Go.Ground.phase }, { on := 1, ground := Go.Ground.phase }, { on := 2, ground := Go.Ground.phase }, { on := 3, ground := Go.Ground.phase }, { on := 4, ground := Go.Ground.phase }, { on := 5, ground := Go.Ground.textOnly Go.Departure.lateStores }, { on := 6, ground := Go.Ground.textOnly Go.Departure.lateStores }, { on := 7, ground := Go.Ground.textOnly Go.Departure.lateStores }, { on := 8, ground := Go.Ground.textOnly Go.Departure.lateStores }, { on := 9, ground := Go.Ground.textOnly Go.Departure.lateStores }, { on := 10, ground := Go.Ground.textOnly Go.Departure.lateStores }, { on := 11, ground := Go.Ground.textOnly Go.Departure.lateStores }, { on := 12, ground := Go.Ground.textOnly Go.Departure.lateStores }, { on := 13, ground := Go.Ground.textOnly Go.Departure.lateStores }, { on := 14, ground := Go.Ground.textOnly Go.Departure.lateStores }, { on := 15, ground := Go.Ground.textOnly Go.Departure.lateStores }, { on := 16, ground := Go.Ground.textOnly Go.Departure.lateStores }], guard := none }, { dst := some 6, op := Go.Op.assign (Go.Operand.tmp 27), type := 3, pos := "code.go:33", after := #[{ on := 10, ground := Go.Ground.data }, { on := 17, ground := Go.Ground.chain }, { on := 0, ground := Go.Ground.phase }, { on := 1, ground := Go.Ground.phase }, { on := 2, ground := Go.Ground.phase }, { on := 3, ground := Go.Ground.phase }, { on := 4, ground := Go.Ground.phase }, { on := 5, ground := Go.Ground.phase }, { on := 6, ground := Go.Ground.phase }, { on := 7, ground := Go.Ground.phase }, { on := 8, ground := Go.Ground.phase }, { on := 9, ground := Go.Ground.phase }, { on := 10, ground := Go.Ground.phase }, { on := 11, ground := Go.Ground.textOnly Go.Departure.lateStores }, { on := 12, ground := Go.Ground.textOnly Go.Departure.lateStores }, { on := 13, ground := Go.Ground.textOnly Go.Departure.lateStores }, { on := 14, ground := Go.Ground.textOnly Go.Departure.lateStores }, { on := 15, ground := Go.Ground.textOnly Go.Departure.lateStores }, { on := 16, ground := Go.Ground.textOnly Go.Departure.lateStores }, { on := 17, ground := Go.Ground.phase }], guard := none }, { dst := some 7, op := Go.Op.assign (Go.Operand.tmp 33), type := 3, pos := "code.go:33", after := #[{ on := 16, ground := Go.Ground.data }, { on := 18, ground := Go.Ground.chain }, { on := 0, ground := Go.Ground.phase }, { on := 1, ground := Go.Ground.phase }, { on := 2, ground := Go.Ground.phase }, { on := 3, ground := Go.Ground.phase }, { on := 4, ground := Go.Ground.phase }, { on := 5, ground := Go.Ground.phase }, { on := 6, ground := Go.Ground.phase }, { on := 7, ground := Go.Ground.phase }, { on := 8, ground := Go.Ground.phase }, { on := 9, ground := Go.Ground.phase }, { on := 10, ground := Go.Ground.phase }, { on := 11, ground := Go.Ground.phase }, { on := 12, ground := Go.Ground.phase }, { on := 13, ground := Go.Ground.phase }, { on := 14, ground := Go.Ground.phase }, { on := 15, ground := Go.Ground.phase }, { on := 16, ground := Go.Ground.phase }, { on := 17, ground := Go.Ground.phase }, { on := 18, ground := Go.Ground.phase }], guard := none }]
theorem sb_195_6_0 : softB op_195_6 #[true, true, true, true, true, true, true, true, true, true, true, true, true, true, true, true, true, true, true, true] (Array.replicate 20 false) 0 = true := by kernel_rfl
theorem sb_195_6_1 : softB op_195_6 #[true, true, true, true, true, true, true, true, true, true, true, true, true, true, true, true, true, true, true, true] ((Array.replicate 20 false).setIfInBounds 0 true) 1 = true := by kernel_rfl
theorem sb_195_6_2 : softB op_195_6 #[true, true, true, true, true, true, true, true, true, true, true, true, true, true, true, true, true, true, true, true] (((Array.replicate 20 false).setIfInBounds 0 true).setIfInBounds 1 true) 2 = true := by kernel_rfl
theorem sb_195_6_3 : softB op_195_6 #[true, true, true, true, true, true, true, true, true, true, true, true, true, true, true, true, true, true, true, true] ((((Array.replicate 20 false).setIfInBounds 0 true).setIfInBounds 1 true).setIfInBounds 2 true) 3 = true := by kernel_rfl
theorem sb_195_6_4 : softB op_195_6 #[true, true, true, true, true, true, true, true, true, true, true, true, true, true, true, true, true, true, true, true] (((((Array.replicate 20 false).setIfInBounds 0 true).setIfInBounds 1 true).setIfInBounds 2 true).setIfInBounds 3 true) 4 = true := by kernel_rfl
theorem sb_195_6_5 : softB op_195_6 #[true, true, true, true, true, true, true, true, true, true, true, true, true, true, true, true, true, true, true, true] ((((((Array.replicate 20 false).setIfInBounds 0 true).setIfInBounds 1 true).setIfInBounds 2 true).setIfInBounds 3 true).setIfInBounds 4 true) 5 = true := by kernel_rfl
theorem sb_195_6_6 : softB op_195_6 #[true, true, true, true, true, true, true, true, true, true, true, true, true, true, true, true, true, true, true, true] (((((((Array.replicate 20 false).setIfInBounds 0 true).setIfInBounds 1 true).setIfInBounds 2 true).setIfInBounds 3 true).setIfInBounds 4 true).setIfInBounds 5 true) 6 = true := by kernel_rfl
theorem sb_195_6_7 : softB op_195_6 #[true, true, true, true, true, true, true, true, true, true, true, true, true, true, true, true, true, true, true, true] ((((((((Array.replicate 20 false).setIfInBounds 0 true).setIfInBounds 1 true).setIfInBounds 2 true).setIfInBounds 3 true).setIfInBounds 4 true).setIfInBounds 5 true).setIfInBounds 6 true) 7 = true := by kernel_rfl
theorem sb_195_6_8 : softB op_195_6 #[true, true, true, true, true, true, true, true, true, true, true, true, true, true, true, true, true, true, true, true] (((((((((Array.replicate 20 false).setIfInBounds 0 true).setIfInBounds 1 true).setIfInBounds 2 true).setIfInBounds 3 true).setIfInBounds 4 true).setIfInBounds 5 true).setIfInBounds 6 true).setIfInBounds 7 true) 8 = true := by kernel_rfl
theorem sb_195_6_9 : softB op_195_6 #[true, true, true, true, true, true, true, true, true, true, true, true, true, true, true, true, true, true, true, true] ((((((((((Array.replicate 20 false).setIfInBounds 0 true).setIfInBounds 1 true).setIfInBounds 2 true).setIfInBounds 3 true).setIfInBounds 4 true).setIfInBounds 5 true).setIfInBounds 6 true).setIfInBounds 7 true).setIfInBounds 8 true) 9 = true := by kernel_rfl
theorem sb_195_6_10 : softB op_195_6 #[true, true, true, true, true, true, true, true, true, true, true, true, true, true, true, true, true, true, true, true] (((((((((((Array.replicate 20 false).setIfInBounds 0 true).setIfInBounds 1 true).setIfInBounds 2 true).setIfInBounds 3 true).setIfInBounds 4 true).setIfInBounds 5 true).setIfInBounds 6 true).setIfInBounds 7 true).setIfInBounds 8 true).setIfInBounds 9 true) 10 = true := by kernel_rfl
theorem sb_195_6_11 : softB op_195_6 #[true, true, true, true, true, true, true, true, true, true, true, true, true, true, true, true, true, true, true, true] ((((((((((((Array.replicate 20 false).setIfInBounds 0 true).setIfInBounds 1 true).setIfInBounds 2 true).setIfInBounds 3 true).setIfInBounds 4 true).setIfInBounds 5 true).setIfInBounds 6 true).setIfInBounds 7 true).setIfInBounds 8 true).setIfInBounds 9 true).setIfInBounds 10 true) 11 = true := by kernel_rfl
theorem sb_195_6_12 : softB op_195_6 #[true, true, true, true, true, true, true, true, true, true, true, true, true, true, true, true, true, true, true, true] (((((((((((((Array.replicate 20 false).setIfInBounds 0 true).setIfInBounds 1 true).setIfInBounds 2 true).setIfInBounds 3 true).setIfInBounds 4 true).setIfInBounds 5 true).setIfInBounds 6 true).setIfInBounds 7 true).setIfInBounds 8 true).setIfInBounds 9 true).setIfInBounds 10 true).setIfInBounds 11 true) 12 = true := by kernel_rfl
theorem sb_195_6_13 : softB op_195_6 #[true, true, true, true, true, true, true, true, true, true, true, true, true, true, true, true, true, true, true, true] ((((((((((((((Array.replicate 20 false).setIfInBounds 0 true).setIfInBounds 1 true).setIfInBounds 2 true).setIfInBounds 3 true).setIfInBounds 4 true).setIfInBounds 5 true).setIfInBounds 6 true).setIfInBounds 7 true).setIfInBounds 8 true).setIfInBounds 9 true).setIfInBounds 10 true).setIfInBounds 11 true).setIfInBounds 12 true) 13 = true := by kernel_rfl
theorem sb_195_6_14 : softB op_195_6 #[true, true, true, true, true, true, true, true, true, true, true, true, true, true, true, true, true, true, true, true] (((((((((((((((Array.replicate 20 false).setIfInBounds 0 true).setIfInBounds 1 true).setIfInBounds 2 true).setIfInBounds 3 true).setIfInBounds 4 true).setIfInBounds 5 true).setIfInBounds 6 true).setIfInBounds 7 true).setIfInBounds 8 true).setIfInBounds 9 true).setIfInBounds 10 true).setIfInBounds 11 true).setIfInBounds 12 true).setIfInBounds 13 true) 14 = true := by kernel_rfl
theorem sb_195_6_15 : softB op_195_6 #[true, true, true, true, true, true, true, true, true, true, true, true, true, true, true, true, true, true, true, true] ((((((((((((((((Array.replicate 20 false).setIfInBounds 0 true).setIfInBounds 1 true).setIfInBounds 2 true).setIfInBounds 3 true).setIfInBounds 4 true).setIfInBounds 5 true).setIfInBounds 6 true).setIfInBounds 7 true).setIfInBounds 8 true).setIfInBounds 9 true).setIfInBounds 10 true).setIfInBounds 11 true).setIfInBounds 12 true).setIfInBounds 13 true).setIfInBounds 14 true) 15 = true := by kernel_rfl
theorem sb_195_6_16 : softB op_195_6 #[true, true, true, true, true, true, true, true, true, true, true, true, true, true, true, true, true, true, true, true] (((((((((((((((((Array.replicate 20 false).setIfInBounds 0 true).setIfInBounds 1 true).setIfInBounds 2 true).setIfInBounds 3 true).setIfInBounds 4 true).setIfInBounds 5 true).setIfInBounds 6 true).setIfInBounds 7 true).setIfInBounds 8 true).setIfInBounds 9 true).setIfInBounds 10 true).setIfInBounds 11 true).setIfInBounds 12 true).setIfInBounds 13 true).setIfInBounds 14 true).setIfInBounds 15 true) 16 = true := by kernel_rfl
theorem sb_195_6_17 : softB op_195_6 #[true, true, true, true, true, true, true, true, true, true, true, true, true, true, true, true, true, true, true, true] ((((((((((((((((((Array.replicate 20 false).setIfInBounds 0 true).setIfInBounds 1 true).setIfInBounds 2 true).setIfInBounds 3 true).setIfInBounds 4 true).setIfInBounds 5 true).setIfInBounds 6 true).setIfInBounds 7 true).setIfInBounds 8 true).setIfInBounds 9 true).setIfInBounds 10 true).setIfInBounds 11 true).setIfInBounds 12 true).setIfInBounds 13 true).setIfInBounds 14 true).setIfInBounds 15 true).setIfInBounds 16 true) 17 = true := by kernel_rfl
theorem sb_195_6_18 : softB op_195_6 #[true, true, true, true, true, true, true, true, true, true, true, true, true, true, true, true, true, true, true, true] (((((((((((((((((((Array.replicate 20 false).setIfInBounds 0 true).setIfInBounds 1 true).setIfInBounds 2 true).setIfInBounds 3 true).setIfInBounds 4 true).setIfInBounds 5 true).setIfInBounds 6 true).setIfInBounds 7 true).setIfInBounds 8 true).setIfInBounds 9 true).setIfInBounds 10 true).setIfInBounds 11 true).setIfInBounds 12 true).setIfInBounds 13 true).setIfInBounds 14 true).setIfInBounds 15 true).setIfInBounds 16 true).setIfInBounds 17 true) 18 = true := by kernel_rfl
theorem sb_195_6_19 : softB op_195_6 #[true, true, true, true, true, true, true, true, true, true, true, true, true, true, true, true, true, true, true, true] ((((((((((((((((((((Array.replicate 20 false).setIfInBounds 0 true).setIfInBounds 1 true).setIfInBounds 2 true).setIfInBounds 3 true).setIfInBounds 4 true).setIfInBounds 5 true).setIfInBounds 6 true).setIfInBounds 7 true).setIfInBounds 8 true).setIfInBounds 9 true).setIfInBounds 10 true).setIfInBounds 11 true).setIfInBounds 12 true).setIfInBounds 13 true).setIfInBounds 14 true).setIfInBounds 15 true).setIfInBounds 16 true).setIfInBounds 17 true).setIfInBounds 18 true) 19 = true := by kernel_rfl
theorem sb_195_6_20 : hardB op_195_6 (((((((((((((((((((((Array.replicate 20 false).setIfInBounds 0 true).setIfInBounds 1 true).setIfInBounds 2 true).setIfInBounds 3 true).setIfInBounds 4 true).setIfInBounds 5 true).setIfInBounds 6 true).setIfInBounds 7 true).setIfInBounds 8 true).setIfInBounds 9 true).setIfInBounds 10 true).setIfInBounds 11 true).setIfInBounds 12 true).setIfInBounds 13 true).setIfInBounds 14 true).setIfInBounds 15 true).setIfInBounds 16 true).setIfInBounds 17 true).setIfInBounds 18 true).setIfInBounds 19 true) [] = true := by kernel_rfl
/- tree.rows -/
def m195_w1 (n : Nat) (data : (List UInt8)) (mm : Nat) : (List Line) → Int → Option (Flow ((List Line)) ((List Line) × Int)) := it2 (fun lp1 l1 c1 =>
cond (decide (c1 < (data.length : Int))) (
cond (decide ((wi ((data.length : Int) - c1)) < 3)) (
Option.bind (some ([] : List Line)) fun q1 => some (.ret q1)) (
Option.bind (ixL data c1) fun x1 =>
Option.bind (ixL data (wi (c1 + 1))) fun x2 =>
Option.bind (ixL data (wi (c1 + 2))) fun x3 =>
cond ((((decide ((x3.toNat : Int) < 1)) || (decide ((wi ((wi ((data.length : Int) - c1)) - 3)) < (x3.toNat : Int)))) || (decide ((x2.toNat : Int) < 1))) || (decide ((48 : Int) < (x2.toNat : Int)))) (
Option.bind (some ([] : List Line)) fun q2 => some (.ret q2)) (
cond ((decide (¬ ((x1.toNat : Int) = 1))) && ((decide (¬ ((bAnd .i64 (x1.toNat : Int) 1) = 0))) || (decide ((3 : Int) < (Int.fdiv (x1.toNat : Int) (2 ^ (min (Int.toNat 1) (IntKind.bits .i64)))))))) (
Option.bind (some ([] : List Line)) fun q3 => some (.ret q3)) (
Option.bind (slL data (wi (c1 + 3)) (wi ((wi (c1 + 3)) + (x3.toNat : Int)))) fun l3 =>
Option.bind (apd l1 ({ dir := (decide ((x1.toNat : Int) = 1)), mode := (Int.fdiv (x1.toNat : Int) (2 ^ (min (Int.toNat 1) (IntKind.bits .i64)))), id := (x2.toNat : Int), name := l3 } : Line)) fun l4 =>
lp1 l4 (wi (c1 + (wi (3 + (x3.toNat : Int))))))))) (
some (.nx (l1, c1)))) mm
def m195 (n : Nat) (data : (List UInt8)) : Option ((List Line)) :=
flow (m195_w1 n data n ([] : List Line) 0) some (un2 fun l2 c2 =>
some l2)
theorem t195 {n : Nat} {C : List Chunk} {rl1 : List Line} {v1 : Value} {data : (List UInt8)} (hr1 : Rd rByte C v1 data)  (hm : m195 n data = some rl1) : Trip Tryz.prog 195 #[v1] ([] ++ [C]) (fun u S' => ∃ (ev1 : Value), ∃ (eg1 : List Chunk), ev1 = u ∧ S' = [eg1] ++ [C] ∧ Own rLine ev1 rl1 eg1) := by
  refine fn_entry (args := [v1]) Tryz.func195 rfl Tryz.ntmps195 rfl (fun w0 => ?_)
  refine c_seq ?_
  refine c_region ?_
  have ho1 : Own rLine (.slice none 0 0) [] [] := Own.nil
  refine o_emp ?_
  refine o_L (y_assign rfl) rfl rfl ?_
  refine o_nil0 rfl ?_
  refine c_seq ?_
  refine c_region ?_
  have ho2 : Own rLine (.slice none 0 0) [] [] := Own.nil
  refine o_emp ?_
  refine o_L (y_assign rfl) rfl rfl ?_
  refine o_nil0 rfl ?_
  refine c_seq ?_
  refine c_region ?_
  refine o_L (y_assign rfl) rfl rfl ?_
  refine o_nil0 rfl ?_
  refine c_seq ?_
  obtain ⟨f1, F1, hF1, hj1, hF2⟩ := fl2 hm
  refine c_joinP (n := 1) (fun sh G => ∃ (l2 : List Line), ∃ (c2 : Int), ∃ (v3 : Value), ∃ (g2 : List Chunk), sh = [(3, v3), (4, .int .i64 c2)] ∧ G = [g2] ∧ F1 (l2, c2) = some rl1 ∧ Own rLine v3 l2 g2) (s_take (s_skip (s_take s_nil))) (.s .z) (fun _ _ h => h) ?_ ?_
  · skip
    refine c_block ?_
    refine c_loopP (n := 1) (fun mm sh G => ∃ (l1 : List Line), ∃ (c1 : Int), ∃ (v2 : Value), ∃ (g1 : List Chunk), sh = [(3, v2), (4, .int .i64 c1)] ∧ G = [g1] ∧ m195_w1 n data mm l1 c1 = some f1 ∧ Own rLine v2 l1 g1) n (s_take (s_skip (s_take s_nil))) (.s .z) ⟨_, _, ⟨_, _, (.slice none 0 0), _, rfl, rfl, hj1, ho2⟩, ⟨rfl, rfl, trivial⟩, _, (s_take (s_skip (s_take s_nil)))⟩ ?_
    rintro mm sh G ⟨l1, c1, v2, g1, rfl, rfl, hm, ho3⟩
    obtain ⟨mm1, rfl, hm⟩ := it2_s hm
    refine c_seq ?_
    refine c_seq ?_
    refine c_region ?_
    refine o_T (y_move rfl) rfl ?_
    refine o_T (y_move rfl) rfl ?_
    refine o_T (y_lenR hr1 Tryz.underlying81 rfl) rfl ?_
    refine o_T (y_lss rfl rfl) rfl ?_
    refine o_nil1 11 rfl rfl ?_
    refine c_cond rfl (fun h1 => ?_) (fun h1 => ?_)
    · have hm := cd_t h1 hm
      refine c_skip ?_
      refine c_block ?_
      refine c_seq ?_
      refine c_seq ?_
      refine c_region ?_
      refine o_T (y_move rfl) rfl ?_
      refine o_T (y_lenR hr1 Tryz.underlying81 rfl) rfl ?_
      refine o_T (y_move rfl) rfl ?_
      refine o_T (y_sub rfl rfl rfl) rfl ?_
      refine o_T (y_lss rfl rfl) rfl ?_
      refine o_nil1 16 rfl rfl ?_
      refine c_cond rfl (fun h2 => ?_) (fun h2 => ?_)
      · have hm := cd_t h2 hm
        refine c_seq ?_
        refine c_region ?_
        have ho5 : Own rLine (.slice none 0 0) [] [] := Own.nil
        refine o_emp ?_
        refine o_L (y_assign rfl) rfl rfl ?_
        refine o_nil0 rfl ?_
        refine c_ret ?_
        obtain ⟨q1, hq1, hm⟩ := bd hm
        have hm := fl_ret hm hF2
        have hm := hq1.trans hm
        obtain rfl := p1 hm
        refine fun aX wX heX hsX => ret1 Tryz.results195 heX rfl (s_take (s_skip (s_take s_nil))) ?_
        exact ⟨(.slice none 0 0), _, rfl, rfl, ho5⟩
      · have hm := cd_f h2 hm
        refine c_skip ?_
        refine c_seq ?_
        refine c_draw #[true, true, true, true, true, true, true, true, true, true, true, true, true, true, true, true, true, true, true, true] rfl (n := 20) rfl ?_
        refine d_T 0 rfl sb_195_6_0 rfl (y_move rfl) rfl ?_
        refine d_T 1 rfl sb_195_6_1 rfl (y_move rfl) rfl ?_
        obtain ⟨x1, hx1, hm⟩ := bd hm
        obtain ⟨b1, w1, cs1, y1, z1, vs1, hc1, ha1, hr2, hy1⟩ := hr1.ix hx1
        obtain rfl : vs1 = (enc8 x1) := hr2
        refine d_T 2 rfl sb_195_6_2 rfl (hy1 sl_81 rfl rfl rfl) rfl ?_
        refine d_ld 3 rfl sb_195_6_3 one_5 rfl (fun x hx => hx) (ms (mg hc1)) (At.getA (ha1)) rfl ?_
        refine d_cv 4 rfl sb_195_6_4 (fun x hx => hx) (y_conv Tryz.underlying5 Tryz.underlying3 rfl (wbi _)) rfl ?_
        refine d_T 5 rfl sb_195_6_5 rfl (y_move rfl) rfl ?_
        refine d_T 6 rfl sb_195_6_6 rfl (y_move rfl) rfl ?_
        refine d_T 7 rfl sb_195_6_7 rfl (y_add rfl rfl rfl) rfl ?_
        obtain ⟨x2, hx2, hm⟩ := bd hm
        obtain ⟨b2, w2, cs2, y2, z2, vs2, hc2, ha2, hr3, hy2⟩ := hr1.ix hx2
        obtain rfl : vs2 = (enc8 x2) := hr3
        refine d_T 8 rfl sb_195_6_8 rfl (hy2 sl_81 rfl rfl rfl) rfl ?_
        refine d_ld 9 rfl sb_195_6_9 one_5 rfl (fun x hx => hx) (ms (mg hc2)) (At.getA (ha2)) rfl ?_
        refine d_cv 10 rfl sb_195_6_10 (fun x hx => hx) (y_conv Tryz.underlying5 Tryz.underlying3 rfl (wbi _)) rfl ?_
        refine d_T 11 rfl sb_195_6_11 rfl (y_move rfl) rfl ?_
        refine d_T 12 rfl sb_195_6_12 rfl (y_move rfl) rfl ?_
        refine d_T 13 rfl sb_195_6_13 rfl (y_add rfl rfl rfl) rfl ?_
        obtain ⟨x3, hx3, hm⟩ := bd hm
        obtain ⟨b3, w3, cs3, y3, z3, vs3, hc3, ha3, hr4, hy3⟩ := hr1.ix hx3
        obtain rfl : vs3 = (enc8 x3) := hr4
        refine d_T 14 rfl sb_195_6_14 rfl (hy3 sl_81 rfl rfl rfl) rfl ?_
        refine d_ld 15 rfl sb_195_6_15 one_5 rfl (fun x hx => hx) (ms (mg hc3)) (At.getA (ha3)) rfl ?_
        refine d_cv 16 rfl sb_195_6_16 (fun x hx => hx) (y_conv Tryz.underlying5 Tryz.underlying3 rfl (wbi _)) rfl ?_
        refine d_L 17 rfl sb_195_6_17 rfl (y_assign rfl) rfl rfl ?_
        refine d_L 18 rfl sb_195_6_18 rfl (y_assign rfl) rfl rfl ?_
        refine d_L 19 rfl sb_195_6_19 rfl (y_assign rfl) rfl rfl ?_
        refine d_nil0 sb_195_6_20 rfl ?_
        refine c_seq ?_
        refine c_seq ?_
        refine c_joinP (n := 0) (fun sh G => sh = [(52, .bool ((((decide ((x3.toNat : Int) < 1)) || (decide ((wi ((wi ((data.length : Int) - c1)) - 3)) < (x3.toNat : Int)))) || (decide ((x2.toNat : Int) < 1))) || (decide ((48 : Int) < (x2.toNat : Int)))))] ∧ G = []) Sel.all' .z (fun _ _ h => h) ?_ ?_
        · skip
          refine c_region ?_
          refine o_T (y_move rfl) rfl ?_
          refine o_T (y_lss rfl rfl) rfl ?_
          refine o_T (y_move rfl) rfl ?_
          refine o_split 36 rfl (fun h3 => ?_) (fun h3 => ?_)
          · skip
            refine o_pass rfl rfl rfl rfl rfl ?_
            refine o_pass rfl rfl rfl rfl rfl ?_
            refine o_pass rfl rfl rfl rfl rfl ?_
            refine o_pass rfl rfl rfl rfl rfl ?_
            refine o_pass rfl rfl rfl rfl rfl ?_
            refine o_pass rfl rfl rfl rfl rfl ?_
            refine o_pass rfl rfl rfl rfl rfl ?_
            refine o_T (y_pickT rfl rfl) rfl ?_
            refine o_T (y_move rfl) rfl ?_
            refine o_pass rfl rfl rfl rfl rfl ?_
            refine o_pass rfl rfl rfl rfl rfl ?_
            refine o_T (y_pickT rfl rfl) rfl ?_
            refine o_T (y_move rfl) rfl ?_
            refine o_pass rfl rfl rfl rfl rfl ?_
            refine o_pass rfl rfl rfl rfl rfl ?_
            refine o_T (y_pickT rfl rfl) rfl ?_
            refine o_nil1 52 rfl rfl ?_
            refine ⟨_, _, ⟨rfl, rfl⟩, ⟨by first | rfl | exact gtb rfl (by simp only [h3, Bool.true_and, Bool.false_and, Bool.true_or, Bool.false_or, Bool.and_true, Bool.and_false, Bool.or_true, Bool.or_false, Bool.not_true, Bool.not_false]), trivial⟩, ⟨rfl, rfl⟩, _, (s_take (s_take s_nil))⟩
          · skip
            refine o_take rfl rfl rfl ?_
            refine o_T (y_move rfl) rfl ?_
            refine o_take rfl rfl rfl ?_
            refine o_T (y_move rfl) rfl ?_
            refine o_take rfl rfl rfl ?_
            refine o_T (y_lenR hr1 Tryz.underlying81 rfl) rfl ?_
            refine o_take rfl rfl rfl ?_
            refine o_T (y_move rfl) rfl ?_
            refine o_take rfl rfl rfl ?_
            refine o_T (y_sub rfl rfl rfl) rfl ?_
            refine o_take rfl rfl rfl ?_
            refine o_T (y_sub rfl rfl rfl) rfl ?_
            refine o_take rfl rfl rfl ?_
            refine o_T (y_gtr rfl rfl) rfl ?_
            refine o_T (y_pickF rfl rfl) rfl ?_
            refine o_T (y_move rfl) rfl ?_
            refine o_split 45 rfl (fun h4 => ?_) (fun h4 => ?_)
            · skip
              refine o_pass rfl rfl rfl rfl rfl ?_
              refine o_pass rfl rfl rfl rfl rfl ?_
              refine o_T (y_pickT rfl rfl) rfl ?_
              refine o_T (y_move rfl) rfl ?_
              refine o_pass rfl rfl rfl rfl rfl ?_
              refine o_pass rfl rfl rfl rfl rfl ?_
              refine o_T (y_pickT rfl rfl) rfl ?_
              refine o_nil1 52 rfl rfl ?_
              refine ⟨_, _, ⟨rfl, rfl⟩, ⟨by first | rfl | exact gtb rfl (by simp only [h3, h4, Bool.true_and, Bool.false_and, Bool.true_or, Bool.false_or, Bool.and_true, Bool.and_false, Bool.or_true, Bool.or_false, Bool.not_true, Bool.not_false]), trivial⟩, ⟨rfl, rfl⟩, _, (s_take (s_take s_nil))⟩
            · skip
              refine o_take rfl rfl rfl ?_
              refine o_T (y_move rfl) rfl ?_
              refine o_take rfl rfl rfl ?_
              refine o_T (y_lss rfl rfl) rfl ?_
              refine o_T (y_pickF rfl rfl) rfl ?_
              refine o_T (y_move rfl) rfl ?_
              refine o_split 49 rfl (fun h5 => ?_) (fun h5 => ?_)
              · skip
                refine o_pass rfl rfl rfl rfl rfl ?_
                refine o_pass rfl rfl rfl rfl rfl ?_
                refine o_T (y_pickT rfl rfl) rfl ?_
                refine o_nil1 52 rfl rfl ?_
                refine ⟨_, _, ⟨rfl, rfl⟩, ⟨by first | rfl | exact gtb rfl (by simp only [h3, h4, h5, Bool.true_and, Bool.false_and, Bool.true_or, Bool.false_or, Bool.and_true, Bool.and_false, Bool.or_true, Bool.or_false, Bool.not_true, Bool.not_false]), trivial⟩, ⟨rfl, rfl⟩, _, (s_take (s_take s_nil))⟩
              · skip
                refine o_take rfl rfl rfl ?_
                refine o_T (y_move rfl) rfl ?_
                refine o_take rfl rfl rfl ?_
                refine o_T (y_gtr rfl rfl) rfl ?_
                refine o_T (y_pickF rfl rfl) rfl ?_
                refine o_nil1 52 rfl rfl ?_
                refine ⟨_, _, ⟨rfl, rfl⟩, ⟨by first | rfl | exact gtb rfl (by simp only [h3, h4, h5, Bool.true_and, Bool.false_and, Bool.true_or, Bool.false_or, Bool.and_true, Bool.and_false, Bool.or_true, Bool.or_false, Bool.not_true, Bool.not_false]), trivial⟩, ⟨rfl, rfl⟩, _, (s_take (s_take s_nil))⟩
        · rintro sh G ⟨rfl, rfl⟩
          refine c_cond rfl (fun h6 => ?_) (fun h6 => ?_)
          · have hm := cd_t h6 hm
            refine c_seq ?_
            refine c_region ?_
            have ho6 : Own rLine (.slice none 0 0) [] [] := Own.nil
            refine o_emp ?_
            refine o_L (y_assign rfl) rfl rfl ?_
            refine o_nil0 rfl ?_
            refine c_ret ?_
            obtain ⟨q2, hq2, hm⟩ := bd hm
            have hm := fl_ret hm hF2
            have hm := hq2.trans hm
            obtain rfl := p1 hm
            refine fun aX wX heX hsX => ret1 Tryz.results195 heX rfl (s_take (s_skip (s_take s_nil))) ?_
            exact ⟨(.slice none 0 0), _, rfl, rfl, ho6⟩
          · have hm := cd_f h6 hm
            refine c_skip ?_
            refine c_seq ?_
            refine c_seq ?_
            refine c_joinP (n := 0) (fun sh G => sh = [(64, .bool ((decide (¬ ((x1.toNat : Int) = 1))) && ((decide (¬ ((bAnd .i64 (x1.toNat : Int) 1) = 0))) || (decide ((3 : Int) < (Int.fdiv (x1.toNat : Int) (2 ^ (min (Int.toNat 1) (IntKind.bits .i64)))))))))] ∧ G = []) Sel.all' .z (fun _ _ h => h) ?_ ?_
            · skip
              refine c_region ?_
              refine o_T (y_move rfl) rfl ?_
              refine o_T (y_neq rfl rfl) rfl ?_
              refine o_T (y_move rfl) rfl ?_
              refine o_split 55 rfl (fun h7 => ?_) (fun h7 => ?_)
              · skip
                refine o_take rfl rfl rfl ?_
                refine o_T (y_move rfl) rfl ?_
                refine o_take rfl rfl rfl ?_
                refine o_T (y_and rfl rfl rfl) rfl ?_
                refine o_take rfl rfl rfl ?_
                refine o_T (y_neq rfl rfl) rfl ?_
                refine o_take rfl rfl rfl ?_
                refine o_T (y_move rfl) rfl ?_
                refine o_split 59 rfl (fun h8 => ?_) (fun h8 => ?_)
                · skip
                  refine o_pass rfl rfl rfl rfl rfl ?_
                  refine o_pass rfl rfl rfl rfl rfl ?_
                  refine o_pass rfl rfl rfl rfl rfl ?_
                  refine o_take rfl rfl rfl ?_
                  refine o_T (y_pickT rfl rfl) rfl ?_
                  refine o_T (y_pickT rfl rfl) rfl ?_
                  refine o_nil1 64 rfl rfl ?_
                  refine ⟨_, _, ⟨rfl, rfl⟩, ⟨by first | rfl | exact gtb rfl (by simp only [h7, h8, Bool.true_and, Bool.false_and, Bool.true_or, Bool.false_or, Bool.and_true, Bool.and_false, Bool.or_true, Bool.or_false, Bool.not_true, Bool.not_false]), trivial⟩, ⟨rfl, rfl⟩, _, (s_take (s_take s_nil))⟩
                · skip
                  refine o_take rfl rfl rfl ?_
                  refine o_T (y_move rfl) rfl ?_
                  refine o_take rfl rfl rfl ?_
                  refine o_T (y_shr rfl rfl (by decide) rfl) rfl ?_
                  refine o_take rfl rfl rfl ?_
                  refine o_T (y_gtr rfl rfl) rfl ?_
                  refine o_take rfl rfl rfl ?_
                  refine o_T (y_pickF rfl rfl) rfl ?_
                  refine o_T (y_pickT rfl rfl) rfl ?_
                  refine o_nil1 64 rfl rfl ?_
                  refine ⟨_, _, ⟨rfl, rfl⟩, ⟨by first | rfl | exact gtb rfl (by simp only [h7, h8, Bool.true_and, Bool.false_and, Bool.true_or, Bool.false_or, Bool.and_true, Bool.and_false, Bool.or_true, Bool.or_false, Bool.not_true, Bool.not_false]), trivial⟩, ⟨rfl, rfl⟩, _, (s_take (s_take s_nil))⟩
              · skip
                refine o_pass rfl rfl rfl rfl rfl ?_
                refine o_pass rfl rfl rfl rfl rfl ?_
                refine o_pass rfl rfl rfl rfl rfl ?_
                refine o_pass rfl rfl rfl rfl rfl ?_
                refine o_passU rfl rfl rfl rfl ?_
                refine o_passU rfl rfl rfl rfl ?_
                refine o_passU rfl rfl rfl rfl ?_
                refine o_pass rfl rfl rfl rfl rfl ?_
                refine o_T (y_pickF rfl rfl) rfl ?_
                refine o_nil1 64 rfl rfl ?_
                refine ⟨_, _, ⟨rfl, rfl⟩, ⟨by first | rfl | exact gtb rfl (by simp only [h7, Bool.true_and, Bool.false_and, Bool.true_or, Bool.false_or, Bool.and_true, Bool.and_false, Bool.or_true, Bool.or_false, Bool.not_true, Bool.not_false]), trivial⟩, ⟨rfl, rfl⟩, _, (s_take (s_take s_nil))⟩
            · rintro sh G ⟨rfl, rfl⟩
              refine c_cond rfl (fun h9 => ?_) (fun h9 => ?_)
              · have hm := cd_t h9 hm
                refine c_seq ?_
                refine c_region ?_
                have ho7 : Own rLine (.slice none 0 0) [] [] := Own.nil
                refine o_emp ?_
                refine o_L (y_assign rfl) rfl rfl ?_
                refine o_nil0 rfl ?_
                refine c_ret ?_
                obtain ⟨q3, hq3, hm⟩ := bd hm
                have hm := fl_ret hm hF2
                have hm := hq3.trans hm
                obtain rfl := p1 hm
                refine fun aX wX heX hsX => ret1 Tryz.results195 heX rfl (s_take (s_skip (s_take s_nil))) ?_
                exact ⟨(.slice none 0 0), _, rfl, rfl, ho7⟩
              · have hm := cd_f h9 hm
                refine c_skip ?_
                refine c_seq ?_
                refine c_region ?_
                refine o_T (y_move rfl) rfl ?_
                refine o_T (y_move rfl) rfl ?_
                refine o_T (y_eql rfl rfl) rfl ?_
                refine o_T (y_move rfl) rfl ?_
                refine o_T (y_shr rfl rfl (by decide) rfl) rfl ?_
                refine o_T (y_move rfl) rfl ?_
                refine o_T (y_move rfl) rfl ?_
                refine o_T (y_move rfl) rfl ?_
                refine o_T (y_add rfl rfl rfl) rfl ?_
                refine o_T (y_move rfl) rfl ?_
                refine o_T (y_add rfl rfl rfl) rfl ?_
                refine o_T (y_move rfl) rfl ?_
                refine o_T (y_add rfl rfl rfl) rfl ?_
                obtain ⟨l3, hx4, hm⟩ := bd hm
                obtain ⟨v4, hr5, hy4⟩ := hr1.sl hx4
                refine o_T (hy4 sl_81 rfl rfl (biS rfl) (biS rfl)) rfl ?_
                refine o_b2s Tryz.underlying81 Tryz.underlying5 Tryz.underlying9 rfl hr5 (fun _ hz => (ms (mg hz))) rfl ?_
                refine o_T (y_build st_213 rfl (fbU rfl Line.u_dir rfl rfl (fbU rfl Line.u_mode rfl rfl (fbU rfl Line.u_id rfl rfl (fbU rfl Line.u_name rfl rfl fbU0))))) rfl ?_
                refine o_bs1 sz_209 rfl rfl rfl rfl rfl rfl (fun b4 => ?_)
                obtain ⟨l4, hx5, hm⟩ := bd hm
                refine o_appR (R := rLine) (a := ({ dir := (decide ((x1.toNat : Int) = 1)), mode := (Int.fdiv (x1.toNat : Int) (2 ^ (min (Int.toNat 1) (IntKind.bits .i64)))), id := (x2.toNat : Int), name := l3 } : Line)) sz_209 rfl rfl rfl rfl ho3 rfl hx5 (Sel.e (s_get (ks k0) (s_take s_nil))) rfl (fun v5 g3 ho8 => ?_)
                refine o_L (y_assign rfl) rfl rfl ?_
                refine o_nil0 rfl ?_
                refine c_region ?_
                refine o_T (y_move rfl) rfl ?_
                refine o_T (y_move rfl) rfl ?_
                refine o_T (y_add rfl rfl rfl) rfl ?_
                refine o_T (y_add rfl rfl rfl) rfl ?_
                refine o_L (y_assign rfl) rfl rfl ?_
                refine o_nil0 rfl ?_
                exact ⟨mm1, Nat.lt_succ_self _, _, _, ⟨_, _, v5, _, rfl, rfl, hm, ho8⟩, ⟨rfl, rfl, trivial⟩, ⟨rfl, rfl⟩, _, (s_take (s_take s_nil))⟩
    · have hm := cd_f h1 hm
      refine c_exit ?_
      have hm := fl_nx hm hF2
      exact ⟨_, _, ⟨_, _, v2, _, rfl, rfl, hm, ho3⟩, ⟨rfl, rfl, trivial⟩, ⟨rfl, rfl⟩, _, (s_take (s_take s_nil))⟩
  · rintro sh G ⟨l2, c2, v3, g2, rfl, rfl, hm, ho4⟩
    subst hF1
    refine c_seq ?_
    refine c_region ?_
    refine o_T (y_move rfl) rfl ?_
    refine o_L (y_assign rfl) rfl rfl ?_
    refine o_nil0 rfl ?_
    refine c_ret ?_
    obtain rfl := p1 hm
    refine fun aX wX heX hsX => ret1 Tryz.results195 heX rfl (s_take (s_take s_nil)) ?_
    exact ⟨v3, _, rfl, rfl, ho4⟩
end Go.Proofs.Qxb6500350aGreat
