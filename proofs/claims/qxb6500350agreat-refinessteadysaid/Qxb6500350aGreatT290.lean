/- MADE BY PROGRAM (tools350/mir.py): mirror and walk. -/
import Derived.Test.Qxb6500350aGreatF2
import Derived.Test.Qxb6500350aGreatT316
set_option linter.unusedVariables false
set_option linter.unusedSimpArgs false
set_option maxRecDepth 20000
set_option maxHeartbeats 4000000
namespace Go.Proofs.Qxb6500350aGreat
open Go.Eng

def op_290_10 : Array Go.Oper := #[{ dst := some 72, op := Go.Op.move (Go.Operand.tmp 0), type := 32, pos := "pool.go:38", after := #[], guard := none }, { dst := some 73, op := Go.Op.move (Go.Operand.tmp 0), type := 32, pos := "pool.go:38", after := #[], guard := none }, { dst := some 74, op := Go.Op.nilCheck (Go.Operand.tmp 73), type := 0, pos := "pool.go:38", after := #[{ on := 1, ground := Go.Ground.data }], guard := none }, { dst := some 75, op := Go.Op.fieldAddr 187 (Go.Operand.tmp 74) 3, type := 0, pos := "pool.go:38", after := #[{ on := 2, ground := Go.Ground.data }], guard := none }, { dst := some 76, op := Go.Op.load 65 (Go.Operand.tmp 75), type := 65, pos := "pool.go:38", after := #[{ on := 3, ground := Go.Ground.data }], guard := none }, { dst := some 77, op := Go.Op.move (Go.Operand.tmp 0), type := 32, pos := "pool.go:38", after := #[], guard := none }, { dst := some 78, op := Go.Op.move (Go.Operand.tmp 6), type := 3, pos := "pool.go:38", after := #[], guard := none }, { dst := some 79, op := Go.Op.nilCheck (Go.Operand.tmp 77), type := 0, pos := "pool.go:38", after := #[{ on := 5, ground := Go.Ground.data }], guard := none }, { dst := some 80, op := Go.Op.fieldAddr 187 (Go.Operand.tmp 79) 0, type := 0, pos := "pool.go:38", after := #[{ on := 7, ground := Go.Ground.data }], guard := none }, { dst := some 81, op := Go.Op.indexAddr 122 (Go.Operand.tmp 80) (Go.Operand.tmp 78), type := 0, pos := "pool.go:38", after := #[{ on := 8, ground := Go.Ground.data }, { on := 6, ground := Go.Ground.data }], guard := none }, { dst := some 82, op := Go.Op.load 3 (Go.Operand.tmp 81), type := 3, pos := "pool.go:38", after := #[{ on := 9, ground := Go.Ground.data }], guard := none }, { dst := some 83, op := Go.Op.buildSlice 65 1 #[(0, Go.Operand.tmp 82)], type := 65, pos := "pool.go:38", after := #[{ on := 10, ground := Go.Ground.data }], guard := none }, { dst := some 84, op := Go.Op.call { callee := Go.Callee.builtin Go.Builtin.append, args := #[Go.Operand.tmp 76, Go.Operand.tmp 83], argTypes := #[65, 65] }, type := 65, pos := "pool.go:38", after := #[{ on := 4, ground := Go.Ground.data }, { on := 11, ground := Go.Ground.data }], guard := none }, { dst := some 85, op := Go.Op.nilCheck (Go.Operand.tmp 72), type := 0, pos := "pool.go:38", after := #[{ on := 0, ground := Go.Ground.data }, { on := 0, ground := Go.Ground.phase }, { on := 1, ground := Go.Ground.phase }, { on := 2, ground := Go.Ground.phase }, { on := 3, ground := Go.Ground.phase }, { on := 4, ground := Go.Ground.phase }, { on := 5, ground := Go.Ground.phase }, { on := 6, ground := Go.Ground.phase }, { on := 7, ground := Go.Ground.phase }, { on := 8, ground := Go.Ground.phase }, { on := 9, ground := Go.Ground.phase }, { on := 10, ground := Go.Ground.phase }, { on := 11, ground := Go.Ground.phase }, { on := 12, ground := Go.Ground.phase }], guard := none }, { dst := some 86, op := Go.Op.fieldAddr 187 (Go.Operand.tmp 85) 3, type := 0, pos := "pool.go:38", after := #[{ on := 13, ground := Go.Ground.data }, { on := 0, ground := Go.Ground.phase }, { on := 1, ground := Go.Ground.phase }, { on := 2, ground := Go.Ground.phase }, { on := 3, ground := Go.Ground.phase }, { on := 4, ground := Go.Ground.phase }, { on := 5, ground := Go.Ground.phase }, { on := 6, ground := Go.Ground.phase }, { on := 7, ground := Go.Ground.phase }, { on := 8, ground := Go.Ground.phase }, { on := 9, ground := Go.Ground.phase }, { on := 10, ground := Go.Ground.phase }, { on := 11, ground := Go.Ground.phase }, { on := 12, ground := Go.Ground.phase }], guard := none }, { dst := none, op := Go.Op.store 65 (Go.Operand.tmp 86) (Go.Operand.tmp 84), type := 0, pos := "pool.go:38", after := #[{ on := 14, ground := Go.Ground.data }, { on := 12, ground := Go.Ground.data }, { on := 12, ground := Go.Ground.chain }, { on := 0, ground := Go.Ground.phase }, { on := 1, ground := Go.Ground.phase }, { on := 2, ground := Go.Ground.phase }, { on := 3, ground := Go.Ground.phase }, { on := 4, ground := Go.Ground.phase }, { on := 5, ground := Go.Ground.phase }, { on := 6, ground := Go.Ground.phase }, { on := 7, ground := Go.Ground.phase }, { on := 8, ground := Go.Ground.phase }, { on := 9, ground := Go.Ground.phase }, { on := 10, ground := Go.Ground.phase }, { on := 11, ground := Go.Ground.phase }, { on := 12, ground := Go.Ground.phase }], guard := none }]
def op_290_11 : Array Go.Oper := #[{ dst := some 87, op := Go.Op.move (Go.Operand.tmp 0), type := 32, pos := "pool.go:39", after := #[], guard := none }, { dst := some 88, op := Go.Op.move (Go.Operand.tmp 6), type := 3, pos := "pool.go:39", after := #[], guard := none }, { dst := some 89, op := Go.Op.move (Go.Operand.tmp 0), type := 32, pos := "pool.go:39", after := #[], guard := none }, { dst := some 90, op := Go.Op.nilCheck (Go.Operand.tmp 89), type := 0, pos := "pool.go:39", after := #[{ on := 2, ground := Go.Ground.data }], guard := none }, { dst := some 91, op := Go.Op.fieldAddr 187 (Go.Operand.tmp 90) 1, type := 0, pos := "pool.go:39", after := #[{ on := 3, ground := Go.Ground.data }], guard := none }, { dst := some 92, op := Go.Op.load 185 (Go.Operand.tmp 91), type := 185, pos := "pool.go:39", after := #[{ on := 4, ground := Go.Ground.data }], guard := none }, { dst := some 93, op := Go.Op.call { callee := Go.Callee.builtin Go.Builtin.len, args := #[Go.Operand.tmp 92], argTypes := #[185] }, type := 3, pos := "pool.go:39", after := #[{ on := 5, ground := Go.Ground.data }], guard := none }, { dst := some 94, op := Go.Op.nilCheck (Go.Operand.tmp 87), type := 0, pos := "pool.go:39", after := #[{ on := 0, ground := Go.Ground.data }], guard := none }, { dst := some 95, op := Go.Op.fieldAddr 187 (Go.Operand.tmp 94) 0, type := 0, pos := "pool.go:39", after := #[{ on := 7, ground := Go.Ground.data }], guard := none }, { dst := some 96, op := Go.Op.indexAddr 122 (Go.Operand.tmp 95) (Go.Operand.tmp 88), type := 0, pos := "pool.go:39", after := #[{ on := 8, ground := Go.Ground.data }, { on := 1, ground := Go.Ground.data }, { on := 0, ground := Go.Ground.phase }, { on := 1, ground := Go.Ground.phase }, { on := 2, ground := Go.Ground.phase }, { on := 3, ground := Go.Ground.phase }, { on := 4, ground := Go.Ground.phase }, { on := 5, ground := Go.Ground.phase }, { on := 6, ground := Go.Ground.phase }], guard := none }, { dst := none, op := Go.Op.store 3 (Go.Operand.tmp 96) (Go.Operand.tmp 93), type := 0, pos := "pool.go:39", after := #[{ on := 9, ground := Go.Ground.data }, { on := 6, ground := Go.Ground.data }, { on := 0, ground := Go.Ground.phase }, { on := 1, ground := Go.Ground.phase }, { on := 2, ground := Go.Ground.phase }, { on := 3, ground := Go.Ground.phase }, { on := 4, ground := Go.Ground.phase }, { on := 5, ground := Go.Ground.phase }, { on := 6, ground := Go.Ground.phase }], guard := none }]
theorem sb_290_10_0 : softB op_290_10 #[true, true, true, true, true, true, true, true, true, true, true, true, false, true, true, false] (Array.replicate 16 false) 0 = true := by kernel_rfl
theorem sb_290_10_1 : softB op_290_10 #[true, true, true, true, true, true, true, true, true, true, true, true, false, true, true, false] ((Array.replicate 16 false).setIfInBounds 0 true) 1 = true := by kernel_rfl
theorem sb_290_10_2 : softB op_290_10 #[true, true, true, true, true, true, true, true, true, true, true, true, false, true, true, false] (((Array.replicate 16 false).setIfInBounds 0 true).setIfInBounds 1 true) 2 = true := by kernel_rfl
theorem sb_290_10_3 : softB op_290_10 #[true, true, true, true, true, true, true, true, true, true, true, true, false, true, true, false] ((((Array.replicate 16 false).setIfInBounds 0 true).setIfInBounds 1 true).setIfInBounds 2 true) 3 = true := by kernel_rfl
theorem sb_290_10_4 : softB op_290_10 #[true, true, true, true, true, true, true, true, true, true, true, true, false, true, true, false] (((((Array.replicate 16 false).setIfInBounds 0 true).setIfInBounds 1 true).setIfInBounds 2 true).setIfInBounds 3 true) 4 = true := by kernel_rfl
theorem sb_290_10_5 : softB op_290_10 #[true, true, true, true, true, true, true, true, true, true, true, true, false, true, true, false] ((((((Array.replicate 16 false).setIfInBounds 0 true).setIfInBounds 1 true).setIfInBounds 2 true).setIfInBounds 3 true).setIfInBounds 4 true) 5 = true := by kernel_rfl
theorem sb_290_10_6 : softB op_290_10 #[true, true, true, true, true, true, true, true, true, true, true, true, false, true, true, false] (((((((Array.replicate 16 false).setIfInBounds 0 true).setIfInBounds 1 true).setIfInBounds 2 true).setIfInBounds 3 true).setIfInBounds 4 true).setIfInBounds 5 true) 6 = true := by kernel_rfl
theorem sb_290_10_7 : softB op_290_10 #[true, true, true, true, true, true, true, true, true, true, true, true, false, true, true, false] ((((((((Array.replicate 16 false).setIfInBounds 0 true).setIfInBounds 1 true).setIfInBounds 2 true).setIfInBounds 3 true).setIfInBounds 4 true).setIfInBounds 5 true).setIfInBounds 6 true) 7 = true := by kernel_rfl
theorem sb_290_10_8 : softB op_290_10 #[true, true, true, true, true, true, true, true, true, true, true, true, false, true, true, false] (((((((((Array.replicate 16 false).setIfInBounds 0 true).setIfInBounds 1 true).setIfInBounds 2 true).setIfInBounds 3 true).setIfInBounds 4 true).setIfInBounds 5 true).setIfInBounds 6 true).setIfInBounds 7 true) 8 = true := by kernel_rfl
theorem sb_290_10_9 : softB op_290_10 #[true, true, true, true, true, true, true, true, true, true, true, true, false, true, true, false] ((((((((((Array.replicate 16 false).setIfInBounds 0 true).setIfInBounds 1 true).setIfInBounds 2 true).setIfInBounds 3 true).setIfInBounds 4 true).setIfInBounds 5 true).setIfInBounds 6 true).setIfInBounds 7 true).setIfInBounds 8 true) 9 = true := by kernel_rfl
theorem sb_290_10_10 : softB op_290_10 #[true, true, true, true, true, true, true, true, true, true, true, true, false, true, true, false] (((((((((((Array.replicate 16 false).setIfInBounds 0 true).setIfInBounds 1 true).setIfInBounds 2 true).setIfInBounds 3 true).setIfInBounds 4 true).setIfInBounds 5 true).setIfInBounds 6 true).setIfInBounds 7 true).setIfInBounds 8 true).setIfInBounds 9 true) 10 = true := by kernel_rfl
theorem sb_290_10_11 : hardB op_290_10 ((((((((((((Array.replicate 16 false).setIfInBounds 0 true).setIfInBounds 1 true).setIfInBounds 2 true).setIfInBounds 3 true).setIfInBounds 4 true).setIfInBounds 5 true).setIfInBounds 6 true).setIfInBounds 7 true).setIfInBounds 8 true).setIfInBounds 9 true).setIfInBounds 10 true) [11] = true := by kernel_rfl
theorem sb_290_10_12 : hardB op_290_10 (((((((((((((Array.replicate 16 false).setIfInBounds 0 true).setIfInBounds 1 true).setIfInBounds 2 true).setIfInBounds 3 true).setIfInBounds 4 true).setIfInBounds 5 true).setIfInBounds 6 true).setIfInBounds 7 true).setIfInBounds 8 true).setIfInBounds 9 true).setIfInBounds 10 true).setIfInBounds 11 true) [12] = true := by kernel_rfl
theorem sb_290_10_13 : softB op_290_10 #[true, true, true, true, true, true, true, true, true, true, true, true, false, true, true, false] ((((((((((((((Array.replicate 16 false).setIfInBounds 0 true).setIfInBounds 1 true).setIfInBounds 2 true).setIfInBounds 3 true).setIfInBounds 4 true).setIfInBounds 5 true).setIfInBounds 6 true).setIfInBounds 7 true).setIfInBounds 8 true).setIfInBounds 9 true).setIfInBounds 10 true).setIfInBounds 11 true).setIfInBounds 12 true) 13 = true := by kernel_rfl
theorem sb_290_10_14 : softB op_290_10 #[true, true, true, true, true, true, true, true, true, true, true, true, false, true, true, false] (((((((((((((((Array.replicate 16 false).setIfInBounds 0 true).setIfInBounds 1 true).setIfInBounds 2 true).setIfInBounds 3 true).setIfInBounds 4 true).setIfInBounds 5 true).setIfInBounds 6 true).setIfInBounds 7 true).setIfInBounds 8 true).setIfInBounds 9 true).setIfInBounds 10 true).setIfInBounds 11 true).setIfInBounds 12 true).setIfInBounds 13 true) 14 = true := by kernel_rfl
theorem sb_290_10_15 : hardB op_290_10 ((((((((((((((((Array.replicate 16 false).setIfInBounds 0 true).setIfInBounds 1 true).setIfInBounds 2 true).setIfInBounds 3 true).setIfInBounds 4 true).setIfInBounds 5 true).setIfInBounds 6 true).setIfInBounds 7 true).setIfInBounds 8 true).setIfInBounds 9 true).setIfInBounds 10 true).setIfInBounds 11 true).setIfInBounds 12 true).setIfInBounds 13 true).setIfInBounds 14 true) [15] = true := by kernel_rfl
theorem sb_290_10_16 : hardB op_290_10 (((((((((((((((((Array.replicate 16 false).setIfInBounds 0 true).setIfInBounds 1 true).setIfInBounds 2 true).setIfInBounds 3 true).setIfInBounds 4 true).setIfInBounds 5 true).setIfInBounds 6 true).setIfInBounds 7 true).setIfInBounds 8 true).setIfInBounds 9 true).setIfInBounds 10 true).setIfInBounds 11 true).setIfInBounds 12 true).setIfInBounds 13 true).setIfInBounds 14 true).setIfInBounds 15 true) [] = true := by kernel_rfl
theorem sb_290_11_0 : softB op_290_11 #[true, true, true, true, true, true, true, true, true, true, false] (Array.replicate 11 false) 0 = true := by kernel_rfl
theorem sb_290_11_1 : softB op_290_11 #[true, true, true, true, true, true, true, true, true, true, false] ((Array.replicate 11 false).setIfInBounds 0 true) 1 = true := by kernel_rfl
theorem sb_290_11_2 : softB op_290_11 #[true, true, true, true, true, true, true, true, true, true, false] (((Array.replicate 11 false).setIfInBounds 0 true).setIfInBounds 1 true) 2 = true := by kernel_rfl
theorem sb_290_11_3 : softB op_290_11 #[true, true, true, true, true, true, true, true, true, true, false] ((((Array.replicate 11 false).setIfInBounds 0 true).setIfInBounds 1 true).setIfInBounds 2 true) 3 = true := by kernel_rfl
theorem sb_290_11_4 : softB op_290_11 #[true, true, true, true, true, true, true, true, true, true, false] (((((Array.replicate 11 false).setIfInBounds 0 true).setIfInBounds 1 true).setIfInBounds 2 true).setIfInBounds 3 true) 4 = true := by kernel_rfl
theorem sb_290_11_5 : softB op_290_11 #[true, true, true, true, true, true, true, true, true, true, false] ((((((Array.replicate 11 false).setIfInBounds 0 true).setIfInBounds 1 true).setIfInBounds 2 true).setIfInBounds 3 true).setIfInBounds 4 true) 5 = true := by kernel_rfl
theorem sb_290_11_6 : softB op_290_11 #[true, true, true, true, true, true, true, true, true, true, false] (((((((Array.replicate 11 false).setIfInBounds 0 true).setIfInBounds 1 true).setIfInBounds 2 true).setIfInBounds 3 true).setIfInBounds 4 true).setIfInBounds 5 true) 6 = true := by kernel_rfl
theorem sb_290_11_7 : softB op_290_11 #[true, true, true, true, true, true, true, true, true, true, false] ((((((((Array.replicate 11 false).setIfInBounds 0 true).setIfInBounds 1 true).setIfInBounds 2 true).setIfInBounds 3 true).setIfInBounds 4 true).setIfInBounds 5 true).setIfInBounds 6 true) 7 = true := by kernel_rfl
theorem sb_290_11_8 : softB op_290_11 #[true, true, true, true, true, true, true, true, true, true, false] (((((((((Array.replicate 11 false).setIfInBounds 0 true).setIfInBounds 1 true).setIfInBounds 2 true).setIfInBounds 3 true).setIfInBounds 4 true).setIfInBounds 5 true).setIfInBounds 6 true).setIfInBounds 7 true) 8 = true := by kernel_rfl
theorem sb_290_11_9 : softB op_290_11 #[true, true, true, true, true, true, true, true, true, true, false] ((((((((((Array.replicate 11 false).setIfInBounds 0 true).setIfInBounds 1 true).setIfInBounds 2 true).setIfInBounds 3 true).setIfInBounds 4 true).setIfInBounds 5 true).setIfInBounds 6 true).setIfInBounds 7 true).setIfInBounds 8 true) 9 = true := by kernel_rfl
theorem sb_290_11_10 : hardB op_290_11 (((((((((((Array.replicate 11 false).setIfInBounds 0 true).setIfInBounds 1 true).setIfInBounds 2 true).setIfInBounds 3 true).setIfInBounds 4 true).setIfInBounds 5 true).setIfInBounds 6 true).setIfInBounds 7 true).setIfInBounds 8 true).setIfInBounds 9 true) [10] = true := by kernel_rfl
theorem sb_290_11_11 : hardB op_290_11 ((((((((((((Array.replicate 11 false).setIfInBounds 0 true).setIfInBounds 1 true).setIfInBounds 2 true).setIfInBounds 3 true).setIfInBounds 4 true).setIfInBounds 5 true).setIfInBounds 6 true).setIfInBounds 7 true).setIfInBounds 8 true).setIfInBounds 9 true).setIfInBounds 10 true) [] = true := by kernel_rfl
/- (*diff.Engine).intern -/
def m290_w1 (n : Nat) (e : Engine) (s_ : Str) (c1 : Int) (mm : Nat) : Int → Option (Flow (Int × Engine) (Int)) := it1 (fun lp1 c2 =>
cond (decide ((0 : Int) < c2)) (
ob1 (Option.bind (ixL e.sum (wi (c2 - 1))) fun x1 =>
cond (decide (x1 = c1)) (Option.bind (ixL e.line_ (wi (c2 - 1))) fun x2 =>
some ((decide (x2 = s_)))) (some (false))) fun c4 =>
cond c4 (
Option.bind (some ((wi (c2 - 1)), e)) fun q1 => some (.ret q1)) (
Option.bind (ixL e.nxt (wi (c2 - 1))) fun x3 =>
lp1 x3)) (
some (.nx c2))) mm
def m290 (n : Nat) (e : Engine) (s_ : Str) : Option (Int × Engine) :=
ob1 (m316 n s_) fun c1 =>
Option.bind (ckA (bAnd .i64 c1 7) 8) fun _ =>
flow (m290_w1 n e s_ c1 n (e.head (bAnd .i64 c1 7))) some (un1 fun c3 =>
Option.bind (apd e.line_ s_) fun l1 =>
nm ({ e with line_ := l1 } : Engine) fun z4 =>
Option.bind (apd z4.sum c1) fun l2 =>
nm ({ z4 with sum := l2 } : Engine) fun z5 =>
Option.bind (ckA (bAnd .i64 c1 7) 8) fun _ =>
Option.bind (apd z5.nxt (z5.head (bAnd .i64 c1 7))) fun l3 =>
nm ({ z5 with nxt := l3 } : Engine) fun z6 =>
Option.bind (ckA (bAnd .i64 c1 7) 8) fun _ =>
nm ({ z6 with head := (upI z6.head (bAnd .i64 c1 7) (z6.line_.length : Int)) } : Engine) fun z7 =>
some ((wi ((z7.line_.length : Int) - 1)), z7))
theorem t290 {n : Nat} {C : List Chunk} {rc1 : Int} {rz1 : Engine} {b1 : Nat} {e : Engine} {v1 : Value} {g1 : List Chunk} {v2 : Value} {g2 : List Chunk} {v3 : Value} {g3 : List Chunk} {s_ : Str} (ho1 : Own rStr v1 e.line_ g1) (ho2 : Own rInt v2 e.sum g2) (ho3 : Own rInt v3 e.nxt g3)  (hm : m290 n e s_ = some (rc1, rz1)) : Trip Tryz.prog 290 #[.pointer (some ⟨b1, 0, none⟩), .string ⟨(s_ : Str).toArray⟩] ([[(b1, .cells (Engine.enc (v1) (v2) (v3) e).toArray 187 (0, 0))], g1, g2, g3] ++ [C]) (fun u S' => ∃ (ev1 : Value), ∃ (eg1 : List Chunk), ∃ (ev2 : Value), ∃ (eg2 : List Chunk), ∃ (ev3 : Value), ∃ (eg3 : List Chunk), .int .i64 rc1 = u ∧ S' = [[(b1, .cells (Engine.enc (ev1) (ev2) (ev3) rz1).toArray 187 (0, 0))], eg1, eg2, eg3] ++ [C] ∧ Own rStr ev1 rz1.line_ eg1 ∧ Own rInt ev2 rz1.sum eg2 ∧ Own rInt ev3 rz1.nxt eg3) := by
  refine fn_entry (args := [.pointer (some ⟨b1, 0, none⟩), .string ⟨(s_ : Str).toArray⟩]) Tryz.func290 rfl Tryz.ntmps290 rfl (fun w0 => ?_)
  refine c_seq ?_
  refine c_region ?_
  refine o_L (y_assign rfl) rfl rfl ?_
  refine o_nil0 rfl ?_
  refine c_seq ?_
  refine c_region ?_
  refine o_T (y_move rfl) rfl ?_
  obtain ⟨c1, hx1, hm⟩ := bd1 hm
  refine o_callC en_316 rfl s_nil (t316 hx1) rfl (fun u1 S1 hR1 => ?_)
  obtain ⟨rfl, rfl⟩ := hR1
  refine o_rest ?_
  refine o_L (y_assign rfl) rfl rfl ?_
  refine o_nil0 rfl ?_
  refine c_seq ?_
  refine c_region ?_
  refine o_T (y_move rfl) rfl ?_
  refine o_T (y_and rfl rfl rfl) rfl ?_
  refine o_L (y_assign rfl) rfl rfl ?_
  refine o_nil0 rfl ?_
  refine c_seq ?_
  refine c_seq ?_
  refine c_region ?_
  refine o_T (y_move rfl) rfl ?_
  refine o_T (y_move rfl) rfl ?_
  refine o_T (y_nilck rfl) rfl ?_
  refine o_T (y_fa fl_187_0 rfl) rfl ?_
  obtain ⟨_, hx2, hm⟩ := bd hm
  have hx2 := ckA_some hx2
  refine o_T (y_ia ar_122 rfl rfl hx2.1 hx2.2) rfl ?_
  refine o_ld one_3 rfl m0 (At.got ((At.refl.comp Engine.a_head).comp (encN_a encI_len _ _ hx2.1 _ hx2.2))) rfl ?_
  refine o_L (y_assign rfl) rfl rfl ?_
  refine o_nil0 rfl ?_
  obtain ⟨f1, F1, hF1, hj1, hF2⟩ := fl2 hm
  refine c_joinP (n := 0) (fun sh G => ∃ (c3 : Int), sh = [(7, .int .i64 c3)] ∧ G = [] ∧ F1 c3 = some (rc1, rz1)) (s_take (s_take (s_take (s_take (s_take s_nil))))) .z (fun _ _ h => h) ?_ ?_
  · skip
    refine c_block ?_
    refine c_loopP (n := 0) (fun mm sh G => ∃ (c2 : Int), sh = [(7, .int .i64 c2)] ∧ G = [] ∧ m290_w1 n e s_ c1 mm c2 = some f1) n (s_take (s_take (s_take (s_take (s_take s_nil))))) .z ⟨_, _, ⟨_, rfl, rfl, hj1⟩, ⟨rfl, trivial⟩, _, (s_take (s_take (s_take (s_take (s_take s_nil)))))⟩ ?_
    rintro mm sh G ⟨c2, rfl, rfl, hm⟩
    obtain ⟨mm1, rfl, hm⟩ := it1_s hm
    refine c_seq ?_
    refine c_seq ?_
    refine c_region ?_
    refine o_T (y_move rfl) rfl ?_
    refine o_T (y_gtr rfl rfl) rfl ?_
    refine o_nil1 19 rfl rfl ?_
    refine c_cond rfl (fun h1 => ?_) (fun h1 => ?_)
    · have hm := cd_t h1 hm
      refine c_skip ?_
      refine c_seq ?_
      refine c_block ?_
      refine c_seq ?_
      obtain ⟨c4, hj2, hm⟩ := bd1 hm
      refine c_joinP (n := 0) (fun sh G => sh = [(49, .bool c4)] ∧ G = []) Sel.all' .z (fun _ _ h => h) ?_ ?_
      · have hm := hj2
        refine c_region ?_
        refine o_T (y_move rfl) rfl ?_
        refine o_T (y_nilck rfl) rfl ?_
        refine o_T (y_fa fl_187_2 rfl) rfl ?_
        refine o_ld one_65 rfl m0 (At.got (At.refl.comp Engine.a_sum)) rfl ?_
        refine o_T (y_move rfl) rfl ?_
        refine o_T (y_sub rfl rfl rfl) rfl ?_
        obtain ⟨x1, hx3, hm⟩ := bd hm
        obtain ⟨b2, w1, cs1, y1, z1, vs1, hc1, ha1, hr1, hy1⟩ := ho2.rd.ix hx3
        obtain rfl : vs1 = (encI x1) := hr1
        refine o_T (hy1 sl_65 rfl rfl rfl) rfl ?_
        refine o_ld one_3 rfl (ms (ms (mg hc1))) (At.getA (ha1)) rfl ?_
        refine o_T (y_move rfl) rfl ?_
        refine o_T (y_eql rfl rfl) rfl ?_
        refine o_T (y_move rfl) rfl ?_
        refine o_split 38 rfl (fun h2 => ?_) (fun h2 => ?_)
        · have hm := cd_t h2 hm
          refine o_take rfl rfl rfl ?_
          refine o_T (y_move rfl) rfl ?_
          refine o_take rfl rfl rfl ?_
          refine o_T (y_nilck rfl) rfl ?_
          refine o_take rfl rfl rfl ?_
          refine o_T (y_fa fl_187_1 rfl) rfl ?_
          refine o_take rfl rfl rfl ?_
          refine o_ld one_185 rfl m0 (At.got (At.refl.comp Engine.a_line_)) rfl ?_
          refine o_take rfl rfl rfl ?_
          refine o_T (y_move rfl) rfl ?_
          refine o_take rfl rfl rfl ?_
          refine o_T (y_sub rfl rfl rfl) rfl ?_
          refine o_take rfl rfl rfl ?_
          obtain ⟨x2, hx4, hm⟩ := bd hm
          obtain ⟨b3, w2, cs2, y2, z2, vs2, hc2, ha2, hr2, hy2⟩ := ho1.rd.ix hx4
          obtain rfl : vs2 = (encS x2) := hr2
          refine o_T (hy2 sl_185 rfl rfl rfl) rfl ?_
          refine o_take rfl rfl rfl ?_
          refine o_ld one_9 rfl (ms (mg hc2)) (At.getA (ha2)) rfl ?_
          refine o_take rfl rfl rfl ?_
          refine o_T (y_move rfl) rfl ?_
          refine o_take rfl rfl rfl ?_
          refine o_T (y_seq rfl rfl) rfl ?_
          refine o_T (y_pickT rfl rfl) rfl ?_
          refine o_nil1 49 rfl rfl ?_
          obtain rfl := p1 hm
          exact ⟨_, _, ⟨rfl, rfl⟩, ⟨rfl, trivial⟩, ⟨rfl, rfl⟩, _, (s_take (s_take (s_take (s_take (s_take s_nil)))))⟩
        · have hm := cd_f h2 hm
          refine o_pass rfl rfl rfl rfl rfl ?_
          refine o_pass rfl rfl rfl rfl rfl ?_
          refine o_pass rfl rfl rfl rfl rfl ?_
          refine o_pass rfl rfl rfl rfl rfl ?_
          refine o_pass rfl rfl rfl rfl rfl ?_
          refine o_pass rfl rfl rfl rfl rfl ?_
          refine o_pass rfl rfl rfl rfl rfl ?_
          refine o_pass rfl rfl rfl rfl rfl ?_
          refine o_pass rfl rfl rfl rfl rfl ?_
          refine o_pass rfl rfl rfl rfl rfl ?_
          refine o_T (y_pickF rfl rfl) rfl ?_
          refine o_nil1 49 rfl rfl ?_
          obtain rfl := p1 hm
          exact ⟨_, _, ⟨rfl, rfl⟩, ⟨rfl, trivial⟩, ⟨rfl, rfl⟩, _, (s_take (s_take (s_take (s_take (s_take s_nil)))))⟩
      · rintro sh G ⟨rfl, rfl⟩
        refine c_cond rfl (fun h3 => ?_) (fun h3 => ?_)
        · have hm := cd_t h3 hm
          refine c_seq ?_
          refine c_region ?_
          refine o_T (y_move rfl) rfl ?_
          refine o_T (y_sub rfl rfl rfl) rfl ?_
          refine o_L (y_assign rfl) rfl rfl ?_
          refine o_nil0 rfl ?_
          refine c_ret ?_
          obtain ⟨q1, hq1, hm⟩ := bd hm
          have hm := fl_ret hm hF2
          have hm := hq1.trans hm
          obtain ⟨rfl, rfl⟩ := pr2 hm
          refine fun aX wX heX hsX => ret1 Tryz.results290 heX rfl (s_take (s_take (s_take (s_take (s_take s_nil))))) ?_
          exact ⟨v1, _, v2, _, v3, _, rfl, rfl, ho1, ho2, ho3⟩
        · have hm := cd_f h3 hm
          refine c_skip ?_
          refine c_region ?_
          refine o_T (y_move rfl) rfl ?_
          refine o_T (y_nilck rfl) rfl ?_
          refine o_T (y_fa fl_187_3 rfl) rfl ?_
          refine o_ld one_65 rfl m0 (At.got (At.refl.comp Engine.a_nxt)) rfl ?_
          refine o_T (y_move rfl) rfl ?_
          refine o_T (y_sub rfl rfl rfl) rfl ?_
          obtain ⟨x3, hx5, hm⟩ := bd hm
          obtain ⟨b4, w3, cs3, y3, z3, vs3, hc3, ha3, hr3, hy3⟩ := ho3.rd.ix hx5
          obtain rfl : vs3 = (encI x3) := hr3
          refine o_T (hy3 sl_65 rfl rfl rfl) rfl ?_
          refine o_ld one_3 rfl (ms (ms (ms (mg hc3)))) (At.getA (ha3)) rfl ?_
          refine o_L (y_assign rfl) rfl rfl ?_
          refine o_nil0 rfl ?_
          exact ⟨mm1, Nat.lt_succ_self _, _, _, ⟨_, rfl, rfl, hm⟩, ⟨rfl, trivial⟩, ⟨rfl, rfl⟩, _, (s_take (s_take (s_take (s_take (s_take s_nil)))))⟩
    · have hm := cd_f h1 hm
      refine c_exit ?_
      have hm := fl_nx hm hF2
      exact ⟨_, _, ⟨_, rfl, rfl, hm⟩, ⟨rfl, trivial⟩, ⟨rfl, rfl⟩, _, (s_take (s_take (s_take (s_take (s_take s_nil)))))⟩
  · rintro sh G ⟨c3, rfl, rfl, hm⟩
    subst hF1
    refine c_seq ?_
    refine c_region ?_
    refine o_T (y_move rfl) rfl ?_
    refine o_T (y_move rfl) rfl ?_
    refine o_T (y_nilck rfl) rfl ?_
    refine o_T (y_fa fl_187_1 rfl) rfl ?_
    refine o_ld one_185 rfl m0 (At.got (At.refl.comp Engine.a_line_)) rfl ?_
    refine o_T (y_move rfl) rfl ?_
    refine o_bs1 sz_185 rfl rfl rfl rfl rfl rfl (fun b5 => ?_)
    obtain ⟨l1, hx6, hm⟩ := bd hm
    refine o_appR (R := rStr) (a := s_) sz_185 rfl rfl rfl rfl ho1 rfl hx6 (Sel.e (s_get (ks (ks k0)) (s_take s_nil))) rfl (fun v4 g4 ho4 => ?_)
    refine o_T (y_nilck rfl) rfl ?_
    refine o_T (y_fa fl_187_1 rfl) rfl ?_
    obtain ⟨z4, hn1, hm⟩ := nm_s hm
    have ho5 := ho4.to (l' := z4.line_) (by subst hn1; rfl)
    have ho6 := ho2.to (l' := z4.sum) (by subst hn1; rfl)
    have ho7 := ho3.to (l' := z4.nxt) (by subst hn1; rfl)
    refine o_stN one_185 rfl rfl ho4.pl (Upd.z Engine.u_line_) (rs r0) (show (Engine.enc (v4) (v2) (v3) z4) = _ from by subst hn1; rfl) ?_
    refine o_nil0 rfl ?_
    refine c_seq ?_
    refine c_region ?_
    refine o_T (y_move rfl) rfl ?_
    refine o_T (y_move rfl) rfl ?_
    refine o_T (y_nilck rfl) rfl ?_
    refine o_T (y_fa fl_187_2 rfl) rfl ?_
    refine o_ld one_65 rfl (ms m0) (At.got (At.refl.comp Engine.a_sum)) rfl ?_
    refine o_T (y_move rfl) rfl ?_
    refine o_bs1 sz_65 rfl rfl rfl rfl rfl rfl (fun b6 => ?_)
    obtain ⟨l2, hx7, hm⟩ := bd hm
    refine o_appR (R := rInt) (a := c1) sz_65 rfl rfl rfl rfl ho6 rfl hx7 (Sel.e (s_get (ks (ks (ks k0))) (s_take s_nil))) rfl (fun v5 g5 ho8 => ?_)
    refine o_T (y_nilck rfl) rfl ?_
    refine o_T (y_fa fl_187_2 rfl) rfl ?_
    obtain ⟨z5, hn2, hm⟩ := nm_s hm
    have ho9 := ho5.to (l' := z5.line_) (by subst hn2; rfl)
    have ho10 := ho8.to (l' := z5.sum) (by subst hn2; rfl)
    have ho11 := ho7.to (l' := z5.nxt) (by subst hn2; rfl)
    refine o_stN one_65 rfl rfl ho8.pl (Upd.z Engine.u_sum) (rs (rs r0)) (show (Engine.enc (v4) (v5) (v3) z5) = _ from by subst hn2; rfl) ?_
    refine o_nil0 rfl ?_
    refine c_seq ?_
    refine c_draw #[true, true, true, true, true, true, true, true, true, true, true, true, false, true, true, false] rfl (n := 16) rfl ?_
    refine d_T 0 rfl sb_290_10_0 rfl (y_move rfl) rfl ?_
    refine d_T 1 rfl sb_290_10_1 rfl (y_move rfl) rfl ?_
    refine d_T 2 rfl sb_290_10_2 rfl (y_nilck rfl) rfl ?_
    refine d_T 3 rfl sb_290_10_3 rfl (y_fa fl_187_3 rfl) rfl ?_
    refine d_ld 4 rfl sb_290_10_4 one_65 rfl (fun x hx => hx) (ms (ms m0)) (At.got (At.refl.comp Engine.a_nxt)) rfl ?_
    refine d_T 5 rfl sb_290_10_5 rfl (y_move rfl) rfl ?_
    refine d_T 6 rfl sb_290_10_6 rfl (y_move rfl) rfl ?_
    refine d_T 7 rfl sb_290_10_7 rfl (y_nilck rfl) rfl ?_
    refine d_T 8 rfl sb_290_10_8 rfl (y_fa fl_187_0 rfl) rfl ?_
    obtain ⟨_, hx8, hm⟩ := bd hm
    have hx8 := ckA_some hx8
    refine d_T 9 rfl sb_290_10_9 rfl (y_ia ar_122 rfl rfl hx8.1 hx8.2) rfl ?_
    refine d_ld 10 rfl sb_290_10_10 one_3 rfl (fun x hx => hx) (ms (ms m0)) (At.got ((At.refl.comp Engine.a_head).comp (encN_a encI_len _ _ hx8.1 _ hx8.2))) rfl ?_
    refine d_hard 11 rfl sb_290_10_11 ?_
    refine o_bs1 sz_65 rfl rfl rfl rfl rfl rfl (fun b7 => ?_)
    refine o_stop (fun _ => (fun x hx => (ms hx))) ?_
    refine d_hard 12 rfl sb_290_10_12 ?_
    obtain ⟨l3, hx9, hm⟩ := bd hm
    refine o_appR (R := rInt) (a := (z5.head (bAnd .i64 c1 7))) sz_65 rfl rfl rfl rfl ho11 rfl hx9 (Sel.e (s_get (ks (ks (ks (ks k0)))) (s_take s_nil))) rfl (fun v6 g6 ho12 => ?_)
    refine o_stop (fun h => nomatch h) ?_
    refine d_T 13 rfl sb_290_10_13 rfl (y_nilck rfl) rfl ?_
    refine d_T 14 rfl sb_290_10_14 rfl (y_fa fl_187_3 rfl) rfl ?_
    refine d_hard 15 rfl sb_290_10_15 ?_
    obtain ⟨z6, hn3, hm⟩ := nm_s hm
    have ho13 := ho9.to (l' := z6.line_) (by subst hn3; rfl)
    have ho14 := ho10.to (l' := z6.sum) (by subst hn3; rfl)
    have ho15 := ho12.to (l' := z6.nxt) (by subst hn3; rfl)
    refine o_stN one_65 rfl rfl ho12.pl (Upd.z Engine.u_nxt) (rs (rs (rs r0))) (show (Engine.enc (v4) (v5) (v6) z6) = _ from by subst hn3; rfl) ?_
    refine o_stop (fun h => nomatch h) ?_
    refine d_nil0 sb_290_10_16 rfl ?_
    refine c_seq ?_
    refine c_draw #[true, true, true, true, true, true, true, true, true, true, false] rfl (n := 11) rfl ?_
    refine d_T 0 rfl sb_290_11_0 rfl (y_move rfl) rfl ?_
    refine d_T 1 rfl sb_290_11_1 rfl (y_move rfl) rfl ?_
    refine d_T 2 rfl sb_290_11_2 rfl (y_move rfl) rfl ?_
    refine d_T 3 rfl sb_290_11_3 rfl (y_nilck rfl) rfl ?_
    refine d_T 4 rfl sb_290_11_4 rfl (y_fa fl_187_1 rfl) rfl ?_
    refine d_ld 5 rfl sb_290_11_5 one_185 rfl (fun x hx => hx) (ms (ms (ms m0))) (At.got (At.refl.comp Engine.a_line_)) rfl ?_
    refine d_T 6 rfl sb_290_11_6 rfl (y_lenR ho13.rd Tryz.underlying185 rfl) rfl ?_
    refine d_T 7 rfl sb_290_11_7 rfl (y_nilck rfl) rfl ?_
    refine d_T 8 rfl sb_290_11_8 rfl (y_fa fl_187_0 rfl) rfl ?_
    obtain ⟨_, hx10, hm⟩ := bd hm
    have hx10 := ckA_some hx10
    refine d_T 9 rfl sb_290_11_9 rfl (y_ia ar_122 rfl rfl hx10.1 hx10.2) rfl ?_
    refine d_hard 10 rfl sb_290_11_10 ?_
    obtain ⟨z7, hn4, hm⟩ := nm_s hm
    have ho16 := ho13.to (l' := z7.line_) (by subst hn4; rfl)
    have ho17 := ho14.to (l' := z7.sum) (by subst hn4; rfl)
    have ho18 := ho15.to (l' := z7.nxt) (by subst hn4; rfl)
    refine o_stN one_3 rfl rfl rfl ((Upd.z Engine.u_head).comp (encN_u encI_len _ _ _ hx10.1 _ hx10.2)) (rs (rs (rs r0))) (show (Engine.enc (v4) (v5) (v6) z7) = _ from by subst hn4; rfl) ?_
    refine o_stop (fun h => nomatch h) ?_
    refine d_nil0 sb_290_11_11 rfl ?_
    refine c_seq ?_
    refine c_region ?_
    refine o_T (y_move rfl) rfl ?_
    refine o_T (y_nilck rfl) rfl ?_
    refine o_T (y_fa fl_187_1 rfl) rfl ?_
    refine o_ld one_185 rfl (ms (ms (ms m0))) (At.got (At.refl.comp Engine.a_line_)) rfl ?_
    refine o_T (y_lenR ho16.rd Tryz.underlying185 rfl) rfl ?_
    refine o_T (y_sub rfl rfl rfl) rfl ?_
    refine o_L (y_assign rfl) rfl rfl ?_
    refine o_nil0 rfl ?_
    refine c_ret ?_
    obtain ⟨rfl, rfl⟩ := pr2 hm
    refine fun aX wX heX hsX => ret1 Tryz.results290 heX rfl (s_get (ks (ks (ks k0))) (s_get (ks (ks k0)) (s_get (ks k0) (s_take (s_take s_nil))))) ?_
    exact ⟨v4, _, v5, _, v6, _, rfl, rfl, ho16, ho17, ho18⟩
end Go.Proofs.Qxb6500350aGreat
