/- MADE BY PROGRAM (tools350/mir.py): mirror and walk. -/
import Derived.Test.Qxb6500350aGreatF2
import Derived.Test.Qxb6500350aGreatT268
import Derived.Test.Qxb6500350aGreatT269
import Derived.Test.Qxb6500350aGreatT271
set_option linter.unusedVariables false
set_option linter.unusedSimpArgs false
set_option maxRecDepth 20000
set_option maxHeartbeats 4000000
namespace Go.Proofs.Qxb6500350aGreat
open Go.Eng

def op_206_5 : Array Go.Oper := #[{ dst := some 19, op := Go.Op.move (Go.Operand.tmp 5), type := 3, pos := "pool.go:159", after := #[], guard := none }, { dst := some 20, op := Go.Op.binOp Go.BinOp.add 3 (Go.Operand.tmp 19) (Go.Operand.const (Go.Value.int Go.IntKind.i64 1)) 3, type := 3, pos := "pool.go:159", after := #[{ on := 0, ground := Go.Ground.data }], guard := none }, { dst := some 21, op := Go.Op.move (Go.Operand.tmp 0), type := 31, pos := "pool.go:159", after := #[], guard := none }, { dst := some 22, op := Go.Op.move (Go.Operand.tmp 5), type := 3, pos := "pool.go:159", after := #[], guard := none }, { dst := some 23, op := Go.Op.indexAddr 274 (Go.Operand.tmp 4) (Go.Operand.tmp 22), type := 0, pos := "pool.go:159", after := #[{ on := 3, ground := Go.Ground.data }], guard := none }, { dst := some 24, op := Go.Op.load 3 (Go.Operand.tmp 23), type := 3, pos := "pool.go:159", after := #[{ on := 4, ground := Go.Ground.data }], guard := none }, { dst := some 25, op := Go.Op.move (Go.Operand.tmp 1), type := 9, pos := "pool.go:159", after := #[], guard := none }, { dst := some 26, op := Go.Op.move (Go.Operand.tmp 6), type := 3, pos := "pool.go:159", after := #[], guard := none }, { dst := some 27, op := Go.Op.move (Go.Operand.tmp 7), type := 3, pos := "pool.go:159", after := #[], guard := none }, { dst := some 28, op := Go.Op.slice 9 (Go.Operand.tmp 25) (some (Go.Operand.tmp 26)) (some (Go.Operand.tmp 27)) none, type := 9, pos := "pool.go:159", after := #[{ on := 6, ground := Go.Ground.data }, { on := 7, ground := Go.Ground.data }, { on := 8, ground := Go.Ground.data }], guard := none }, { dst := some 29, op := Go.Op.call { callee := Go.Callee.value (Go.Operand.func 269), args := #[Go.Operand.tmp 21, Go.Operand.tmp 24, Go.Operand.tmp 28], argTypes := #[31, 3, 9] }, type := 3, pos := "pool.go:159", after := #[{ on := 2, ground := Go.Ground.data }, { on := 5, ground := Go.Ground.data }, { on := 9, ground := Go.Ground.data }], guard := none }, { dst := some 30, op := Go.Op.indexAddr 274 (Go.Operand.tmp 4) (Go.Operand.tmp 20), type := 0, pos := "pool.go:159", after := #[{ on := 1, ground := Go.Ground.data }, { on := 0, ground := Go.Ground.phase }, { on := 1, ground := Go.Ground.phase }, { on := 2, ground := Go.Ground.phase }, { on := 3, ground := Go.Ground.phase }, { on := 4, ground := Go.Ground.phase }, { on := 5, ground := Go.Ground.phase }, { on := 6, ground := Go.Ground.phase }, { on := 7, ground := Go.Ground.phase }, { on := 8, ground := Go.Ground.phase }, { on := 9, ground := Go.Ground.phase }, { on := 10, ground := Go.Ground.phase }], guard := none }, { dst := none, op := Go.Op.store 3 (Go.Operand.tmp 30) (Go.Operand.tmp 29), type := 0, pos := "pool.go:159", after := #[{ on := 11, ground := Go.Ground.data }, { on := 10, ground := Go.Ground.data }, { on := 10, ground := Go.Ground.chain }, { on := 0, ground := Go.Ground.phase }, { on := 1, ground := Go.Ground.phase }, { on := 2, ground := Go.Ground.phase }, { on := 3, ground := Go.Ground.phase }, { on := 4, ground := Go.Ground.phase }, { on := 5, ground := Go.Ground.phase }, { on := 6, ground := Go.Ground.phase }, { on := 7, ground := Go.Ground.phase }, { on := 8, ground := Go.Ground.phase }, { on := 9, ground := Go.Ground.phase }, { on := 10, ground := Go.Ground.phase }], guard := none }]
def op_206_11 : Array Go.Oper := #[{ dst := some 46, op := Go.Op.move (Go.Operand.tmp 0), type := 31, pos := "pool.go:165", after := #[], guard := none }, { dst := some 47, op := Go.Op.move (Go.Operand.tmp 5), type := 3, pos := "pool.go:165", after := #[], guard := none }, { dst := some 48, op := Go.Op.indexAddr 274 (Go.Operand.tmp 4) (Go.Operand.tmp 47), type := 0, pos := "pool.go:165", after := #[{ on := 1, ground := Go.Ground.data }], guard := none }, { dst := some 49, op := Go.Op.load 3 (Go.Operand.tmp 48), type := 3, pos := "pool.go:165", after := #[{ on := 2, ground := Go.Ground.data }], guard := none }, { dst := some 50, op := Go.Op.nilCheck (Go.Operand.tmp 46), type := 0, pos := "pool.go:165", after := #[{ on := 0, ground := Go.Ground.data }], guard := none }, { dst := some 51, op := Go.Op.fieldAddr 184 (Go.Operand.tmp 50) 0, type := 0, pos := "pool.go:165", after := #[{ on := 4, ground := Go.Ground.data }], guard := none }, { dst := some 52, op := Go.Op.indexAddr 182 (Go.Operand.tmp 51) (Go.Operand.tmp 49), type := 0, pos := "pool.go:165", after := #[{ on := 5, ground := Go.Ground.data }, { on := 3, ground := Go.Ground.data }], guard := none }, { dst := some 53, op := Go.Op.fieldAddr 181 (Go.Operand.tmp 52) 1, type := 0, pos := "pool.go:165", after := #[{ on := 6, ground := Go.Ground.data }], guard := none }, { dst := some 54, op := Go.Op.load 3 (Go.Operand.tmp 53), type := 3, pos := "pool.go:165", after := #[{ on := 7, ground := Go.Ground.data }], guard := none }, { dst := some 55, op := Go.Op.binOp Go.BinOp.neq 3 (Go.Operand.tmp 54) (Go.Operand.const (Go.Value.int Go.IntKind.i64 0)) 3, type := 4, pos := "pool.go:165", after := #[{ on := 8, ground := Go.Ground.data }], guard := none }]
def op_206_12 : Array Go.Oper := #[{ dst := some 56, op := Go.Op.move (Go.Operand.tmp 0), type := 31, pos := "pool.go:168", after := #[], guard := none }, { dst := some 57, op := Go.Op.move (Go.Operand.tmp 5), type := 3, pos := "pool.go:168", after := #[], guard := none }, { dst := some 58, op := Go.Op.binOp Go.BinOp.sub 3 (Go.Operand.tmp 57) (Go.Operand.const (Go.Value.int Go.IntKind.i64 1)) 3, type := 3, pos := "pool.go:168", after := #[{ on := 1, ground := Go.Ground.data }], guard := none }, { dst := some 59, op := Go.Op.indexAddr 274 (Go.Operand.tmp 4) (Go.Operand.tmp 58), type := 0, pos := "pool.go:168", after := #[{ on := 2, ground := Go.Ground.data }], guard := none }, { dst := some 60, op := Go.Op.load 3 (Go.Operand.tmp 59), type := 3, pos := "pool.go:168", after := #[{ on := 3, ground := Go.Ground.data }], guard := none }, { dst := some 61, op := Go.Op.move (Go.Operand.tmp 5), type := 3, pos := "pool.go:168", after := #[], guard := none }, { dst := some 62, op := Go.Op.indexAddr 274 (Go.Operand.tmp 4) (Go.Operand.tmp 61), type := 0, pos := "pool.go:168", after := #[{ on := 5, ground := Go.Ground.data }], guard := none }, { dst := some 63, op := Go.Op.load 3 (Go.Operand.tmp 62), type := 3, pos := "pool.go:168", after := #[{ on := 6, ground := Go.Ground.data }], guard := none }, { dst := some 64, op := Go.Op.call { callee := Go.Callee.value (Go.Operand.func 271), args := #[Go.Operand.tmp 56, Go.Operand.tmp 60, Go.Operand.tmp 63], argTypes := #[31, 3, 3] }, type := 0, pos := "pool.go:168", after := #[{ on := 0, ground := Go.Ground.data }, { on := 4, ground := Go.Ground.data }, { on := 7, ground := Go.Ground.data }], guard := none }]
theorem sb_206_5_0 : softB op_206_5 #[true, true, true, true, true, true, true, true, true, true, false, true, false] (Array.replicate 13 false) 0 = true := by kernel_rfl
theorem sb_206_5_1 : softB op_206_5 #[true, true, true, true, true, true, true, true, true, true, false, true, false] ((Array.replicate 13 false).setIfInBounds 0 true) 1 = true := by kernel_rfl
theorem sb_206_5_2 : softB op_206_5 #[true, true, true, true, true, true, true, true, true, true, false, true, false] (((Array.replicate 13 false).setIfInBounds 0 true).setIfInBounds 1 true) 2 = true := by kernel_rfl
theorem sb_206_5_3 : softB op_206_5 #[true, true, true, true, true, true, true, true, true, true, false, true, false] ((((Array.replicate 13 false).setIfInBounds 0 true).setIfInBounds 1 true).setIfInBounds 2 true) 3 = true := by kernel_rfl
theorem sb_206_5_4 : softB op_206_5 #[true, true, true, true, true, true, true, true, true, true, false, true, false] (((((Array.replicate 13 false).setIfInBounds 0 true).setIfInBounds 1 true).setIfInBounds 2 true).setIfInBounds 3 true) 4 = true := by kernel_rfl
theorem sb_206_5_5 : softB op_206_5 #[true, true, true, true, true, true, true, true, true, true, false, true, false] ((((((Array.replicate 13 false).setIfInBounds 0 true).setIfInBounds 1 true).setIfInBounds 2 true).setIfInBounds 3 true).setIfInBounds 4 true) 5 = true := by kernel_rfl
theorem sb_206_5_6 : softB op_206_5 #[true, true, true, true, true, true, true, true, true, true, false, true, false] (((((((Array.replicate 13 false).setIfInBounds 0 true).setIfInBounds 1 true).setIfInBounds 2 true).setIfInBounds 3 true).setIfInBounds 4 true).setIfInBounds 5 true) 6 = true := by kernel_rfl
theorem sb_206_5_7 : softB op_206_5 #[true, true, true, true, true, true, true, true, true, true, false, true, false] ((((((((Array.replicate 13 false).setIfInBounds 0 true).setIfInBounds 1 true).setIfInBounds 2 true).setIfInBounds 3 true).setIfInBounds 4 true).setIfInBounds 5 true).setIfInBounds 6 true) 7 = true := by kernel_rfl
theorem sb_206_5_8 : softB op_206_5 #[true, true, true, true, true, true, true, true, true, true, false, true, false] (((((((((Array.replicate 13 false).setIfInBounds 0 true).setIfInBounds 1 true).setIfInBounds 2 true).setIfInBounds 3 true).setIfInBounds 4 true).setIfInBounds 5 true).setIfInBounds 6 true).setIfInBounds 7 true) 8 = true := by kernel_rfl
theorem sb_206_5_9 : softB op_206_5 #[true, true, true, true, true, true, true, true, true, true, false, true, false] ((((((((((Array.replicate 13 false).setIfInBounds 0 true).setIfInBounds 1 true).setIfInBounds 2 true).setIfInBounds 3 true).setIfInBounds 4 true).setIfInBounds 5 true).setIfInBounds 6 true).setIfInBounds 7 true).setIfInBounds 8 true) 9 = true := by kernel_rfl
theorem sb_206_5_10 : hardB op_206_5 (((((((((((Array.replicate 13 false).setIfInBounds 0 true).setIfInBounds 1 true).setIfInBounds 2 true).setIfInBounds 3 true).setIfInBounds 4 true).setIfInBounds 5 true).setIfInBounds 6 true).setIfInBounds 7 true).setIfInBounds 8 true).setIfInBounds 9 true) [10] = true := by kernel_rfl
theorem sb_206_5_11 : softB op_206_5 #[true, true, true, true, true, true, true, true, true, true, false, true, false] ((((((((((((Array.replicate 13 false).setIfInBounds 0 true).setIfInBounds 1 true).setIfInBounds 2 true).setIfInBounds 3 true).setIfInBounds 4 true).setIfInBounds 5 true).setIfInBounds 6 true).setIfInBounds 7 true).setIfInBounds 8 true).setIfInBounds 9 true).setIfInBounds 10 true) 11 = true := by kernel_rfl
theorem sb_206_5_12 : hardB op_206_5 (((((((((((((Array.replicate 13 false).setIfInBounds 0 true).setIfInBounds 1 true).setIfInBounds 2 true).setIfInBounds 3 true).setIfInBounds 4 true).setIfInBounds 5 true).setIfInBounds 6 true).setIfInBounds 7 true).setIfInBounds 8 true).setIfInBounds 9 true).setIfInBounds 10 true).setIfInBounds 11 true) [12] = true := by kernel_rfl
theorem sb_206_5_13 : hardB op_206_5 ((((((((((((((Array.replicate 13 false).setIfInBounds 0 true).setIfInBounds 1 true).setIfInBounds 2 true).setIfInBounds 3 true).setIfInBounds 4 true).setIfInBounds 5 true).setIfInBounds 6 true).setIfInBounds 7 true).setIfInBounds 8 true).setIfInBounds 9 true).setIfInBounds 10 true).setIfInBounds 11 true).setIfInBounds 12 true) [] = true := by kernel_rfl
theorem sb_206_11_0 : softB op_206_11 #[true, true, true, true, true, true, true, true, true, true] (Array.replicate 10 false) 0 = true := by kernel_rfl
theorem sb_206_11_1 : softB op_206_11 #[true, true, true, true, true, true, true, true, true, true] ((Array.replicate 10 false).setIfInBounds 0 true) 1 = true := by kernel_rfl
theorem sb_206_11_2 : softB op_206_11 #[true, true, true, true, true, true, true, true, true, true] (((Array.replicate 10 false).setIfInBounds 0 true).setIfInBounds 1 true) 2 = true := by kernel_rfl
theorem sb_206_11_3 : softB op_206_11 #[true, true, true, true, true, true, true, true, true, true] ((((Array.replicate 10 false).setIfInBounds 0 true).setIfInBounds 1 true).setIfInBounds 2 true) 3 = true := by kernel_rfl
theorem sb_206_11_4 : softB op_206_11 #[true, true, true, true, true, true, true, true, true, true] (((((Array.replicate 10 false).setIfInBounds 0 true).setIfInBounds 1 true).setIfInBounds 2 true).setIfInBounds 3 true) 4 = true := by kernel_rfl
theorem sb_206_11_5 : softB op_206_11 #[true, true, true, true, true, true, true, true, true, true] ((((((Array.replicate 10 false).setIfInBounds 0 true).setIfInBounds 1 true).setIfInBounds 2 true).setIfInBounds 3 true).setIfInBounds 4 true) 5 = true := by kernel_rfl
theorem sb_206_11_6 : softB op_206_11 #[true, true, true, true, true, true, true, true, true, true] (((((((Array.replicate 10 false).setIfInBounds 0 true).setIfInBounds 1 true).setIfInBounds 2 true).setIfInBounds 3 true).setIfInBounds 4 true).setIfInBounds 5 true) 6 = true := by kernel_rfl
theorem sb_206_11_7 : softB op_206_11 #[true, true, true, true, true, true, true, true, true, true] ((((((((Array.replicate 10 false).setIfInBounds 0 true).setIfInBounds 1 true).setIfInBounds 2 true).setIfInBounds 3 true).setIfInBounds 4 true).setIfInBounds 5 true).setIfInBounds 6 true) 7 = true := by kernel_rfl
theorem sb_206_11_8 : softB op_206_11 #[true, true, true, true, true, true, true, true, true, true] (((((((((Array.replicate 10 false).setIfInBounds 0 true).setIfInBounds 1 true).setIfInBounds 2 true).setIfInBounds 3 true).setIfInBounds 4 true).setIfInBounds 5 true).setIfInBounds 6 true).setIfInBounds 7 true) 8 = true := by kernel_rfl
theorem sb_206_11_9 : softB op_206_11 #[true, true, true, true, true, true, true, true, true, true] ((((((((((Array.replicate 10 false).setIfInBounds 0 true).setIfInBounds 1 true).setIfInBounds 2 true).setIfInBounds 3 true).setIfInBounds 4 true).setIfInBounds 5 true).setIfInBounds 6 true).setIfInBounds 7 true).setIfInBounds 8 true) 9 = true := by kernel_rfl
theorem sb_206_11_10 : hardB op_206_11 (((((((((((Array.replicate 10 false).setIfInBounds 0 true).setIfInBounds 1 true).setIfInBounds 2 true).setIfInBounds 3 true).setIfInBounds 4 true).setIfInBounds 5 true).setIfInBounds 6 true).setIfInBounds 7 true).setIfInBounds 8 true).setIfInBounds 9 true) [] = true := by kernel_rfl
theorem sb_206_12_0 : softB op_206_12 #[true, true, true, true, true, true, true, true, false] (Array.replicate 9 false) 0 = true := by kernel_rfl
theorem sb_206_12_1 : softB op_206_12 #[true, true, true, true, true, true, true, true, false] ((Array.replicate 9 false).setIfInBounds 0 true) 1 = true := by kernel_rfl
theorem sb_206_12_2 : softB op_206_12 #[true, true, true, true, true, true, true, true, false] (((Array.replicate 9 false).setIfInBounds 0 true).setIfInBounds 1 true) 2 = true := by kernel_rfl
theorem sb_206_12_3 : softB op_206_12 #[true, true, true, true, true, true, true, true, false] ((((Array.replicate 9 false).setIfInBounds 0 true).setIfInBounds 1 true).setIfInBounds 2 true) 3 = true := by kernel_rfl
theorem sb_206_12_4 : softB op_206_12 #[true, true, true, true, true, true, true, true, false] (((((Array.replicate 9 false).setIfInBounds 0 true).setIfInBounds 1 true).setIfInBounds 2 true).setIfInBounds 3 true) 4 = true := by kernel_rfl
theorem sb_206_12_5 : softB op_206_12 #[true, true, true, true, true, true, true, true, false] ((((((Array.replicate 9 false).setIfInBounds 0 true).setIfInBounds 1 true).setIfInBounds 2 true).setIfInBounds 3 true).setIfInBounds 4 true) 5 = true := by kernel_rfl
theorem sb_206_12_6 : softB op_206_12 #[true, true, true, true, true, true, true, true, false] (((((((Array.replicate 9 false).setIfInBounds 0 true).setIfInBounds 1 true).setIfInBounds 2 true).setIfInBounds 3 true).setIfInBounds 4 true).setIfInBounds 5 true) 6 = true := by kernel_rfl
theorem sb_206_12_7 : softB op_206_12 #[true, true, true, true, true, true, true, true, false] ((((((((Array.replicate 9 false).setIfInBounds 0 true).setIfInBounds 1 true).setIfInBounds 2 true).setIfInBounds 3 true).setIfInBounds 4 true).setIfInBounds 5 true).setIfInBounds 6 true) 7 = true := by kernel_rfl
theorem sb_206_12_8 : hardB op_206_12 (((((((((Array.replicate 9 false).setIfInBounds 0 true).setIfInBounds 1 true).setIfInBounds 2 true).setIfInBounds 3 true).setIfInBounds 4 true).setIfInBounds 5 true).setIfInBounds 6 true).setIfInBounds 7 true) [8] = true := by kernel_rfl
theorem sb_206_12_9 : hardB op_206_12 ((((((((((Array.replicate 9 false).setIfInBounds 0 true).setIfInBounds 1 true).setIfInBounds 2 true).setIfInBounds 3 true).setIfInBounds 4 true).setIfInBounds 5 true).setIfInBounds 6 true).setIfInBounds 7 true).setIfInBounds 8 true) [] = true := by kernel_rfl
/- (*index.Index).prune -/
def m206_w1 (n : Nat) (x : Index) (path : Str) (mm : Nat) : Int → Int → ((Int → Int)) → Option (Int × Int × ((Int → Int))) := it3 (fun lp1 c1 c2 z1 =>
cond ((decide (c2 < (path.length : Int))) && (decide (c1 < 6))) (
ob1 (m268 n path c2) fun c5 =>
Option.bind (ckA c1 7) fun _ =>
Option.bind (sSl path c2 c5) fun s1 =>
ob1 (m269 n x (z1 c1) s1) fun c6 =>
Option.bind (ckA (wi (c1 + 1)) 7) fun _ =>
nm ((upI z1 (wi (c1 + 1)) c6) : (Int → Int)) fun z3 =>
lp1 (wi (c1 + 1)) (wi (c5 + 1)) z3) (
some (c1, c2, z1))) mm
def m206_w2 (n : Nat) (z2 : (Int → Int)) (mm : Nat) : Int → Index → Option (Flow (Index) (Int × Index)) := it2 (fun lp2 c7 z5 =>
cond (decide ((0 : Int) < c7)) (
Option.bind (ckA c7 7) fun _ =>
Option.bind (ckA (z2 c7) 49) fun _ =>
cond (decide (¬ ((z5.pool (z2 c7)).child = 0))) (
Option.bind (some z5) fun q1 => some (.ret q1)) (
Option.bind (ckA (wi (c7 - 1)) 7) fun _ =>
Option.bind (ckA c7 7) fun _ =>
ob1 (m271 n z5 (z2 (wi (c7 - 1))) (z2 c7)) fun z7 =>
lp2 (wi (c7 - 1)) z7)) (
some (.nx (c7, z5)))) mm
def m206 (n : Nat) (x : Index) (path : Str) : Option (Index) :=
ob3 (m206_w1 n x path n 0 0 (fun _ => 0)) fun c3 c4 z2 =>
nm ({ x with files := (wi (x.files - 1)) } : Index) fun z4 =>
flow (m206_w2 n z2 n c3 z4) some (un2 fun c8 z6 =>
some z6)
theorem t206 {n : Nat} {C : List Chunk} {rz1 : Index} {b1 : Nat} {x : Index} {path : Str}   (hm : m206 n x path = some rz1) : Trip Tryz.prog 206 #[.pointer (some ⟨b1, 0, none⟩), .string ⟨(path : Str).toArray⟩] ([[(b1, .cells (Index.enc x).toArray 184 (0, 0))]] ++ [C]) (fun u S' => .tuple #[] = u ∧ S' = [[(b1, .cells (Index.enc rz1).toArray 184 (0, 0))]] ++ [C]) := by
  refine fn_entry (args := [.pointer (some ⟨b1, 0, none⟩), .string ⟨(path : Str).toArray⟩]) Tryz.func206 rfl Tryz.ntmps206 rfl (fun w0 => ?_)
  refine c_seq ?_
  refine c_region ?_
  refine o_alloc ze_274 rfl rfl (fun b2 => ?_)
  refine o_nil0 rfl ?_
  refine c_seq ?_
  refine c_region ?_
  refine o_L (y_assign rfl) rfl rfl ?_
  refine o_nil0 rfl ?_
  refine c_seq ?_
  refine c_seq ?_
  refine c_region ?_
  refine o_L (y_assign rfl) rfl rfl ?_
  refine o_nil0 rfl ?_
  obtain ⟨c3, c4, z2, hj1, hm⟩ := bd3 hm
  refine c_joinP (n := 1) (fun sh G => sh = [(5, .int .i64 c3), (6, .int .i64 c4)] ∧ G = [[(b2, .cells (encN encI z2 7).toArray 274 (0, 0))]]) (s_take (s_take (s_take s_nil))) (.s .z) (fun _ _ h => h) ?_ ?_
  · skip
    refine c_block ?_
    refine c_loopP (n := 1) (fun mm sh G => ∃ (c1 : Int), ∃ (c2 : Int), ∃ (z1 : (Int → Int)), sh = [(5, .int .i64 c1), (6, .int .i64 c2)] ∧ G = [[(b2, .cells (encN encI z1 7).toArray 274 (0, 0))]] ∧ m206_w1 n x path mm c1 c2 z1 = some (c3, c4, z2)) n (s_take (s_take (s_take s_nil))) (.s .z) ⟨_, _, ⟨_, _, _, rfl, rfl, hj1⟩, ⟨rfl, rfl, trivial⟩, _, (s_take (s_take (s_take s_nil)))⟩ ?_
    rintro mm sh G ⟨c1, c2, z1, rfl, rfl, hm⟩
    obtain ⟨mm1, rfl, hm⟩ := it3_s hm
    refine c_seq ?_
    refine c_seq ?_
    refine c_joinP (n := 0) (fun sh G => sh = [(15, .bool ((decide (c2 < (path.length : Int))) && (decide (c1 < 6))))] ∧ G = []) Sel.all' .z (fun _ _ h => h) ?_ ?_
    · skip
      refine c_region ?_
      refine o_T (y_move rfl) rfl ?_
      refine o_T (y_move rfl) rfl ?_
      refine o_T (y_slen Tryz.underlying9 rfl) rfl ?_
      refine o_T (y_lss rfl rfl) rfl ?_
      refine o_T (y_move rfl) rfl ?_
      refine o_split 12 rfl (fun h1 => ?_) (fun h1 => ?_)
      · skip
        refine o_take rfl rfl rfl ?_
        refine o_T (y_move rfl) rfl ?_
        refine o_take rfl rfl rfl ?_
        refine o_T (y_lss rfl rfl) rfl ?_
        refine o_T (y_pickT rfl rfl) rfl ?_
        refine o_nil1 15 rfl rfl ?_
        refine ⟨_, _, ⟨rfl, rfl⟩, ⟨by first | rfl | exact gtb rfl (by simp only [h1, Bool.true_and, Bool.false_and, Bool.true_or, Bool.false_or, Bool.and_true, Bool.and_false, Bool.or_true, Bool.or_false, Bool.not_true, Bool.not_false]), trivial⟩, ⟨rfl, rfl⟩, _, (s_take (s_take (s_take s_nil)))⟩
      · skip
        refine o_pass rfl rfl rfl rfl rfl ?_
        refine o_pass rfl rfl rfl rfl rfl ?_
        refine o_T (y_pickF rfl rfl) rfl ?_
        refine o_nil1 15 rfl rfl ?_
        refine ⟨_, _, ⟨rfl, rfl⟩, ⟨by first | rfl | exact gtb rfl (by simp only [h1, Bool.true_and, Bool.false_and, Bool.true_or, Bool.false_or, Bool.and_true, Bool.and_false, Bool.or_true, Bool.or_false, Bool.not_true, Bool.not_false]), trivial⟩, ⟨rfl, rfl⟩, _, (s_take (s_take (s_take s_nil)))⟩
    · rintro sh G ⟨rfl, rfl⟩
      refine c_cond rfl (fun h2 => ?_) (fun h2 => ?_)
      · have hm := cd_t h2 hm
        refine c_skip ?_
        refine c_block ?_
        refine c_seq ?_
        refine c_region ?_
        refine o_T (y_move rfl) rfl ?_
        refine o_T (y_move rfl) rfl ?_
        obtain ⟨c5, hx1, hm⟩ := bd1 hm
        refine o_callC en_268 rfl s_nil (t268 hx1) rfl (fun u1 S1 hR1 => ?_)
        obtain ⟨rfl, rfl⟩ := hR1
        refine o_rest ?_
        refine o_L (y_assign rfl) rfl rfl ?_
        refine o_nil0 rfl ?_
        refine c_seq ?_
        refine c_draw #[true, true, true, true, true, true, true, true, true, true, false, true, false] rfl (n := 13) rfl ?_
        refine d_T 0 rfl sb_206_5_0 rfl (y_move rfl) rfl ?_
        refine d_T 1 rfl sb_206_5_1 rfl (y_add rfl rfl rfl) rfl ?_
        refine d_T 2 rfl sb_206_5_2 rfl (y_move rfl) rfl ?_
        refine d_T 3 rfl sb_206_5_3 rfl (y_move rfl) rfl ?_
        obtain ⟨_, hx2, hm⟩ := bd hm
        have hx2 := ckA_some hx2
        refine d_T 4 rfl sb_206_5_4 rfl (y_ia ar_274 rfl rfl hx2.1 hx2.2) rfl ?_
        refine d_ld 5 rfl sb_206_5_5 one_3 rfl (fun x hx => hx) m0 (At.got (At.refl.comp (encN_a encI_len _ _ hx2.1 _ hx2.2))) rfl ?_
        refine d_T 6 rfl sb_206_5_6 rfl (y_move rfl) rfl ?_
        refine d_T 7 rfl sb_206_5_7 rfl (y_move rfl) rfl ?_
        refine d_T 8 rfl sb_206_5_8 rfl (y_move rfl) rfl ?_
        obtain ⟨s1, hx3, hm⟩ := bd hm
        refine d_T 9 rfl sb_206_5_9 rfl (y_ssl Tryz.underlying9 rfl (biS rfl) (biS rfl) hx3) rfl ?_
        refine d_hard 10 rfl sb_206_5_10 ?_
        obtain ⟨c6, hx4, hm⟩ := bd1 hm
        refine o_callC en_269 rfl (s_skip (s_take s_nil)) (t269 hx4) rfl (fun u2 S2 hR2 => ?_)
        obtain ⟨rfl, rfl⟩ := hR2
        refine o_rest ?_
        refine o_stop (fun h => nomatch h) ?_
        obtain ⟨_, hx5, hm⟩ := bd hm
        have hx5 := ckA_some hx5
        refine d_T 11 rfl sb_206_5_11 rfl (y_ia ar_274 rfl rfl hx5.1 hx5.2) rfl ?_
        refine d_hard 12 rfl sb_206_5_12 ?_
        obtain ⟨z3, hn1, hm⟩ := nm_s hm
        refine o_stN one_3 rfl rfl rfl (Upd.z (encN_u encI_len _ _ _ hx5.1 _ hx5.2)) (rs r0) (show (encN encI z3 7) = _ from by subst hn1; rfl) ?_
        refine o_stop (fun h => nomatch h) ?_
        refine d_nil0 sb_206_5_13 rfl ?_
        refine c_seq ?_
        refine c_region ?_
        refine o_T (y_move rfl) rfl ?_
        refine o_T (y_add rfl rfl rfl) rfl ?_
        refine o_L (y_assign rfl) rfl rfl ?_
        refine o_nil0 rfl ?_
        refine c_region ?_
        refine o_T (y_move rfl) rfl ?_
        refine o_T (y_add rfl rfl rfl) rfl ?_
        refine o_L (y_assign rfl) rfl rfl ?_
        refine o_nil0 rfl ?_
        exact ⟨mm1, Nat.lt_succ_self _, _, _, ⟨_, _, _, rfl, rfl, hm⟩, ⟨rfl, rfl, trivial⟩, ⟨rfl, rfl⟩, _, (s_get (ks k0) (s_take (s_take s_nil)))⟩
      · have hm := cd_f h2 hm
        refine c_exit ?_
        obtain ⟨rfl, rfl, rfl⟩ := pr3 hm
        exact ⟨_, _, ⟨rfl, rfl⟩, ⟨rfl, rfl, trivial⟩, ⟨rfl, rfl⟩, _, (s_take (s_take (s_take s_nil)))⟩
  · rintro sh G ⟨rfl, rfl⟩
    refine c_seq ?_
    refine c_region ?_
    refine o_T (y_move rfl) rfl ?_
    refine o_T (y_nilck rfl) rfl ?_
    refine o_T (y_fa fl_184_2 rfl) rfl ?_
    refine o_ld one_3 rfl (ms m0) (At.got (At.refl.comp Index.a_files)) rfl ?_
    refine o_T (y_sub rfl rfl rfl) rfl ?_
    refine o_T (y_nilck rfl) rfl ?_
    refine o_T (y_fa fl_184_2 rfl) rfl ?_
    obtain ⟨z4, hn2, hm⟩ := nm_s hm
    refine o_stN one_3 rfl rfl rfl (Upd.z Index.u_files) (rs r0) (show (Index.enc z4) = _ from by subst hn2; rfl) ?_
    refine o_nil0 rfl ?_
    obtain ⟨f1, F1, hF1, hj2, hF2⟩ := fl2 hm
    refine c_block ?_
    refine c_loopP (n := 1) (fun mm sh G => ∃ (c7 : Int), ∃ (z5 : Index), sh = [(5, .int .i64 c7)] ∧ G = [[(b1, .cells (Index.enc z5).toArray 184 (0, 0))]] ∧ m206_w2 n z2 mm c7 z5 = some f1) n (s_get (ks k0) (s_take (s_take s_nil))) (.s .z) ⟨_, _, ⟨_, _, rfl, rfl, hj2⟩, ⟨rfl, trivial⟩, _, (s_get (ks k0) (s_take (s_take s_nil)))⟩ ?_
    rintro mm sh G ⟨c7, z5, rfl, rfl, hm⟩
    obtain ⟨mm2, rfl, hm⟩ := it2_s hm
    refine c_seq ?_
    refine c_seq ?_
    refine c_region ?_
    refine o_T (y_move rfl) rfl ?_
    refine o_T (y_gtr rfl rfl) rfl ?_
    refine o_nil1 43 rfl rfl ?_
    refine c_cond rfl (fun h3 => ?_) (fun h3 => ?_)
    · have hm := cd_t h3 hm
      refine c_skip ?_
      refine c_seq ?_
      refine c_block ?_
      refine c_seq ?_
      refine c_seq ?_
      refine c_draw #[true, true, true, true, true, true, true, true, true, true] rfl (n := 10) rfl ?_
      refine d_T 0 rfl sb_206_11_0 rfl (y_move rfl) rfl ?_
      refine d_T 1 rfl sb_206_11_1 rfl (y_move rfl) rfl ?_
      obtain ⟨_, hx6, hm⟩ := bd hm
      have hx6 := ckA_some hx6
      refine d_T 2 rfl sb_206_11_2 rfl (y_ia ar_274 rfl rfl hx6.1 hx6.2) rfl ?_
      refine d_ld 3 rfl sb_206_11_3 one_3 rfl (fun x hx => hx) (ms m0) (At.got (At.refl.comp (encN_a encI_len _ _ hx6.1 _ hx6.2))) rfl ?_
      refine d_T 4 rfl sb_206_11_4 rfl (y_nilck rfl) rfl ?_
      refine d_T 5 rfl sb_206_11_5 rfl (y_fa fl_184_0 rfl) rfl ?_
      obtain ⟨_, hx7, hm⟩ := bd hm
      have hx7 := ckA_some hx7
      refine d_T 6 rfl sb_206_11_6 rfl (y_ia ar_182 rfl rfl hx7.1 hx7.2) rfl ?_
      refine d_T 7 rfl sb_206_11_7 rfl (y_fa fl_181_1 rfl) rfl ?_
      refine d_ld 8 rfl sb_206_11_8 one_3 rfl (fun x hx => hx) m0 (At.got (((At.refl.comp Index.a_pool).comp (encN_a Nod.len _ _ hx7.1 _ hx7.2)).comp Nod.a_child)) rfl ?_
      refine d_T 9 rfl sb_206_11_9 rfl (y_neq rfl rfl) rfl ?_
      refine d_nil1 55 sb_206_11_10 rfl rfl ?_
      refine c_cond rfl (fun h4 => ?_) (fun h4 => ?_)
      · have hm := cd_t h4 hm
        refine c_ret ?_
        obtain ⟨q1, hq1, hm⟩ := bd hm
        have hm := fl_ret hm hF2
        have hm := hq1.trans hm
        obtain rfl := p1 hm
        refine fun aX wX heX hsX => ret0 Tryz.results206 (s_take (s_skip (s_take s_nil))) ?_
        exact ⟨rfl, rfl⟩
      · have hm := cd_f h4 hm
        refine c_skip ?_
        refine c_draw #[true, true, true, true, true, true, true, true, false] rfl (n := 9) rfl ?_
        refine d_T 0 rfl sb_206_12_0 rfl (y_move rfl) rfl ?_
        refine d_T 1 rfl sb_206_12_1 rfl (y_move rfl) rfl ?_
        refine d_T 2 rfl sb_206_12_2 rfl (y_sub rfl rfl rfl) rfl ?_
        obtain ⟨_, hx8, hm⟩ := bd hm
        have hx8 := ckA_some hx8
        refine d_T 3 rfl sb_206_12_3 rfl (y_ia ar_274 rfl rfl hx8.1 hx8.2) rfl ?_
        refine d_ld 4 rfl sb_206_12_4 one_3 rfl (fun x hx => hx) (ms m0) (At.got (At.refl.comp (encN_a encI_len _ _ hx8.1 _ hx8.2))) rfl ?_
        refine d_T 5 rfl sb_206_12_5 rfl (y_move rfl) rfl ?_
        obtain ⟨_, hx9, hm⟩ := bd hm
        have hx9 := ckA_some hx9
        refine d_T 6 rfl sb_206_12_6 rfl (y_ia ar_274 rfl rfl hx9.1 hx9.2) rfl ?_
        refine d_ld 7 rfl sb_206_12_7 one_3 rfl (fun x hx => hx) (ms m0) (At.got (At.refl.comp (encN_a encI_len _ _ hx9.1 _ hx9.2))) rfl ?_
        refine d_hard 8 rfl sb_206_12_8 ?_
        obtain ⟨z7, hx10, hm⟩ := bd1 hm
        refine o_callC en_271 rfl (s_take s_nil) (t271 hx10) rfl (fun u3 S3 hR3 => ?_)
        obtain ⟨rfl, rfl⟩ := hR3
        refine o_rest ?_
        refine o_stop (fun h => nomatch h) ?_
        refine d_nil0 sb_206_12_9 rfl ?_
        refine c_region ?_
        refine o_T (y_move rfl) rfl ?_
        refine o_T (y_sub rfl rfl rfl) rfl ?_
        refine o_L (y_assign rfl) rfl rfl ?_
        refine o_nil0 rfl ?_
        exact ⟨mm2, Nat.lt_succ_self _, _, _, ⟨_, _, rfl, rfl, hm⟩, ⟨rfl, trivial⟩, ⟨rfl, rfl⟩, _, (s_take (s_take (s_take s_nil)))⟩
    · have hm := cd_f h3 hm
      refine c_exit ?_
      have hm := fl_nx hm hF2
      subst hF1
      obtain rfl := p1 hm
      refine fun aX wX heX hsX => ret0 Tryz.results206 (s_take (s_skip (s_take s_nil))) ?_
      exact ⟨rfl, rfl⟩
end Go.Proofs.Qxb6500350aGreat
