/- MADE BY PROGRAM (tools350/mir.py): mirror and walk. -/
import Derived.Test.Qxb6500350aGreatF2
import Derived.Test.Qxb6500350aGreatT289
import Derived.Test.Qxb6500350aGreatT278
set_option linter.unusedVariables false
set_option linter.unusedSimpArgs false
set_option maxRecDepth 20000
set_option maxHeartbeats 4000000
namespace Go.Proofs.Qxb6500350aGreat
open Go.Eng

def op_249_3 : Array Go.Oper := #[{ dst := some 33, op := Go.Op.move (Go.Operand.tmp 1), type := 81, pos := "code.go:106", after := #[], guard := none }, { dst := some 34, op := Go.Op.move (Go.Operand.tmp 5), type := 3, pos := "code.go:106", after := #[], guard := none }, { dst := some 35, op := Go.Op.indexAddr 81 (Go.Operand.tmp 33) (Go.Operand.tmp 34), type := 0, pos := "code.go:106", after := #[{ on := 0, ground := Go.Ground.data }, { on := 1, ground := Go.Ground.data }], guard := none }, { dst := some 36, op := Go.Op.load 5 (Go.Operand.tmp 35), type := 5, pos := "code.go:106", after := #[{ on := 2, ground := Go.Ground.data }], guard := none }, { dst := some 37, op := Go.Op.convert 5 3 (Go.Operand.tmp 36), type := 3, pos := "code.go:106", after := #[{ on := 3, ground := Go.Ground.data }], guard := none }, { dst := some 38, op := Go.Op.move (Go.Operand.tmp 1), type := 81, pos := "code.go:106", after := #[{ on := 17, ground := Go.Ground.gcOnly Go.Departure.lateStores }], guard := none }, { dst := some 39, op := Go.Op.move (Go.Operand.tmp 5), type := 3, pos := "code.go:106", after := #[{ on := 17, ground := Go.Ground.gcOnly Go.Departure.lateStores }], guard := none }, { dst := some 40, op := Go.Op.binOp Go.BinOp.add 3 (Go.Operand.tmp 39) (Go.Operand.const (Go.Value.int Go.IntKind.i64 1)) 3, type := 3, pos := "code.go:106", after := #[{ on := 6, ground := Go.Ground.data }, { on := 17, ground := Go.Ground.gcOnly Go.Departure.lateStores }], guard := none }, { dst := some 41, op := Go.Op.indexAddr 81 (Go.Operand.tmp 38) (Go.Operand.tmp 40), type := 0, pos := "code.go:106", after := #[{ on := 5, ground := Go.Ground.data }, { on := 7, ground := Go.Ground.data }, { on := 17, ground := Go.Ground.gcOnly Go.Departure.lateStores }], guard := none }, { dst := some 42, op := Go.Op.load 5 (Go.Operand.tmp 41), type := 5, pos := "code.go:106", after := #[{ on := 8, ground := Go.Ground.data }, { on := 17, ground := Go.Ground.gcOnly Go.Departure.lateStores }], guard := none }, { dst := some 43, op := Go.Op.convert 5 3 (Go.Operand.tmp 42), type := 3, pos := "code.go:106", after := #[{ on := 9, ground := Go.Ground.data }, { on := 17, ground := Go.Ground.gcOnly Go.Departure.lateStores }], guard := none }, { dst := some 44, op := Go.Op.move (Go.Operand.tmp 1), type := 81, pos := "code.go:106", after := #[{ on := 18, ground := Go.Ground.gcOnly Go.Departure.lateStores }], guard := none }, { dst := some 45, op := Go.Op.move (Go.Operand.tmp 5), type := 3, pos := "code.go:106", after := #[{ on := 18, ground := Go.Ground.gcOnly Go.Departure.lateStores }], guard := none }, { dst := some 46, op := Go.Op.binOp Go.BinOp.add 3 (Go.Operand.tmp 45) (Go.Operand.const (Go.Value.int Go.IntKind.i64 2)) 3, type := 3, pos := "code.go:106", after := #[{ on := 12, ground := Go.Ground.data }, { on := 18, ground := Go.Ground.gcOnly Go.Departure.lateStores }], guard := none }, { dst := some 47, op := Go.Op.indexAddr 81 (Go.Operand.tmp 44) (Go.Operand.tmp 46), type := 0, pos := "code.go:106", after := #[{ on := 11, ground := Go.Ground.data }, { on := 13, ground := Go.Ground.data }, { on := 18, ground := Go.Ground.gcOnly Go.Departure.lateStores }], guard := none }, { dst := some 48, op := Go.Op.load 5 (Go.Operand.tmp 47), type := 5, pos := "code.go:106", after := #[{ on := 14, ground := Go.Ground.data }, { on := 18, ground := Go.Ground.gcOnly Go.Departure.lateStores }], guard := none }, { dst := some 49, op := Go.Op.convert 5 3 (Go.Operand.tmp 48), type := 3, pos := "code.go:106", after := #[{ on := 15, ground := Go.Ground.data }, { on := 18, ground := Go.Ground.gcOnly Go.Departure.lateStores }], guard := none }, { dst := some 7, op := Go.Op.assign (Go.Operand.tmp 37), type := 3, pos := "code.go:106", after := #[{ on := 4, ground := Go.Ground.data }, { on := 0, ground := Go.Ground.phase }, { on := 1, ground := Go.Ground.phase }, { on := 2, ground := Go.Ground.phase }, { on := 3, ground := Go.Ground.phase }, { on := 4, ground := Go.Ground.phase }, { on := 5, ground := Go.Ground.textOnly Go.Departure.lateStores }, { on := 6, ground := Go.Ground.textOnly Go.Departure.lateStores }, { on := 7, ground := Go.Ground.textOnly Go.Departure.lateStores }, { on := 8, ground := Go.Ground.textOnly Go.Departure.lateStores }, { on := 9, ground := Go.Ground.textOnly Go.Departure.lateStores }, { on := 10, ground := Go.Ground.textOnly Go.Departure.lateStores }, { on := 11, ground := Go.Ground.textOnly Go.Departure.lateStores }, { on := 12, ground := Go.Ground.textOnly Go.Departure.lateStores }, { on := 13, ground := Go.Ground.textOnly Go.Departure.lateStores }, { on := 14, ground := Go.Ground.textOnly Go.Departure.lateStores }, { on := 15, ground := Go.Ground.textOnly Go.Departure.lateStores }, { on := 16, ground := Go.Ground.textOnly Go.Departure.lateStores }], guard := none }, { dst := some 8, op := Go.Op.assign (Go.Operand.tmp 43), type := 3, pos := "code.go:106", after := #[{ on := 10, ground := Go.Ground.data }, { on := 17, ground := Go.Ground.chain }, { on := 0, ground := Go.Ground.phase }, { on := 1, ground := Go.Ground.phase }, { on := 2, ground := Go.Ground.phase }, { on := 3, ground := Go.Ground.phase }, { on := 4, ground := Go.Ground.phase }, { on := 5, ground := Go.Ground.phase }, { on := 6, ground := Go.Ground.phase }, { on := 7, ground := Go.Ground.phase }, { on := 8, ground := Go.Ground.phase }, { on := 9, ground := Go.Ground.phase }, { on := 10, ground := Go.Ground.phase }, { on := 11, ground := Go.Ground.textOnly Go.Departure.lateStores }, { on := 12, ground := Go.Ground.textOnly Go.Departure.lateStores }, { on := 13, ground := Go.Ground.textOnly Go.Departure.lateStores }, { on := 14, ground := Go.Ground.textOnly Go.Departure.lateStores }, { on := 15, ground := Go.Ground.textOnly Go.Departure.lateStores }, { on := 16, ground := Go.Ground.textOnly Go.Departure.lateStores }, { on := 17, ground := Go.Ground.phase }], guard := none }, { dst := some 9, op := Go.Op.assign (Go.Operand.tmp 49), type := 3, pos := "code.go:106", after := #[{ on := 16, ground := Go.Ground.data }, { on := 18, ground := Go.Ground.chain }, { on := 0, ground := Go.Ground.phase }, { on := 1, ground := Go.Ground.phase }, { on := 2, ground := Go.Ground.phase }, { on := 3, ground := Go.Ground.phase }, { on := 4, ground := Go.Ground.phase }, { on := 5, ground := Go.Ground.phase }, { on := 6, ground := Go.Ground.phase }, { on := 7, ground := Go.Ground.phase }, { on := 8, ground := Go.Ground.phase }, { on := 9, ground := Go.Ground.phase }, { on := 10, ground := Go.Ground.phase }, { on := 11, ground := Go.Ground.phase }, { on := 12, ground := Go.Ground.phase }, { on := 13, ground := Go.Ground.phase }, { on := 14, ground := Go.Ground.phase }, { on := 15, ground := Go.Ground.phase }, { on := 16, ground := Go.Ground.phase }, { on := 17, ground := Go.Ground.phase }, { on := 18, ground := Go.Ground.phase }], guard := none }]
theorem sb_249_3_0 : softB op_249_3 #[true, true, true, true, true, true, true, true, true, true, true, true, true, true, true, true, true, true, true, true] (Array.replicate 20 false) 0 = true := by kernel_rfl
theorem sb_249_3_1 : softB op_249_3 #[true, true, true, true, true, true, true, true, true, true, true, true, true, true, true, true, true, true, true, true] ((Array.replicate 20 false).setIfInBounds 0 true) 1 = true := by kernel_rfl
theorem sb_249_3_2 : softB op_249_3 #[true, true, true, true, true, true, true, true, true, true, true, true, true, true, true, true, true, true, true, true] (((Array.replicate 20 false).setIfInBounds 0 true).setIfInBounds 1 true) 2 = true := by kernel_rfl
theorem sb_249_3_3 : softB op_249_3 #[true, true, true, true, true, true, true, true, true, true, true, true, true, true, true, true, true, true, true, true] ((((Array.replicate 20 false).setIfInBounds 0 true).setIfInBounds 1 true).setIfInBounds 2 true) 3 = true := by kernel_rfl
theorem sb_249_3_4 : softB op_249_3 #[true, true, true, true, true, true, true, true, true, true, true, true, true, true, true, true, true, true, true, true] (((((Array.replicate 20 false).setIfInBounds 0 true).setIfInBounds 1 true).setIfInBounds 2 true).setIfInBounds 3 true) 4 = true := by kernel_rfl
theorem sb_249_3_5 : softB op_249_3 #[true, true, true, true, true, true, true, true, true, true, true, true, true, true, true, true, true, true, true, true] ((((((Array.replicate 20 false).setIfInBounds 0 true).setIfInBounds 1 true).setIfInBounds 2 true).setIfInBounds 3 true).setIfInBounds 4 true) 5 = true := by kernel_rfl
theorem sb_249_3_6 : softB op_249_3 #[true, true, true, true, true, true, true, true, true, true, true, true, true, true, true, true, true, true, true, true] (((((((Array.replicate 20 false).setIfInBounds 0 true).setIfInBounds 1 true).setIfInBounds 2 true).setIfInBounds 3 true).setIfInBounds 4 true).setIfInBounds 5 true) 6 = true := by kernel_rfl
theorem sb_249_3_7 : softB op_249_3 #[true, true, true, true, true, true, true, true, true, true, true, true, true, true, true, true, true, true, true, true] ((((((((Array.replicate 20 false).setIfInBounds 0 true).setIfInBounds 1 true).setIfInBounds 2 true).setIfInBounds 3 true).setIfInBounds 4 true).setIfInBounds 5 true).setIfInBounds 6 true) 7 = true := by kernel_rfl
theorem sb_249_3_8 : softB op_249_3 #[true, true, true, true, true, true, true, true, true, true, true, true, true, true, true, true, true, true, true, true] (((((((((Array.replicate 20 false).setIfInBounds 0 true).setIfInBounds 1 true).setIfInBounds 2 true).setIfInBounds 3 true).setIfInBounds 4 true).setIfInBounds 5 true).setIfInBounds 6 true).setIfInBounds 7 true) 8 = true := by kernel_rfl
theorem sb_249_3_9 : softB op_249_3 #[true, true, true, true, true, true, true, true, true, true, true, true, true, true, true, true, true, true, true, true] ((((((((((Array.replicate 20 false).setIfInBounds 0 true).setIfInBounds 1 true).setIfInBounds 2 true).setIfInBounds 3 true).setIfInBounds 4 true).setIfInBounds 5 true).setIfInBounds 6 true).setIfInBounds 7 true).setIfInBounds 8 true) 9 = true := by kernel_rfl
theorem sb_249_3_10 : softB op_249_3 #[true, true, true, true, true, true, true, true, true, true, true, true, true, true, true, true, true, true, true, true] (((((((((((Array.replicate 20 false).setIfInBounds 0 true).setIfInBounds 1 true).setIfInBounds 2 true).setIfInBounds 3 true).setIfInBounds 4 true).setIfInBounds 5 true).setIfInBounds 6 true).setIfInBounds 7 true).setIfInBounds 8 true).setIfInBounds 9 true) 10 = true := by kernel_rfl
theorem sb_249_3_11 : softB op_249_3 #[true, true, true, true, true, true, true, true, true, true, true, true, true, true, true, true, true, true, true, true] ((((((((((((Array.replicate 20 false).setIfInBounds 0 true).setIfInBounds 1 true).setIfInBounds 2 true).setIfInBounds 3 true).setIfInBounds 4 true).setIfInBounds 5 true).setIfInBounds 6 true).setIfInBounds 7 true).setIfInBounds 8 true).setIfInBounds 9 true).setIfInBounds 10 true) 11 = true := by kernel_rfl
theorem sb_249_3_12 : softB op_249_3 #[true, true, true, true, true, true, true, true, true, true, true, true, true, true, true, true, true, true, true, true] (((((((((((((Array.replicate 20 false).setIfInBounds 0 true).setIfInBounds 1 true).setIfInBounds 2 true).setIfInBounds 3 true).setIfInBounds 4 true).setIfInBounds 5 true).setIfInBounds 6 true).setIfInBounds 7 true).setIfInBounds 8 true).setIfInBounds 9 true).setIfInBounds 10 true).setIfInBounds 11 true) 12 = true := by kernel_rfl
theorem sb_249_3_13 : softB op_249_3 #[true, true, true, true, true, true, true, true, true, true, true, true, true, true, true, true, true, true, true, true] ((((((((((((((Array.replicate 20 false).setIfInBounds 0 true).setIfInBounds 1 true).setIfInBounds 2 true).setIfInBounds 3 true).setIfInBounds 4 true).setIfInBounds 5 true).setIfInBounds 6 true).setIfInBounds 7 true).setIfInBounds 8 true).setIfInBounds 9 true).setIfInBounds 10 true).setIfInBounds 11 true).setIfInBounds 12 true) 13 = true := by kernel_rfl
theorem sb_249_3_14 : softB op_249_3 #[true, true, true, true, true, true, true, true, true, true, true, true, true, true, true, true, true, true, true, true] (((((((((((((((Array.replicate 20 false).setIfInBounds 0 true).setIfInBounds 1 true).setIfInBounds 2 true).setIfInBounds 3 true).setIfInBounds 4 true).setIfInBounds 5 true).setIfInBounds 6 true).setIfInBounds 7 true).setIfInBounds 8 true).setIfInBounds 9 true).setIfInBounds 10 true).setIfInBounds 11 true).setIfInBounds 12 true).setIfInBounds 13 true) 14 = true := by kernel_rfl
theorem sb_249_3_15 : softB op_249_3 #[true, true, true, true, true, true, true, true, true, true, true, true, true, true, true, true, true, true, true, true] ((((((((((((((((Array.replicate 20 false).setIfInBounds 0 true).setIfInBounds 1 true).setIfInBounds 2 true).setIfInBounds 3 true).setIfInBounds 4 true).setIfInBounds 5 true).setIfInBounds 6 true).setIfInBounds 7 true).setIfInBounds 8 true).setIfInBounds 9 true).setIfInBounds 10 true).setIfInBounds 11 true).setIfInBounds 12 true).setIfInBounds 13 true).setIfInBounds 14 true) 15 = true := by kernel_rfl
theorem sb_249_3_16 : softB op_249_3 #[true, true, true, true, true, true, true, true, true, true, true, true, true, true, true, true, true, true, true, true] (((((((((((((((((Array.replicate 20 false).setIfInBounds 0 true).setIfInBounds 1 true).setIfInBounds 2 true).setIfInBounds 3 true).setIfInBounds 4 true).setIfInBounds 5 true).setIfInBounds 6 true).setIfInBounds 7 true).setIfInBounds 8 true).setIfInBounds 9 true).setIfInBounds 10 true).setIfInBounds 11 true).setIfInBounds 12 true).setIfInBounds 13 true).setIfInBounds 14 true).setIfInBounds 15 true) 16 = true := by kernel_rfl
theorem sb_249_3_17 : softB op_249_3 #[true, true, true, true, true, true, true, true, true, true, true, true, true, true, true, true, true, true, true, true] ((((((((((((((((((Array.replicate 20 false).setIfInBounds 0 true).setIfInBounds 1 true).setIfInBounds 2 true).setIfInBounds 3 true).setIfInBounds 4 true).setIfInBounds 5 true).setIfInBounds 6 true).setIfInBounds 7 true).setIfInBounds 8 true).setIfInBounds 9 true).setIfInBounds 10 true).setIfInBounds 11 true).setIfInBounds 12 true).setIfInBounds 13 true).setIfInBounds 14 true).setIfInBounds 15 true).setIfInBounds 16 true) 17 = true := by kernel_rfl
theorem sb_249_3_18 : softB op_249_3 #[true, true, true, true, true, true, true, true, true, true, true, true, true, true, true, true, true, true, true, true] (((((((((((((((((((Array.replicate 20 false).setIfInBounds 0 true).setIfInBounds 1 true).setIfInBounds 2 true).setIfInBounds 3 true).setIfInBounds 4 true).setIfInBounds 5 true).setIfInBounds 6 true).setIfInBounds 7 true).setIfInBounds 8 true).setIfInBounds 9 true).setIfInBounds 10 true).setIfInBounds 11 true).setIfInBounds 12 true).setIfInBounds 13 true).setIfInBounds 14 true).setIfInBounds 15 true).setIfInBounds 16 true).setIfInBounds 17 true) 18 = true := by kernel_rfl
theorem sb_249_3_19 : softB op_249_3 #[true, true, true, true, true, true, true, true, true, true, true, true, true, true, true, true, true, true, true, true] ((((((((((((((((((((Array.replicate 20 false).setIfInBounds 0 true).setIfInBounds 1 true).setIfInBounds 2 true).setIfInBounds 3 true).setIfInBounds 4 true).setIfInBounds 5 true).setIfInBounds 6 true).setIfInBounds 7 true).setIfInBounds 8 true).setIfInBounds 9 true).setIfInBounds 10 true).setIfInBounds 11 true).setIfInBounds 12 true).setIfInBounds 13 true).setIfInBounds 14 true).setIfInBounds 15 true).setIfInBounds 16 true).setIfInBounds 17 true).setIfInBounds 18 true) 19 = true := by kernel_rfl
theorem sb_249_3_20 : hardB op_249_3 (((((((((((((((((((((Array.replicate 20 false).setIfInBounds 0 true).setIfInBounds 1 true).setIfInBounds 2 true).setIfInBounds 3 true).setIfInBounds 4 true).setIfInBounds 5 true).setIfInBounds 6 true).setIfInBounds 7 true).setIfInBounds 8 true).setIfInBounds 9 true).setIfInBounds 10 true).setIfInBounds 11 true).setIfInBounds 12 true).setIfInBounds 13 true).setIfInBounds 14 true).setIfInBounds 15 true).setIfInBounds 16 true).setIfInBounds 17 true).setIfInBounds 18 true).setIfInBounds 19 true) [] = true := by kernel_rfl
/- (*graph.Graph).readRefs -/
def m249_w1 (n : Nat) (g : Graph) (d : (List UInt8)) (x3 : UInt8) (mm : Nat) : Int → Int → ((Int → Brn)) → Option (Flow (Graph) (Int × Int × ((Int → Brn)))) := it3 (fun lp1 c4 c5 z4 =>
cond (decide (c5 < (x3.toNat : Int))) (
ob3 (m289 n d c4) fun c8 c9 c10 =>
ob1 (cond (!c10) (some (true)) (cond (decide ((d.length : Int) ≤ c9)) (some (true)) (Option.bind (ixL d c9) fun x4 =>
some ((decide ((48 : Int) < (x4.toNat : Int))))))) fun c11 =>
cond c11 (
Option.bind (some g) fun q2 => some (.ret q2)) (
Option.bind (ixL d c9) fun x5 =>
Option.bind (ckA c5 4) fun _ =>
nm ((upI z4 c5 ({ name := c8, id := (x5.toNat : Int) } : Brn)) : (Int → Brn)) fun z8 =>
lp1 (wi (c9 + 1)) (wi (c5 + 1)) z8)) (
some (.nx (c4, c5, z4)))) mm
def m249 (n : Nat) (g : Graph) (d : (List UInt8)) : Option (Graph) :=
cond (decide ((d.length : Int) < 9)) (
some g) (
ob3 (m289 n d 9) fun c1 c2 c3 =>
cond ((!c3) || (decide ((wi ((d.length : Int) - c2)) < 3))) (
some g) (
Option.bind (ixL d c2) fun x1 =>
Option.bind (ixL d (wi (c2 + 1))) fun x2 =>
Option.bind (ixL d (wi (c2 + 2))) fun x3 =>
cond (((decide ((48 : Int) < (x1.toNat : Int))) || (decide ((48 : Int) < (x2.toNat : Int)))) || (decide ((4 : Int) < (x3.toNat : Int)))) (
some g) (
flow (m249_w1 n g d x3 n (wi (c2 + 3)) 0 (fun _ => Brn.zero)) some (un3 fun c6 c7 z5 =>
ob1 (m278 n d) fun c12 =>
nm ({ g with nxt := c12 } : Graph) fun z9 =>
Option.bind (ixL d 8) fun x6 =>
nm ({ z9 with aux := (x6.toNat : Int) } : Graph) fun z11 =>
nm ({ z11 with name := c1 } : Graph) fun z12 =>
nm ({ z12 with at_ := (x1.toNat : Int) } : Graph) fun z13 =>
nm ({ z13 with merge := (x2.toNat : Int) } : Graph) fun z14 =>
nm ({ z14 with br := z5 } : Graph) fun z15 =>
nm ({ z15 with nb := (x3.toNat : Int) } : Graph) fun z16 =>
some z16))))
theorem t249 {n : Nat} {C : List Chunk} {rz1 : Graph} {b1 : Nat} {g : Graph} {q1 : Option Addr} {v1 : Value} {d : (List UInt8)} (hr1 : Rd rByte C v1 d)  (hm : m249 n g d = some rz1) : Trip Tryz.prog 249 #[.pointer (some ⟨b1, 0, none⟩), v1] ([[(b1, .cells (Graph.enc ((.pointer q1)) g).toArray 179 (0, 0))]] ++ [C]) (fun u S' => .tuple #[] = u ∧ S' = [[(b1, .cells (Graph.enc ((.pointer q1)) rz1).toArray 179 (0, 0))]] ++ [C]) := by
  refine fn_entry (args := [.pointer (some ⟨b1, 0, none⟩), v1]) Tryz.func249 rfl Tryz.ntmps249 rfl (fun w0 => ?_)
  refine c_seq ?_
  refine c_seq ?_
  refine c_region ?_
  refine o_T (y_move rfl) rfl ?_
  refine o_T (y_lenR hr1 Tryz.underlying81 rfl) rfl ?_
  refine o_T (y_lss rfl rfl) rfl ?_
  refine o_nil1 17 rfl rfl ?_
  refine c_cond rfl (fun h1 => ?_) (fun h1 => ?_)
  · have hm := cd_t h1 hm
    refine c_ret ?_
    obtain rfl := p1 hm
    refine fun aX wX heX hsX => ret0 Tryz.results249 (s_take (s_take s_nil)) ?_
    exact ⟨rfl, rfl⟩
  · have hm := cd_f h1 hm
    refine c_skip ?_
    refine c_seq ?_
    refine c_region ?_
    refine o_T (y_move rfl) rfl ?_
    obtain ⟨c1, c2, c3, hx1, hm⟩ := bd3 hm
    refine o_callC en_289 rfl s_nil (t289 (hr1.mono (fun _ hz => (ms (mg hz)))) hx1) rfl (fun u1 S1 hR1 => ?_)
    obtain ⟨rfl, rfl⟩ := hR1
    refine o_rest ?_
    refine o_T (y_move rfl) rfl ?_
    refine o_T (y_extract rfl rfl) rfl ?_
    refine o_T (y_extract rfl rfl) rfl ?_
    refine o_T (y_extract rfl rfl) rfl ?_
    refine o_L (y_assign rfl) rfl rfl ?_
    refine o_L (y_assign rfl) rfl rfl ?_
    refine o_L (y_assign rfl) rfl rfl ?_
    refine o_nil0 rfl ?_
    refine c_seq ?_
    refine c_seq ?_
    refine c_joinP (n := 0) (fun sh G => sh = [(32, .bool ((!c3) || (decide ((wi ((d.length : Int) - c2)) < 3))))] ∧ G = []) Sel.all' .z (fun _ _ h => h) ?_ ?_
    · skip
      refine c_region ?_
      refine o_T (y_move rfl) rfl ?_
      refine o_T (y_not rfl) rfl ?_
      refine o_T (y_move rfl) rfl ?_
      refine o_split 26 rfl (fun h2 => ?_) (fun h2 => ?_)
      · skip
        refine o_pass rfl rfl rfl rfl rfl ?_
        refine o_pass rfl rfl rfl rfl rfl ?_
        refine o_pass rfl rfl rfl rfl rfl ?_
        refine o_pass rfl rfl rfl rfl rfl ?_
        refine o_pass rfl rfl rfl rfl rfl ?_
        refine o_T (y_pickT rfl rfl) rfl ?_
        refine o_nil1 32 rfl rfl ?_
        refine ⟨_, _, ⟨rfl, rfl⟩, ⟨by first | rfl | exact gtb rfl (by simp only [h2, Bool.true_and, Bool.false_and, Bool.true_or, Bool.false_or, Bool.and_true, Bool.and_false, Bool.or_true, Bool.or_false, Bool.not_true, Bool.not_false]), trivial⟩, ⟨rfl, rfl⟩, _, (s_take (s_take s_nil))⟩
      · skip
        refine o_take rfl rfl rfl ?_
        refine o_T (y_move rfl) rfl ?_
        refine o_take rfl rfl rfl ?_
        refine o_T (y_lenR hr1 Tryz.underlying81 rfl) rfl ?_
        refine o_take rfl rfl rfl ?_
        refine o_T (y_move rfl) rfl ?_
        refine o_take rfl rfl rfl ?_
        refine o_T (y_sub rfl rfl rfl) rfl ?_
        refine o_take rfl rfl rfl ?_
        refine o_T (y_lss rfl rfl) rfl ?_
        refine o_T (y_pickF rfl rfl) rfl ?_
        refine o_nil1 32 rfl rfl ?_
        refine ⟨_, _, ⟨rfl, rfl⟩, ⟨by first | rfl | exact gtb rfl (by simp only [h2, Bool.true_and, Bool.false_and, Bool.true_or, Bool.false_or, Bool.and_true, Bool.and_false, Bool.or_true, Bool.or_false, Bool.not_true, Bool.not_false]), trivial⟩, ⟨rfl, rfl⟩, _, (s_take (s_take s_nil))⟩
    · rintro sh G ⟨rfl, rfl⟩
      refine c_cond rfl (fun h3 => ?_) (fun h3 => ?_)
      · have hm := cd_t h3 hm
        refine c_ret ?_
        obtain rfl := p1 hm
        refine fun aX wX heX hsX => ret0 Tryz.results249 (s_take (s_take s_nil)) ?_
        exact ⟨rfl, rfl⟩
      · have hm := cd_f h3 hm
        refine c_skip ?_
        refine c_seq ?_
        refine c_draw #[true, true, true, true, true, true, true, true, true, true, true, true, true, true, true, true, true, true, true, true] rfl (n := 20) rfl ?_
        refine d_T 0 rfl sb_249_3_0 rfl (y_move rfl) rfl ?_
        refine d_T 1 rfl sb_249_3_1 rfl (y_move rfl) rfl ?_
        obtain ⟨x1, hx2, hm⟩ := bd hm
        obtain ⟨b2, w1, cs1, y1, z1, vs1, hc1, ha1, hr2, hy1⟩ := hr1.ix hx2
        obtain rfl : vs1 = (enc8 x1) := hr2
        refine d_T 2 rfl sb_249_3_2 rfl (hy1 sl_81 rfl rfl rfl) rfl ?_
        refine d_ld 3 rfl sb_249_3_3 one_5 rfl (fun x hx => hx) (ms (mg hc1)) (At.getA (ha1)) rfl ?_
        refine d_cv 4 rfl sb_249_3_4 (fun x hx => hx) (y_conv Tryz.underlying5 Tryz.underlying3 rfl (wbi _)) rfl ?_
        refine d_T 5 rfl sb_249_3_5 rfl (y_move rfl) rfl ?_
        refine d_T 6 rfl sb_249_3_6 rfl (y_move rfl) rfl ?_
        refine d_T 7 rfl sb_249_3_7 rfl (y_add rfl rfl rfl) rfl ?_
        obtain ⟨x2, hx3, hm⟩ := bd hm
        obtain ⟨b3, w2, cs2, y2, z2, vs2, hc2, ha2, hr3, hy2⟩ := hr1.ix hx3
        obtain rfl : vs2 = (enc8 x2) := hr3
        refine d_T 8 rfl sb_249_3_8 rfl (hy2 sl_81 rfl rfl rfl) rfl ?_
        refine d_ld 9 rfl sb_249_3_9 one_5 rfl (fun x hx => hx) (ms (mg hc2)) (At.getA (ha2)) rfl ?_
        refine d_cv 10 rfl sb_249_3_10 (fun x hx => hx) (y_conv Tryz.underlying5 Tryz.underlying3 rfl (wbi _)) rfl ?_
        refine d_T 11 rfl sb_249_3_11 rfl (y_move rfl) rfl ?_
        refine d_T 12 rfl sb_249_3_12 rfl (y_move rfl) rfl ?_
        refine d_T 13 rfl sb_249_3_13 rfl (y_add rfl rfl rfl) rfl ?_
        obtain ⟨x3, hx4, hm⟩ := bd hm
        obtain ⟨b4, w3, cs3, y3, z3, vs3, hc3, ha3, hr4, hy3⟩ := hr1.ix hx4
        obtain rfl : vs3 = (enc8 x3) := hr4
        refine d_T 14 rfl sb_249_3_14 rfl (hy3 sl_81 rfl rfl rfl) rfl ?_
        refine d_ld 15 rfl sb_249_3_15 one_5 rfl (fun x hx => hx) (ms (mg hc3)) (At.getA (ha3)) rfl ?_
        refine d_cv 16 rfl sb_249_3_16 (fun x hx => hx) (y_conv Tryz.underlying5 Tryz.underlying3 rfl (wbi _)) rfl ?_
        refine d_L 17 rfl sb_249_3_17 rfl (y_assign rfl) rfl rfl ?_
        refine d_L 18 rfl sb_249_3_18 rfl (y_assign rfl) rfl rfl ?_
        refine d_L 19 rfl sb_249_3_19 rfl (y_assign rfl) rfl rfl ?_
        refine d_nil0 sb_249_3_20 rfl ?_
        refine c_seq ?_
        refine c_seq ?_
        refine c_joinP (n := 0) (fun sh G => sh = [(59, .bool (((decide ((48 : Int) < (x1.toNat : Int))) || (decide ((48 : Int) < (x2.toNat : Int)))) || (decide ((4 : Int) < (x3.toNat : Int)))))] ∧ G = []) Sel.all' .z (fun _ _ h => h) ?_ ?_
        · skip
          refine c_region ?_
          refine o_T (y_move rfl) rfl ?_
          refine o_T (y_gtr rfl rfl) rfl ?_
          refine o_T (y_move rfl) rfl ?_
          refine o_split 52 rfl (fun h4 => ?_) (fun h4 => ?_)
          · skip
            refine o_pass rfl rfl rfl rfl rfl ?_
            refine o_pass rfl rfl rfl rfl rfl ?_
            refine o_T (y_pickT rfl rfl) rfl ?_
            refine o_T (y_move rfl) rfl ?_
            refine o_pass rfl rfl rfl rfl rfl ?_
            refine o_pass rfl rfl rfl rfl rfl ?_
            refine o_T (y_pickT rfl rfl) rfl ?_
            refine o_nil1 59 rfl rfl ?_
            refine ⟨_, _, ⟨rfl, rfl⟩, ⟨by first | rfl | exact gtb rfl (by simp only [h4, Bool.true_and, Bool.false_and, Bool.true_or, Bool.false_or, Bool.and_true, Bool.and_false, Bool.or_true, Bool.or_false, Bool.not_true, Bool.not_false]), trivial⟩, ⟨rfl, rfl⟩, _, (s_take (s_take s_nil))⟩
          · skip
            refine o_take rfl rfl rfl ?_
            refine o_T (y_move rfl) rfl ?_
            refine o_take rfl rfl rfl ?_
            refine o_T (y_gtr rfl rfl) rfl ?_
            refine o_T (y_pickF rfl rfl) rfl ?_
            refine o_T (y_move rfl) rfl ?_
            refine o_split 56 rfl (fun h5 => ?_) (fun h5 => ?_)
            · skip
              refine o_pass rfl rfl rfl rfl rfl ?_
              refine o_pass rfl rfl rfl rfl rfl ?_
              refine o_T (y_pickT rfl rfl) rfl ?_
              refine o_nil1 59 rfl rfl ?_
              refine ⟨_, _, ⟨rfl, rfl⟩, ⟨by first | rfl | exact gtb rfl (by simp only [h4, h5, Bool.true_and, Bool.false_and, Bool.true_or, Bool.false_or, Bool.and_true, Bool.and_false, Bool.or_true, Bool.or_false, Bool.not_true, Bool.not_false]), trivial⟩, ⟨rfl, rfl⟩, _, (s_take (s_take s_nil))⟩
            · skip
              refine o_take rfl rfl rfl ?_
              refine o_T (y_move rfl) rfl ?_
              refine o_take rfl rfl rfl ?_
              refine o_T (y_gtr rfl rfl) rfl ?_
              refine o_T (y_pickF rfl rfl) rfl ?_
              refine o_nil1 59 rfl rfl ?_
              refine ⟨_, _, ⟨rfl, rfl⟩, ⟨by first | rfl | exact gtb rfl (by simp only [h4, h5, Bool.true_and, Bool.false_and, Bool.true_or, Bool.false_or, Bool.and_true, Bool.and_false, Bool.or_true, Bool.or_false, Bool.not_true, Bool.not_false]), trivial⟩, ⟨rfl, rfl⟩, _, (s_take (s_take s_nil))⟩
        · rintro sh G ⟨rfl, rfl⟩
          refine c_cond rfl (fun h6 => ?_) (fun h6 => ?_)
          · have hm := cd_t h6 hm
            refine c_ret ?_
            obtain rfl := p1 hm
            refine fun aX wX heX hsX => ret0 Tryz.results249 (s_take (s_take s_nil)) ?_
            exact ⟨rfl, rfl⟩
          · have hm := cd_f h6 hm
            refine c_skip ?_
            refine c_seq ?_
            refine c_region ?_
            refine o_T (y_move rfl) rfl ?_
            refine o_T (y_add rfl rfl rfl) rfl ?_
            refine o_L (y_assign rfl) rfl rfl ?_
            refine o_nil0 rfl ?_
            refine c_seq ?_
            refine c_region ?_
            refine o_alloc ze_177 rfl rfl (fun b5 => ?_)
            refine o_nil0 rfl ?_
            refine c_seq ?_
            refine c_seq ?_
            refine c_region ?_
            refine o_L (y_assign rfl) rfl rfl ?_
            refine o_nil0 rfl ?_
            obtain ⟨f1, F1, hF1, hj1, hF2⟩ := fl2 hm
            refine c_joinP (n := 1) (fun sh G => ∃ (c6 : Int), ∃ (c7 : Int), ∃ (z5 : (Int → Brn)), sh = [(5, .int .i64 c6), (11, .int .i64 c7)] ∧ G = [[(b5, .cells (encN Brn.enc z5 4).toArray 177 (0, 0))]] ∧ F1 (c6, c7, z5) = some rz1) (s_take (s_take (s_take s_nil))) (.s .z) (fun _ _ h => h) ?_ ?_
            · skip
              refine c_block ?_
              refine c_loopP (n := 1) (fun mm sh G => ∃ (c4 : Int), ∃ (c5 : Int), ∃ (z4 : (Int → Brn)), sh = [(5, .int .i64 c4), (11, .int .i64 c5)] ∧ G = [[(b5, .cells (encN Brn.enc z4 4).toArray 177 (0, 0))]] ∧ m249_w1 n g d x3 mm c4 c5 z4 = some f1) n (s_take (s_take (s_take s_nil))) (.s .z) ⟨_, _, ⟨_, _, _, rfl, rfl, hj1⟩, ⟨rfl, rfl, trivial⟩, _, (s_take (s_take (s_take s_nil)))⟩ ?_
              rintro mm sh G ⟨c4, c5, z4, rfl, rfl, hm⟩
              obtain ⟨mm1, rfl, hm⟩ := it3_s hm
              refine c_seq ?_
              refine c_seq ?_
              refine c_region ?_
              refine o_T (y_move rfl) rfl ?_
              refine o_T (y_move rfl) rfl ?_
              refine o_T (y_lss rfl rfl) rfl ?_
              refine o_nil1 64 rfl rfl ?_
              refine c_cond rfl (fun h7 => ?_) (fun h7 => ?_)
              · have hm := cd_t h7 hm
                refine c_skip ?_
                refine c_seq ?_
                refine c_block ?_
                refine c_seq ?_
                refine c_region ?_
                refine o_T (y_move rfl) rfl ?_
                refine o_T (y_move rfl) rfl ?_
                obtain ⟨c8, c9, c10, hx5, hm⟩ := bd3 hm
                refine o_callC en_289 rfl s_nil (t289 (hr1.mono (fun _ hz => (ms (ms (mg hz))))) hx5) rfl (fun u2 S2 hR2 => ?_)
                obtain ⟨rfl, rfl⟩ := hR2
                refine o_rest ?_
                refine o_T (y_move rfl) rfl ?_
                refine o_T (y_extract rfl rfl) rfl ?_
                refine o_T (y_extract rfl rfl) rfl ?_
                refine o_T (y_extract rfl rfl) rfl ?_
                refine o_L (y_assign rfl) rfl rfl ?_
                refine o_L (y_assign rfl) rfl rfl ?_
                refine o_L (y_assign rfl) rfl rfl ?_
                refine o_nil0 rfl ?_
                refine c_seq ?_
                refine c_seq ?_
                obtain ⟨c11, hj2, hm⟩ := bd1 hm
                refine c_joinP (n := 0) (fun sh G => sh = [(89, .bool c11)] ∧ G = []) Sel.all' .z (fun _ _ h => h) ?_ ?_
                · have hm := hj2
                  refine c_region ?_
                  refine o_T (y_move rfl) rfl ?_
                  refine o_T (y_not rfl) rfl ?_
                  refine o_T (y_move rfl) rfl ?_
                  refine o_split 76 rfl (fun h8 => ?_) (fun h8 => ?_)
                  · have hm := cd_t h8 hm
                    refine o_pass rfl rfl rfl rfl rfl ?_
                    refine o_pass rfl rfl rfl rfl rfl ?_
                    refine o_pass rfl rfl rfl rfl rfl ?_
                    refine o_pass rfl rfl rfl rfl rfl ?_
                    refine o_T (y_pickT rfl rfl) rfl ?_
                    refine o_T (y_move rfl) rfl ?_
                    refine o_pass rfl rfl rfl rfl rfl ?_
                    refine o_pass rfl rfl rfl rfl rfl ?_
                    refine o_pass rfl rfl rfl rfl rfl ?_
                    refine o_pass rfl rfl rfl rfl rfl ?_
                    refine o_pass rfl rfl rfl rfl rfl ?_
                    refine o_pass rfl rfl rfl rfl rfl ?_
                    refine o_T (y_pickT rfl rfl) rfl ?_
                    refine o_nil1 89 rfl rfl ?_
                    obtain rfl := p1 hm
                    exact ⟨_, _, ⟨rfl, rfl⟩, ⟨rfl, trivial⟩, ⟨rfl, rfl⟩, _, (s_take (s_take (s_take s_nil)))⟩
                  · have hm := cd_f h8 hm
                    refine o_take rfl rfl rfl ?_
                    refine o_T (y_move rfl) rfl ?_
                    refine o_take rfl rfl rfl ?_
                    refine o_T (y_move rfl) rfl ?_
                    refine o_take rfl rfl rfl ?_
                    refine o_T (y_lenR hr1 Tryz.underlying81 rfl) rfl ?_
                    refine o_take rfl rfl rfl ?_
                    refine o_T (y_geq rfl rfl) rfl ?_
                    refine o_T (y_pickF rfl rfl) rfl ?_
                    refine o_T (y_move rfl) rfl ?_
                    refine o_split 82 rfl (fun h9 => ?_) (fun h9 => ?_)
                    · have hm := cd_t h9 hm
                      refine o_pass rfl rfl rfl rfl rfl ?_
                      refine o_pass rfl rfl rfl rfl rfl ?_
                      refine o_pass rfl rfl rfl rfl rfl ?_
                      refine o_pass rfl rfl rfl rfl rfl ?_
                      refine o_pass rfl rfl rfl rfl rfl ?_
                      refine o_pass rfl rfl rfl rfl rfl ?_
                      refine o_T (y_pickT rfl rfl) rfl ?_
                      refine o_nil1 89 rfl rfl ?_
                      obtain rfl := p1 hm
                      exact ⟨_, _, ⟨rfl, rfl⟩, ⟨rfl, trivial⟩, ⟨rfl, rfl⟩, _, (s_take (s_take (s_take s_nil)))⟩
                    · have hm := cd_f h9 hm
                      refine o_take rfl rfl rfl ?_
                      refine o_T (y_move rfl) rfl ?_
                      refine o_take rfl rfl rfl ?_
                      refine o_T (y_move rfl) rfl ?_
                      refine o_take rfl rfl rfl ?_
                      obtain ⟨x4, hx6, hm⟩ := bd hm
                      obtain ⟨b6, w4, cs4, y4, z6, vs4, hc4, ha4, hr5, hy4⟩ := hr1.ix hx6
                      obtain rfl : vs4 = (enc8 x4) := hr5
                      refine o_T (hy4 sl_81 rfl rfl rfl) rfl ?_
                      refine o_take rfl rfl rfl ?_
                      refine o_ld one_5 rfl (ms (ms (mg hc4))) (At.getA (ha4)) rfl ?_
                      refine o_take rfl rfl rfl ?_
                      refine o_T (y_conv Tryz.underlying5 Tryz.underlying3 rfl (wbi _)) rfl ?_
                      refine o_take rfl rfl rfl ?_
                      refine o_T (y_gtr rfl rfl) rfl ?_
                      refine o_T (y_pickF rfl rfl) rfl ?_
                      refine o_nil1 89 rfl rfl ?_
                      obtain rfl := p1 hm
                      exact ⟨_, _, ⟨rfl, rfl⟩, ⟨rfl, trivial⟩, ⟨rfl, rfl⟩, _, (s_take (s_take (s_take s_nil)))⟩
                · rintro sh G ⟨rfl, rfl⟩
                  refine c_cond rfl (fun h10 => ?_) (fun h10 => ?_)
                  · have hm := cd_t h10 hm
                    refine c_ret ?_
                    obtain ⟨q2, hq1, hm⟩ := bd hm
                    have hm := fl_ret hm hF2
                    have hm := hq1.trans hm
                    obtain rfl := p1 hm
                    refine fun aX wX heX hsX => ret0 Tryz.results249 (s_skip (s_take (s_take s_nil))) ?_
                    exact ⟨rfl, rfl⟩
                  · have hm := cd_f h10 hm
                    refine c_skip ?_
                    refine c_seq ?_
                    refine c_region ?_
                    refine o_T (y_move rfl) rfl ?_
                    refine o_T (y_move rfl) rfl ?_
                    refine o_T (y_move rfl) rfl ?_
                    refine o_T (y_move rfl) rfl ?_
                    obtain ⟨x5, hx7, hm⟩ := bd hm
                    obtain ⟨b7, w5, cs5, y5, z7, vs5, hc5, ha5, hr6, hy5⟩ := hr1.ix hx7
                    obtain rfl : vs5 = (enc8 x5) := hr6
                    refine o_T (hy5 sl_81 rfl rfl rfl) rfl ?_
                    refine o_ld one_5 rfl (ms (ms (mg hc5))) (At.getA (ha5)) rfl ?_
                    refine o_T (y_conv Tryz.underlying5 Tryz.underlying3 rfl (wbi _)) rfl ?_
                    refine o_T (y_build st_176 rfl (fbU rfl Brn.u_name rfl rfl (fbU rfl Brn.u_id rfl rfl fbU0))) rfl ?_
                    obtain ⟨_, hx8, hm⟩ := bd hm
                    have hx8 := ckA_some hx8
                    refine o_T (y_ia ar_177 rfl rfl hx8.1 hx8.2) rfl ?_
                    obtain ⟨z8, hn1, hm⟩ := nm_s hm
                    refine o_stNA ag_176 rfl rfl (Brn.plain _) (Brn.len _) (Upd.z (encN_u Brn.len _ _ _ hx8.1 _ hx8.2)) r0 (show (encN Brn.enc z8 4) = _ from by subst hn1; rfl) ?_
                    refine o_nil0 rfl ?_
                    refine c_region ?_
                    refine o_T (y_move rfl) rfl ?_
                    refine o_T (y_add rfl rfl rfl) rfl ?_
                    refine o_L (y_assign rfl) rfl rfl ?_
                    refine o_nil0 rfl ?_
                    refine c_region ?_
                    refine o_T (y_move rfl) rfl ?_
                    refine o_T (y_add rfl rfl rfl) rfl ?_
                    refine o_L (y_assign rfl) rfl rfl ?_
                    refine o_nil0 rfl ?_
                    exact ⟨mm1, Nat.lt_succ_self _, _, _, ⟨_, _, _, rfl, rfl, hm⟩, ⟨rfl, rfl, trivial⟩, ⟨rfl, rfl⟩, _, (s_take (s_take (s_take s_nil)))⟩
              · have hm := cd_f h7 hm
                refine c_exit ?_
                have hm := fl_nx hm hF2
                exact ⟨_, _, ⟨_, _, _, rfl, rfl, hm⟩, ⟨rfl, rfl, trivial⟩, ⟨rfl, rfl⟩, _, (s_take (s_take (s_take s_nil)))⟩
            · rintro sh G ⟨c6, c7, z5, rfl, rfl, hm⟩
              subst hF1
              refine c_seq ?_
              refine c_region ?_
              refine o_T (y_move rfl) rfl ?_
              refine o_T (y_move rfl) rfl ?_
              obtain ⟨c12, hx9, hm⟩ := bd1 hm
              refine o_callC en_278 rfl s_nil (t278 (hr1.mono (fun _ hz => (ms (ms (mg hz))))) hx9) rfl (fun u3 S3 hR3 => ?_)
              obtain ⟨rfl, rfl⟩ := hR3
              refine o_rest ?_
              refine o_T (y_nilck rfl) rfl ?_
              refine o_T (y_fa fl_179_10 rfl) rfl ?_
              obtain ⟨z9, hn2, hm⟩ := nm_s hm
              refine o_stN one_3 rfl rfl rfl (Upd.z Graph.u_nxt) (rs r0) (show (Graph.enc ((.pointer q1)) z9) = _ from by subst hn2; rfl) ?_
              refine o_nil0 rfl ?_
              refine c_seq ?_
              refine c_region ?_
              refine o_T (y_move rfl) rfl ?_
              refine o_T (y_move rfl) rfl ?_
              obtain ⟨x6, hx10, hm⟩ := bd hm
              obtain ⟨b8, w6, cs6, y6, z10, vs6, hc6, ha6, hr7, hy6⟩ := hr1.ix hx10
              obtain rfl : vs6 = (enc8 x6) := hr7
              refine o_T (hy6 sl_81 rfl rfl rfl) rfl ?_
              refine o_ld one_5 rfl (ms (ms (mg hc6))) (At.getA (ha6)) rfl ?_
              refine o_T (y_conv Tryz.underlying5 Tryz.underlying3 rfl (wbi _)) rfl ?_
              refine o_T (y_nilck rfl) rfl ?_
              refine o_T (y_fa fl_179_9 rfl) rfl ?_
              obtain ⟨z11, hn3, hm⟩ := nm_s hm
              refine o_stN one_3 rfl rfl rfl (Upd.z Graph.u_aux) (rs r0) (show (Graph.enc ((.pointer q1)) z11) = _ from by subst hn3; rfl) ?_
              refine o_nil0 rfl ?_
              refine c_seq ?_
              refine c_region ?_
              refine o_T (y_move rfl) rfl ?_
              refine o_T (y_move rfl) rfl ?_
              refine o_T (y_nilck rfl) rfl ?_
              refine o_T (y_fa fl_179_6 rfl) rfl ?_
              obtain ⟨z12, hn4, hm⟩ := nm_s hm
              refine o_stN one_9 rfl rfl rfl (Upd.z Graph.u_name) (rs r0) (show (Graph.enc ((.pointer q1)) z12) = _ from by subst hn4; rfl) ?_
              refine o_nil0 rfl ?_
              refine c_seq ?_
              refine c_region ?_
              refine o_T (y_move rfl) rfl ?_
              refine o_T (y_move rfl) rfl ?_
              refine o_T (y_nilck rfl) rfl ?_
              refine o_T (y_fa fl_179_7 rfl) rfl ?_
              obtain ⟨z13, hn5, hm⟩ := nm_s hm
              refine o_stN one_3 rfl rfl rfl (Upd.z Graph.u_at_) (rs r0) (show (Graph.enc ((.pointer q1)) z13) = _ from by subst hn5; rfl) ?_
              refine o_nil0 rfl ?_
              refine c_seq ?_
              refine c_region ?_
              refine o_T (y_move rfl) rfl ?_
              refine o_T (y_move rfl) rfl ?_
              refine o_T (y_nilck rfl) rfl ?_
              refine o_T (y_fa fl_179_8 rfl) rfl ?_
              obtain ⟨z14, hn6, hm⟩ := nm_s hm
              refine o_stN one_3 rfl rfl rfl (Upd.z Graph.u_merge) (rs r0) (show (Graph.enc ((.pointer q1)) z14) = _ from by subst hn6; rfl) ?_
              refine o_nil0 rfl ?_
              refine c_seq ?_
              refine c_region ?_
              refine o_T (y_move rfl) rfl ?_
              refine o_lda ag_177 rfl m0 (At.exs At.refl (encN_len Brn.len _ _)) (At.fits At.refl (encN_len Brn.len _ _)) rfl ?_
              refine o_T (y_nilck rfl) rfl ?_
              refine o_T (y_fa fl_179_4 rfl) rfl ?_
              obtain ⟨z15, hn7, hm⟩ := nm_s hm
              refine o_stNA ag_177 rfl rfl (encN_plain Brn.plain _ _) (encN_len Brn.len _ _) (Upd.z Graph.u_br) (rs r0) (show (Graph.enc ((.pointer q1)) z15) = _ from by subst hn7; rfl) ?_
              refine o_nil0 rfl ?_
              refine c_region ?_
              refine o_T (y_move rfl) rfl ?_
              refine o_T (y_move rfl) rfl ?_
              refine o_T (y_nilck rfl) rfl ?_
              refine o_T (y_fa fl_179_5 rfl) rfl ?_
              obtain ⟨z16, hn8, hm⟩ := nm_s hm
              refine o_stN one_3 rfl rfl rfl (Upd.z Graph.u_nb) (rs r0) (show (Graph.enc ((.pointer q1)) z16) = _ from by subst hn8; rfl) ?_
              refine o_nil0 rfl ?_
              obtain rfl := p1 hm
              refine fun aX wX heX hsX => ret0 Tryz.results249 (s_skip (s_take (s_take s_nil))) ?_
              exact ⟨rfl, rfl⟩
end Go.Proofs.Qxb6500350aGreat
