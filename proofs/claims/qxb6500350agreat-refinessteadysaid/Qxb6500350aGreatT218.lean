/- MADE BY PROGRAM (tools350/mir.py): mirror and walk. -/
import Derived.Test.Qxb6500350aGreatF2
set_option linter.unusedVariables false
set_option linter.unusedSimpArgs false
set_option maxRecDepth 20000
set_option maxHeartbeats 4000000
namespace Go.Proofs.Qxb6500350aGreat
open Go.Eng

def op_218_4 : Array Go.Oper := #[{ dst := some 26, op := Go.Op.move (Go.Operand.tmp 6), type := 3, pos := "refs.go:13", after := #[], guard := none }, { dst := some 27, op := Go.Op.move (Go.Operand.tmp 6), type := 3, pos := "refs.go:13", after := #[], guard := none }, { dst := some 28, op := Go.Op.move (Go.Operand.tmp 0), type := 30, pos := "refs.go:13", after := #[], guard := none }, { dst := some 29, op := Go.Op.nilCheck (Go.Operand.tmp 28), type := 0, pos := "refs.go:13", after := #[{ on := 2, ground := Go.Ground.data }], guard := none }, { dst := some 30, op := Go.Op.fieldAddr 179 (Go.Operand.tmp 29) 5, type := 0, pos := "refs.go:13", after := #[{ on := 3, ground := Go.Ground.data }], guard := none }, { dst := some 31, op := Go.Op.load 3 (Go.Operand.tmp 30), type := 3, pos := "refs.go:13", after := #[{ on := 4, ground := Go.Ground.data }], guard := none }, { dst := some 32, op := Go.Op.binOp Go.BinOp.lss 3 (Go.Operand.tmp 27) (Go.Operand.tmp 31) 3, type := 4, pos := "refs.go:13", after := #[{ on := 1, ground := Go.Ground.data }, { on := 5, ground := Go.Ground.data }], guard := none }, { dst := some 33, op := Go.Op.move (Go.Operand.tmp 32), type := 4, pos := "refs.go:13", after := #[{ on := 6, ground := Go.Ground.data }], guard := none }, { dst := some 34, op := Go.Op.move (Go.Operand.tmp 0), type := 30, pos := "refs.go:13", after := #[{ on := 7, ground := Go.Ground.guard }, { on := 18, ground := Go.Ground.gcOnly Go.Departure.lateStores }], guard := some (7, true) }, { dst := some 35, op := Go.Op.move (Go.Operand.tmp 6), type := 3, pos := "refs.go:13", after := #[{ on := 7, ground := Go.Ground.guard }, { on := 18, ground := Go.Ground.gcOnly Go.Departure.lateStores }], guard := some (7, true) }, { dst := some 36, op := Go.Op.nilCheck (Go.Operand.tmp 34), type := 0, pos := "refs.go:13", after := #[{ on := 8, ground := Go.Ground.data }, { on := 7, ground := Go.Ground.guard }, { on := 18, ground := Go.Ground.gcOnly Go.Departure.lateStores }], guard := some (7, true) }, { dst := some 37, op := Go.Op.fieldAddr 179 (Go.Operand.tmp 36) 4, type := 0, pos := "refs.go:13", after := #[{ on := 10, ground := Go.Ground.data }, { on := 7, ground := Go.Ground.guard }, { on := 18, ground := Go.Ground.gcOnly Go.Departure.lateStores }], guard := some (7, true) }, { dst := some 38, op := Go.Op.indexAddr 177 (Go.Operand.tmp 37) (Go.Operand.tmp 35), type := 0, pos := "refs.go:13", after := #[{ on := 11, ground := Go.Ground.data }, { on := 9, ground := Go.Ground.data }, { on := 7, ground := Go.Ground.guard }, { on := 18, ground := Go.Ground.gcOnly Go.Departure.lateStores }], guard := some (7, true) }, { dst := some 39, op := Go.Op.fieldAddr 176 (Go.Operand.tmp 38) 0, type := 0, pos := "refs.go:13", after := #[{ on := 12, ground := Go.Ground.data }, { on := 7, ground := Go.Ground.guard }, { on := 18, ground := Go.Ground.gcOnly Go.Departure.lateStores }], guard := some (7, true) }, { dst := some 40, op := Go.Op.load 9 (Go.Operand.tmp 39), type := 9, pos := "refs.go:13", after := #[{ on := 13, ground := Go.Ground.data }, { on := 7, ground := Go.Ground.guard }, { on := 18, ground := Go.Ground.gcOnly Go.Departure.lateStores }], guard := some (7, true) }, { dst := some 41, op := Go.Op.move (Go.Operand.tmp 1), type := 9, pos := "refs.go:13", after := #[{ on := 7, ground := Go.Ground.guard }, { on := 18, ground := Go.Ground.gcOnly Go.Departure.lateStores }], guard := some (7, true) }, { dst := some 42, op := Go.Op.binOp Go.BinOp.eql 9 (Go.Operand.tmp 40) (Go.Operand.tmp 41) 9, type := 4, pos := "refs.go:13", after := #[{ on := 14, ground := Go.Ground.data }, { on := 15, ground := Go.Ground.data }, { on := 7, ground := Go.Ground.guard }, { on := 18, ground := Go.Ground.gcOnly Go.Departure.lateStores }], guard := some (7, true) }, { dst := some 43, op := Go.Op.pick (Go.Operand.tmp 33) (Go.Operand.tmp 42) (Go.Operand.const (Go.Value.bool false)), type := 4, pos := "refs.go:13", after := #[{ on := 7, ground := Go.Ground.data }, { on := 16, ground := Go.Ground.data }, { on := 18, ground := Go.Ground.gcOnly Go.Departure.lateStores }], guard := none }, { dst := some 4, op := Go.Op.assign (Go.Operand.tmp 26), type := 3, pos := "refs.go:13", after := #[{ on := 0, ground := Go.Ground.data }, { on := 7, ground := Go.Ground.chain }, { on := 0, ground := Go.Ground.phase }, { on := 1, ground := Go.Ground.textOnly Go.Departure.lateStores }, { on := 2, ground := Go.Ground.textOnly Go.Departure.lateStores }, { on := 3, ground := Go.Ground.textOnly Go.Departure.lateStores }, { on := 4, ground := Go.Ground.textOnly Go.Departure.lateStores }, { on := 5, ground := Go.Ground.textOnly Go.Departure.lateStores }, { on := 6, ground := Go.Ground.textOnly Go.Departure.lateStores }, { on := 7, ground := Go.Ground.textOnly Go.Departure.lateStores }, { on := 8, ground := Go.Ground.textOnly Go.Departure.lateStores }, { on := 9, ground := Go.Ground.textOnly Go.Departure.lateStores }, { on := 10, ground := Go.Ground.textOnly Go.Departure.lateStores }, { on := 11, ground := Go.Ground.textOnly Go.Departure.lateStores }, { on := 12, ground := Go.Ground.textOnly Go.Departure.lateStores }, { on := 13, ground := Go.Ground.textOnly Go.Departure.lateStores }, { on := 14, ground := Go.Ground.textOnly Go.Departure.lateStores }, { on := 15, ground := Go.Ground.textOnly Go.Departure.lateStores }, { on := 16, ground := Go.Ground.textOnly Go.Departure.lateStores }, { on := 17, ground := Go.Ground.textOnly Go.Departure.lateStores }], guard := none }, { dst := some 5, op := Go.Op.assign (Go.Operand.tmp 43), type := 4, pos := "refs.go:13", after := #[{ on := 17, ground := Go.Ground.data }, { on := 18, ground := Go.Ground.chain }, { on := 0, ground := Go.Ground.phase }, { on := 1, ground := Go.Ground.phase }, { on := 2, ground := Go.Ground.phase }, { on := 3, ground := Go.Ground.phase }, { on := 4, ground := Go.Ground.phase }, { on := 5, ground := Go.Ground.phase }, { on := 6, ground := Go.Ground.phase }, { on := 7, ground := Go.Ground.phase }, { on := 8, ground := Go.Ground.phase }, { on := 9, ground := Go.Ground.phase }, { on := 10, ground := Go.Ground.phase }, { on := 11, ground := Go.Ground.phase }, { on := 12, ground := Go.Ground.phase }, { on := 13, ground := Go.Ground.phase }, { on := 14, ground := Go.Ground.phase }, { on := 15, ground := Go.Ground.phase }, { on := 16, ground := Go.Ground.phase }, { on := 17, ground := Go.Ground.phase }, { on := 18, ground := Go.Ground.phase }], guard := none }]
theorem sb_218_4_0 : softB op_218_4 #[true, true, true, true, true, true, true, true, true, true, true, true, true, true, true, true, true, true, true, true] (Array.replicate 20 false) 0 = true := by kernel_rfl
theorem sb_218_4_1 : softB op_218_4 #[true, true, true, true, true, true, true, true, true, true, true, true, true, true, true, true, true, true, true, true] ((Array.replicate 20 false).setIfInBounds 0 true) 1 = true := by kernel_rfl
theorem sb_218_4_2 : softB op_218_4 #[true, true, true, true, true, true, true, true, true, true, true, true, true, true, true, true, true, true, true, true] (((Array.replicate 20 false).setIfInBounds 0 true).setIfInBounds 1 true) 2 = true := by kernel_rfl
theorem sb_218_4_3 : softB op_218_4 #[true, true, true, true, true, true, true, true, true, true, true, true, true, true, true, true, true, true, true, true] ((((Array.replicate 20 false).setIfInBounds 0 true).setIfInBounds 1 true).setIfInBounds 2 true) 3 = true := by kernel_rfl
theorem sb_218_4_4 : softB op_218_4 #[true, true, true, true, true, true, true, true, true, true, true, true, true, true, true, true, true, true, true, true] (((((Array.replicate 20 false).setIfInBounds 0 true).setIfInBounds 1 true).setIfInBounds 2 true).setIfInBounds 3 true) 4 = true := by kernel_rfl
theorem sb_218_4_5 : softB op_218_4 #[true, true, true, true, true, true, true, true, true, true, true, true, true, true, true, true, true, true, true, true] ((((((Array.replicate 20 false).setIfInBounds 0 true).setIfInBounds 1 true).setIfInBounds 2 true).setIfInBounds 3 true).setIfInBounds 4 true) 5 = true := by kernel_rfl
theorem sb_218_4_6 : softB op_218_4 #[true, true, true, true, true, true, true, true, true, true, true, true, true, true, true, true, true, true, true, true] (((((((Array.replicate 20 false).setIfInBounds 0 true).setIfInBounds 1 true).setIfInBounds 2 true).setIfInBounds 3 true).setIfInBounds 4 true).setIfInBounds 5 true) 6 = true := by kernel_rfl
theorem sb_218_4_7 : softB op_218_4 #[true, true, true, true, true, true, true, true, true, true, true, true, true, true, true, true, true, true, true, true] ((((((((Array.replicate 20 false).setIfInBounds 0 true).setIfInBounds 1 true).setIfInBounds 2 true).setIfInBounds 3 true).setIfInBounds 4 true).setIfInBounds 5 true).setIfInBounds 6 true) 7 = true := by kernel_rfl
theorem sb_218_4_8 : softB op_218_4 #[true, true, true, true, true, true, true, true, true, true, true, true, true, true, true, true, true, true, true, true] (((((((((Array.replicate 20 false).setIfInBounds 0 true).setIfInBounds 1 true).setIfInBounds 2 true).setIfInBounds 3 true).setIfInBounds 4 true).setIfInBounds 5 true).setIfInBounds 6 true).setIfInBounds 7 true) 8 = true := by kernel_rfl
theorem sb_218_4_9 : softB op_218_4 #[true, true, true, true, true, true, true, true, true, true, true, true, true, true, true, true, true, true, true, true] ((((((((((Array.replicate 20 false).setIfInBounds 0 true).setIfInBounds 1 true).setIfInBounds 2 true).setIfInBounds 3 true).setIfInBounds 4 true).setIfInBounds 5 true).setIfInBounds 6 true).setIfInBounds 7 true).setIfInBounds 8 true) 9 = true := by kernel_rfl
theorem sb_218_4_10 : softB op_218_4 #[true, true, true, true, true, true, true, true, true, true, true, true, true, true, true, true, true, true, true, true] (((((((((((Array.replicate 20 false).setIfInBounds 0 true).setIfInBounds 1 true).setIfInBounds 2 true).setIfInBounds 3 true).setIfInBounds 4 true).setIfInBounds 5 true).setIfInBounds 6 true).setIfInBounds 7 true).setIfInBounds 8 true).setIfInBounds 9 true) 10 = true := by kernel_rfl
theorem sb_218_4_11 : softB op_218_4 #[true, true, true, true, true, true, true, true, true, true, true, true, true, true, true, true, true, true, true, true] ((((((((((((Array.replicate 20 false).setIfInBounds 0 true).setIfInBounds 1 true).setIfInBounds 2 true).setIfInBounds 3 true).setIfInBounds 4 true).setIfInBounds 5 true).setIfInBounds 6 true).setIfInBounds 7 true).setIfInBounds 8 true).setIfInBounds 9 true).setIfInBounds 10 true) 11 = true := by kernel_rfl
theorem sb_218_4_12 : softB op_218_4 #[true, true, true, true, true, true, true, true, true, true, true, true, true, true, true, true, true, true, true, true] (((((((((((((Array.replicate 20 false).setIfInBounds 0 true).setIfInBounds 1 true).setIfInBounds 2 true).setIfInBounds 3 true).setIfInBounds 4 true).setIfInBounds 5 true).setIfInBounds 6 true).setIfInBounds 7 true).setIfInBounds 8 true).setIfInBounds 9 true).setIfInBounds 10 true).setIfInBounds 11 true) 12 = true := by kernel_rfl
theorem sb_218_4_13 : softB op_218_4 #[true, true, true, true, true, true, true, true, true, true, true, true, true, true, true, true, true, true, true, true] ((((((((((((((Array.replicate 20 false).setIfInBounds 0 true).setIfInBounds 1 true).setIfInBounds 2 true).setIfInBounds 3 true).setIfInBounds 4 true).setIfInBounds 5 true).setIfInBounds 6 true).setIfInBounds 7 true).setIfInBounds 8 true).setIfInBounds 9 true).setIfInBounds 10 true).setIfInBounds 11 true).setIfInBounds 12 true) 13 = true := by kernel_rfl
theorem sb_218_4_14 : softB op_218_4 #[true, true, true, true, true, true, true, true, true, true, true, true, true, true, true, true, true, true, true, true] (((((((((((((((Array.replicate 20 false).setIfInBounds 0 true).setIfInBounds 1 true).setIfInBounds 2 true).setIfInBounds 3 true).setIfInBounds 4 true).setIfInBounds 5 true).setIfInBounds 6 true).setIfInBounds 7 true).setIfInBounds 8 true).setIfInBounds 9 true).setIfInBounds 10 true).setIfInBounds 11 true).setIfInBounds 12 true).setIfInBounds 13 true) 14 = true := by kernel_rfl
theorem sb_218_4_15 : softB op_218_4 #[true, true, true, true, true, true, true, true, true, true, true, true, true, true, true, true, true, true, true, true] ((((((((((((((((Array.replicate 20 false).setIfInBounds 0 true).setIfInBounds 1 true).setIfInBounds 2 true).setIfInBounds 3 true).setIfInBounds 4 true).setIfInBounds 5 true).setIfInBounds 6 true).setIfInBounds 7 true).setIfInBounds 8 true).setIfInBounds 9 true).setIfInBounds 10 true).setIfInBounds 11 true).setIfInBounds 12 true).setIfInBounds 13 true).setIfInBounds 14 true) 15 = true := by kernel_rfl
theorem sb_218_4_16 : softB op_218_4 #[true, true, true, true, true, true, true, true, true, true, true, true, true, true, true, true, true, true, true, true] (((((((((((((((((Array.replicate 20 false).setIfInBounds 0 true).setIfInBounds 1 true).setIfInBounds 2 true).setIfInBounds 3 true).setIfInBounds 4 true).setIfInBounds 5 true).setIfInBounds 6 true).setIfInBounds 7 true).setIfInBounds 8 true).setIfInBounds 9 true).setIfInBounds 10 true).setIfInBounds 11 true).setIfInBounds 12 true).setIfInBounds 13 true).setIfInBounds 14 true).setIfInBounds 15 true) 16 = true := by kernel_rfl
theorem sb_218_4_17 : softB op_218_4 #[true, true, true, true, true, true, true, true, true, true, true, true, true, true, true, true, true, true, true, true] ((((((((((((((((((Array.replicate 20 false).setIfInBounds 0 true).setIfInBounds 1 true).setIfInBounds 2 true).setIfInBounds 3 true).setIfInBounds 4 true).setIfInBounds 5 true).setIfInBounds 6 true).setIfInBounds 7 true).setIfInBounds 8 true).setIfInBounds 9 true).setIfInBounds 10 true).setIfInBounds 11 true).setIfInBounds 12 true).setIfInBounds 13 true).setIfInBounds 14 true).setIfInBounds 15 true).setIfInBounds 16 true) 17 = true := by kernel_rfl
theorem sb_218_4_18 : softB op_218_4 #[true, true, true, true, true, true, true, true, true, true, true, true, true, true, true, true, true, true, true, true] (((((((((((((((((((Array.replicate 20 false).setIfInBounds 0 true).setIfInBounds 1 true).setIfInBounds 2 true).setIfInBounds 3 true).setIfInBounds 4 true).setIfInBounds 5 true).setIfInBounds 6 true).setIfInBounds 7 true).setIfInBounds 8 true).setIfInBounds 9 true).setIfInBounds 10 true).setIfInBounds 11 true).setIfInBounds 12 true).setIfInBounds 13 true).setIfInBounds 14 true).setIfInBounds 15 true).setIfInBounds 16 true).setIfInBounds 17 true) 18 = true := by kernel_rfl
theorem sb_218_4_19 : softB op_218_4 #[true, true, true, true, true, true, true, true, true, true, true, true, true, true, true, true, true, true, true, true] ((((((((((((((((((((Array.replicate 20 false).setIfInBounds 0 true).setIfInBounds 1 true).setIfInBounds 2 true).setIfInBounds 3 true).setIfInBounds 4 true).setIfInBounds 5 true).setIfInBounds 6 true).setIfInBounds 7 true).setIfInBounds 8 true).setIfInBounds 9 true).setIfInBounds 10 true).setIfInBounds 11 true).setIfInBounds 12 true).setIfInBounds 13 true).setIfInBounds 14 true).setIfInBounds 15 true).setIfInBounds 16 true).setIfInBounds 17 true).setIfInBounds 18 true) 19 = true := by kernel_rfl
theorem sb_218_4_20 : hardB op_218_4 (((((((((((((((((((((Array.replicate 20 false).setIfInBounds 0 true).setIfInBounds 1 true).setIfInBounds 2 true).setIfInBounds 3 true).setIfInBounds 4 true).setIfInBounds 5 true).setIfInBounds 6 true).setIfInBounds 7 true).setIfInBounds 8 true).setIfInBounds 9 true).setIfInBounds 10 true).setIfInBounds 11 true).setIfInBounds 12 true).setIfInBounds 13 true).setIfInBounds 14 true).setIfInBounds 15 true).setIfInBounds 16 true).setIfInBounds 17 true).setIfInBounds 18 true).setIfInBounds 19 true) [] = true := by kernel_rfl
/- (*graph.Graph).where -/
def m218_w1 (n : Nat) (g : Graph) (name : Str) (mm : Nat) : Int → Option (Int) := it1 (fun lp1 c1 =>
ob1 (cond (decide (c1 < g.nb)) (Option.bind (ckA c1 4) fun _ =>
some ((sLt ((g.br c1).name) name))) (some (false))) fun c3 =>
cond c3 (
lp1 (wi (c1 + 1))) (
some c1)) mm
def m218 (n : Nat) (g : Graph) (name : Str) : Option (Int × Bool) :=
ob1 (m218_w1 n g name n 0) fun c2 =>
ob2 (cond (decide (c2 < g.nb)) (Option.bind (ckA c2 4) fun _ =>
some (c2, (decide (((g.br c2).name) = name)))) (some (c2, false))) fun c4 c5 =>
some (c4, c5)
theorem t218 {n : Nat} {C : List Chunk} {rc1 : Int} {rc2 : Bool} {b1 : Nat} {g : Graph} {q1 : Option Addr} {name : Str}   (hm : m218 n g name = some (rc1, rc2)) : Trip Tryz.prog 218 #[.pointer (some ⟨b1, 0, none⟩), .string ⟨(name : Str).toArray⟩] ([[(b1, .cells (Graph.enc ((.pointer q1)) g).toArray 179 (0, 0))]] ++ [C]) (fun u S' => .tuple #[.int .i64 rc1, .bool rc2] = u ∧ S' = [[(b1, .cells (Graph.enc ((.pointer q1)) g).toArray 179 (0, 0))]] ++ [C]) := by
  refine fn_entry (args := [.pointer (some ⟨b1, 0, none⟩), .string ⟨(name : Str).toArray⟩]) Tryz.func218 rfl Tryz.ntmps218 rfl (fun w0 => ?_)
  refine c_seq ?_
  refine c_region ?_
  refine o_L (y_assign rfl) rfl rfl ?_
  refine o_L (y_assign rfl) rfl rfl ?_
  refine o_nil0 rfl ?_
  refine c_seq ?_
  refine c_region ?_
  refine o_L (y_assign rfl) rfl rfl ?_
  refine o_nil0 rfl ?_
  refine c_seq ?_
  obtain ⟨c2, hj1, hm⟩ := bd1 hm
  refine c_joinP (n := 0) (fun sh G => sh = [(6, .int .i64 c2)] ∧ G = []) (s_take (s_take s_nil)) .z (fun _ _ h => h) ?_ ?_
  · skip
    refine c_block ?_
    refine c_loopP (n := 0) (fun mm sh G => ∃ (c1 : Int), sh = [(6, .int .i64 c1)] ∧ G = [] ∧ m218_w1 n g name mm c1 = some c2) n (s_take (s_take s_nil)) .z ⟨_, _, ⟨_, rfl, rfl, hj1⟩, ⟨rfl, trivial⟩, _, (s_take (s_take s_nil))⟩ ?_
    rintro mm sh G ⟨c1, rfl, rfl, hm⟩
    obtain ⟨mm1, rfl, hm⟩ := it1_s hm
    refine c_seq ?_
    refine c_seq ?_
    obtain ⟨c3, hj2, hm⟩ := bd1 hm
    refine c_joinP (n := 0) (fun sh G => sh = [(23, .bool c3)] ∧ G = []) Sel.all' .z (fun _ _ h => h) ?_ ?_
    · have hm := hj2
      refine c_region ?_
      refine o_T (y_move rfl) rfl ?_
      refine o_T (y_move rfl) rfl ?_
      refine o_T (y_nilck rfl) rfl ?_
      refine o_T (y_fa fl_179_5 rfl) rfl ?_
      refine o_ld one_3 rfl m0 (At.got (At.refl.comp Graph.a_nb)) rfl ?_
      refine o_T (y_lss rfl rfl) rfl ?_
      refine o_T (y_move rfl) rfl ?_
      refine o_split 13 rfl (fun h1 => ?_) (fun h1 => ?_)
      · have hm := cd_t h1 hm
        refine o_take rfl rfl rfl ?_
        refine o_T (y_move rfl) rfl ?_
        refine o_take rfl rfl rfl ?_
        refine o_T (y_move rfl) rfl ?_
        refine o_take rfl rfl rfl ?_
        refine o_T (y_nilck rfl) rfl ?_
        refine o_take rfl rfl rfl ?_
        refine o_T (y_fa fl_179_4 rfl) rfl ?_
        refine o_take rfl rfl rfl ?_
        obtain ⟨_, hx1, hm⟩ := bd hm
        have hx1 := ckA_some hx1
        refine o_T (y_ia ar_177 rfl rfl hx1.1 hx1.2) rfl ?_
        refine o_take rfl rfl rfl ?_
        refine o_T (y_fa fl_176_0 rfl) rfl ?_
        refine o_take rfl rfl rfl ?_
        refine o_ld one_9 rfl m0 (At.got (((At.refl.comp Graph.a_br).comp (encN_a Brn.len _ _ hx1.1 _ hx1.2)).comp Brn.a_name)) rfl ?_
        refine o_take rfl rfl rfl ?_
        refine o_T (y_move rfl) rfl ?_
        refine o_take rfl rfl rfl ?_
        refine o_T (y_slt rfl rfl) rfl ?_
        refine o_T (y_pickT rfl rfl) rfl ?_
        refine o_nil1 23 rfl rfl ?_
        obtain rfl := p1 hm
        exact ⟨_, _, ⟨rfl, rfl⟩, ⟨rfl, trivial⟩, ⟨rfl, rfl⟩, _, (s_take (s_take s_nil))⟩
      · have hm := cd_f h1 hm
        refine o_pass rfl rfl rfl rfl rfl ?_
        refine o_pass rfl rfl rfl rfl rfl ?_
        refine o_pass rfl rfl rfl rfl rfl ?_
        refine o_pass rfl rfl rfl rfl rfl ?_
        refine o_pass rfl rfl rfl rfl rfl ?_
        refine o_pass rfl rfl rfl rfl rfl ?_
        refine o_pass rfl rfl rfl rfl rfl ?_
        refine o_pass rfl rfl rfl rfl rfl ?_
        refine o_pass rfl rfl rfl rfl rfl ?_
        refine o_T (y_pickF rfl rfl) rfl ?_
        refine o_nil1 23 rfl rfl ?_
        obtain rfl := p1 hm
        exact ⟨_, _, ⟨rfl, rfl⟩, ⟨rfl, trivial⟩, ⟨rfl, rfl⟩, _, (s_take (s_take s_nil))⟩
    · rintro sh G ⟨rfl, rfl⟩
      refine c_cond rfl (fun h2 => ?_) (fun h2 => ?_)
      · have hm := cd_t h2 hm
        refine c_skip ?_
        refine c_block ?_
        refine c_region ?_
        refine o_T (y_move rfl) rfl ?_
        refine o_T (y_add rfl rfl rfl) rfl ?_
        refine o_L (y_assign rfl) rfl rfl ?_
        refine o_nil0 rfl ?_
        exact ⟨mm1, Nat.lt_succ_self _, _, _, ⟨_, rfl, rfl, hm⟩, ⟨rfl, trivial⟩, ⟨rfl, rfl⟩, _, (s_take (s_take s_nil))⟩
      · have hm := cd_f h2 hm
        refine c_exit ?_
        obtain rfl := p1 hm
        exact ⟨_, _, ⟨rfl, rfl⟩, ⟨rfl, trivial⟩, ⟨rfl, rfl⟩, _, (s_take (s_take s_nil))⟩
  · rintro sh G ⟨rfl, rfl⟩
    refine c_seq ?_
    obtain ⟨c4, c5, hj3, hm⟩ := bd2 hm
    refine c_joinP (n := 0) (fun sh G => sh = [(4, .int .i64 c4), (5, .bool c5)] ∧ G = []) Sel.all' .z (fun _ _ h => h) ?_ ?_
    · have hm := hj3
      refine c_draw #[true, true, true, true, true, true, true, true, true, true, true, true, true, true, true, true, true, true, true, true] rfl (n := 20) rfl ?_
      refine d_T 0 rfl sb_218_4_0 rfl (y_move rfl) rfl ?_
      refine d_T 1 rfl sb_218_4_1 rfl (y_move rfl) rfl ?_
      refine d_T 2 rfl sb_218_4_2 rfl (y_move rfl) rfl ?_
      refine d_T 3 rfl sb_218_4_3 rfl (y_nilck rfl) rfl ?_
      refine d_T 4 rfl sb_218_4_4 rfl (y_fa fl_179_5 rfl) rfl ?_
      refine d_ld 5 rfl sb_218_4_5 one_3 rfl (fun x hx => hx) m0 (At.got (At.refl.comp Graph.a_nb)) rfl ?_
      refine d_T 6 rfl sb_218_4_6 rfl (y_lss rfl rfl) rfl ?_
      refine d_T 7 rfl sb_218_4_7 rfl (y_move rfl) rfl ?_
      refine d_split 33 rfl (fun h3 => ?_) (fun h3 => ?_)
      · have hm := cd_t h3 hm
        refine d_Tg 8 rfl rfl rfl rfl sb_218_4_8 rfl (y_move rfl) rfl ?_
        refine d_Tg 9 rfl rfl rfl rfl sb_218_4_9 rfl (y_move rfl) rfl ?_
        refine d_Tg 10 rfl rfl rfl rfl sb_218_4_10 rfl (y_nilck rfl) rfl ?_
        refine d_Tg 11 rfl rfl rfl rfl sb_218_4_11 rfl (y_fa fl_179_4 rfl) rfl ?_
        obtain ⟨_, hx2, hm⟩ := bd hm
        have hx2 := ckA_some hx2
        refine d_Tg 12 rfl rfl rfl rfl sb_218_4_12 rfl (y_ia ar_177 rfl rfl hx2.1 hx2.2) rfl ?_
        refine d_Tg 13 rfl rfl rfl rfl sb_218_4_13 rfl (y_fa fl_176_0 rfl) rfl ?_
        refine d_ldt 14 rfl rfl rfl rfl sb_218_4_14 one_9 rfl (fun x hx => hx) m0 (At.got (((At.refl.comp Graph.a_br).comp (encN_a Brn.len _ _ hx2.1 _ hx2.2)).comp Brn.a_name)) rfl ?_
        refine d_Tg 15 rfl rfl rfl rfl sb_218_4_15 rfl (y_move rfl) rfl ?_
        refine d_Tg 16 rfl rfl rfl rfl sb_218_4_16 rfl (y_seq rfl rfl) rfl ?_
        refine d_T 17 rfl sb_218_4_17 rfl (y_pickT rfl rfl) rfl ?_
        refine d_L 18 rfl sb_218_4_18 rfl (y_assign rfl) rfl rfl ?_
        refine d_L 19 rfl sb_218_4_19 rfl (y_assign rfl) rfl rfl ?_
        refine d_nil0 sb_218_4_20 rfl ?_
        obtain ⟨rfl, rfl⟩ := pr2 hm
        exact ⟨_, _, ⟨rfl, rfl⟩, ⟨rfl, rfl, trivial⟩, ⟨rfl, rfl⟩, _, (s_take (s_take s_nil))⟩
      · have hm := cd_f h3 hm
        refine d_pass 8 rfl rfl rfl rfl rfl sb_218_4_8 (fun x hx => hx) rfl ?_
        refine d_pass 9 rfl rfl rfl rfl rfl sb_218_4_9 (fun x hx => hx) rfl ?_
        refine d_pass 10 rfl rfl rfl rfl rfl sb_218_4_10 (fun x hx => hx) rfl ?_
        refine d_pass 11 rfl rfl rfl rfl rfl sb_218_4_11 (fun x hx => hx) rfl ?_
        refine d_pass 12 rfl rfl rfl rfl rfl sb_218_4_12 (fun x hx => hx) rfl ?_
        refine d_pass 13 rfl rfl rfl rfl rfl sb_218_4_13 (fun x hx => hx) rfl ?_
        refine d_pass 14 rfl rfl rfl rfl rfl sb_218_4_14 (fun x hx => hx) rfl ?_
        refine d_pass 15 rfl rfl rfl rfl rfl sb_218_4_15 (fun x hx => hx) rfl ?_
        refine d_pass 16 rfl rfl rfl rfl rfl sb_218_4_16 (fun x hx => hx) rfl ?_
        refine d_T 17 rfl sb_218_4_17 rfl (y_pickF rfl rfl) rfl ?_
        refine d_L 18 rfl sb_218_4_18 rfl (y_assign rfl) rfl rfl ?_
        refine d_L 19 rfl sb_218_4_19 rfl (y_assign rfl) rfl rfl ?_
        refine d_nil0 sb_218_4_20 rfl ?_
        obtain ⟨rfl, rfl⟩ := pr2 hm
        exact ⟨_, _, ⟨rfl, rfl⟩, ⟨rfl, rfl, trivial⟩, ⟨rfl, rfl⟩, _, (s_take (s_take s_nil))⟩
    · rintro sh G ⟨rfl, rfl⟩
      refine c_ret ?_
      obtain ⟨rfl, rfl⟩ := pr2 hm
      refine fun aX wX heX hsX => ret2 Tryz.results218 heX rfl rfl (s_take (s_take s_nil)) ?_
      exact ⟨rfl, rfl⟩
end Go.Proofs.Qxb6500350aGreat
